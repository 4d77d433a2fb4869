import PyProof.Rows.All
import Wide.All
import OpenK.AllK
import Wide.FinOn
import HandS.Base
import HandS.Call
import HandS.List
import HandS.Exc
import HandS.ExcOwn
import HandS.TryOnly
import HandS.Lambda
import HandS.Words
import HandS.IsInst
import HandS.ExcIs
import HandS.ExcField
import KE.KExcIs
import KE.KExcSuper
import KE.KSuper
import HandS.Defaults
import HandS.HeadWalk
import HandS.ForMost
import HandS.ForExc
import HandS.Rev
import HandS.Flow
import HandS.Style
import HandS.TupMul
import HandS.TupAny
import KE.SortData
import HandS.TupSets
import KE.GoesMore
import HandS.FStr
import KE.KRevSl
import PyProof.StrBlock2
import KE.KMulAny
import HandS.Conv
import HandS.SortInts
import HandS.Codes
import HandS.StrMore
import HandS.ForDict
import KE.KStateDown
import Lean
import HandS.Ends
import HandS.More
import HandS.WordsExc
import HandS.Head0
import HandS.Head1
import HandS.Head2
import HandS.HeadEnd
import HandS.HeadHook1
import HandS.HeadHook2
import HandS.HeadHook3
import HandS.HeadHook4
import PySem.Challenge.RW_meankept_k68_whole_no_product_of_powers
set_option Elab.async false
set_option linter.all false
set_option maxRecDepth 100000
set_option maxHeartbeats 4000000
namespace L2
open PySem PySem.Spec PyProof.Rows
/-- an exception object that is held: its class, its own dict -/
def XO (cls : Value) (d : Option Addr) (a : Addr) : HO := .ext fun h => ∃ (oe : Obj) (vs : Array Value), h.get? a = some oe ∧ Zc cls d oe ∧ oe.data = .fields vs
theorem xo_ok {P : Program} {w : World} {H : Hp} {h : Heap} {a : Addr} {cls : Value} {d : Option Addr} {oe : Obj} {vs : Array Value} (e : h.get? a = some oe) (z : Zc cls d oe) (hd : oe.data = .fields vs) : ObjOk P w H h a (XO cls d a) :=
  ⟨⟨oe, vs, e, z, hd⟩, ⟨oe, e⟩, fun _ _ ⟨o, v, q, r⟩ k => ⟨o, v, k o q, r⟩⟩
section
variable {X : Cx} {pins : List (Addr × Obj)} {σ : St} {H : Hp} {s : Shared}
theorem Inv.track {a : Addr} {oe : Obj} {vs : Array Value} {cls : Value} {d : Option Addr} (I : Inv X pins σ H s) (ha : s.heap.get? a = some oe) (hd : oe.data = .fields vs) (hz : Zc cls d oe) (na : H a = none)
    (n0 : X.s_0.heap.get? a = none) (nL : a ≠ X.env.locals) (npin : ∀ p ∈ X.pn ++ pins, p.1 ≠ a) : Inv X pins σ (upd H a (XO cls d a)) s := by
  have ne : ∀ b o, H b = some o → b ≠ a := fun b o e z => by rw [z, na] at e; cases e
  refine ⟨I.ok, I.os, I.bare, ⟨I.base.keep, I.base.slot, fun b o e n hx => ?_, I.base.there, fun b xs e => ?_, fun b o u e => ?_, fun b ps e => ?_⟩, I.loc, I.cell, ?_, fun x c e => ?_, fun p hp => ?_, fun b u e => ?_, I.len⟩
  · have hb : b ≠ a := fun z => by rw [z, n0] at e; cases e
    rw [upd_ne hb]
    exact I.base.free b o e n hx
  · have q := I.base.tups b xs e
    rw [upd_ne (ne b _ q)]
    exact q
  · have q := I.base.frzs b o u e
    rw [upd_ne (ne b _ q)]
    exact q
  · obtain ⟨m, q⟩ := I.base.tbls b ps e
    exact ⟨m, by rw [upd_ne (ne b _ q)]; exact q⟩
  · rw [upd_ne (Ne.symm nL)]
    exact I.free
  · have hc : c ≠ a := fun z => by
      obtain ⟨v, o, ho, hv⟩ := I.cell x c e
      rw [z, ha] at ho
      cases ho
      rw [hd] at hv
      cases hv
    rw [upd_ne hc]
    exact I.freeC x c e
  · obtain ⟨e1, e2, e3, e4, e5⟩ := I.pin p hp
    exact ⟨e1, by rw [upd_ne (npin p hp)]; exact e2, e3, e4, e5⟩
  · by_cases hb : b = a
    · rw [hb] at e ⊢
      rw [upd_same] at e
      cases e
      exact xo_ok ha hz hd
    · rw [upd_ne hb] at e
      refine (I.hok b u e).stay (fun c v _ q => q) (fun c q => ?_) fun c xs q => ?_
      · rw [upd_ne (ne c _ q)]
        exact q
      · rw [upd_ne (ne c _ q)]
        exact q
end
end L2
namespace L2
open PySem PySem.Spec PyProof.Rows
/-- what the clause 'except x as n' wishes; the exception stays known behind the suite -/
def wKeep (K : PySem.W.Frag) (c : Value) (i : Nat) (ts : Addr → Value → Option Addr → TS) (Wout : WX) (D : Ends) : WX := fun cls d σ H =>
  ∃ b, PySem.W.exmOne K cls c = some b ∧ (b = true → ∀ a, H a = none → ts a cls d { nx := fun σ' H' => D.nx (σ'.set i none) (upd H' a (XO cls d a)), rt := fun _ _ => False, bk := fun _ _ => False, ct := fun _ _ => False } (σ.set i (some (.ref a))) H) ∧
    (b = false → Wout cls d σ H)
section
variable {X : Cx} {x n : Str} {c : Value} {i : Nat} {body suite : List Stmt} {b₀ : Stmt} {np pos pos' : Pos} {tb : WX → TS} {ts : Addr → Value → Option Addr → TS} {Wout : WX}
theorem ps_try_keep (hs : X.stack = X.env :: X.outer) (hf : X.env.frame = some X.env.locals) (hex : X.ex = []) (hN : X.N.Nodup) (hi : X.N[i]? = some n) (hln : X.env.kindOf n = some .local) (hc : Names X x c) (tk : Takes X Wout)
    (hb : ∀ (W : WX) (pn : List (Addr × Obj)) (xe : Value → Shared → Prop), Takes (X.tr pn xe) W → PassesOwn (model X.prog X.w) X.A X.env xe → PSs (X.tr pn xe) body (tb W))
    (hsu : ∀ (a : Addr) (oe : Obj) (cls : Value) (d : Option Addr) (pn : List (Addr × Obj)), Zc cls d oe → (∃ vs, oe.data = .fields vs) → PSs (X.suite a ((a, oe) :: pn)) (b₀ :: suite) (ts a cls d)) :
    PS X (.Try body [.ExceptHandler (some (.Name x np)) (some n) (b₀ :: suite) pos'] [] [] pos) (fun D σ H => tb (wKeep X.K c i ts Wout D) D σ H) := by
  refine ⟨fun pins s σ H D I h => ?_⟩
  have ok := I.ok
  have hfr : X.A.frames = some (X.env :: X.outer) := by rw [ok.frames, hs]
  have hloc : Loc X.env.scope n := .inl hln
  refine wpAny_Try_except ?_
  refine wpAny_mono ((hb (wKeep X.K c i ts Wout D) (X.pn ++ pins) (fun e s₁ => wpAny (model X.prog X.w) X.A (noteFrame e X.env) (fun _ s₂ => wpAny (model X.prog X.w) X.A (setFlight e none) (fun _ s₃ =>
    wpAny (model X.prog X.w) X.A (handleBy e X.env [.ExceptHandler (some (.Name x np)) (some n) (b₀ :: suite) pos']) (SP X pins D) X.xe s₃) X.xe s₂) X.xe s₁) (fun u s' xx => ?_) PassesOwn.looking).run [] s σ H D (I.toTry _) h) (fun f s1 hsp => ?_) (fun e s1 he => he)
  · obtain ⟨a, B, sI, pins', σ', H', cls, d, rfl, J', nb, up, sky, na, os, ag, b, hb1, hyes, hno⟩ := xx
    have J : Inv X pins σ' H' sI := J'.ofTry ok
    have sky' : Sky B (X.env :: X.outer) a (Zc cls d) X.env.locals s'.heap := by rw [← hs]; exact sky
    show wpAny (model X.prog X.w) X.A (noteFrame (.ref a) X.env) _ _ _
    refine Sky.land Zc.steady hfr hf sky' fun h3 fl3 up3 => ?_
    have J3 : Inv X pins σ' H' { s' with heap := h3 } := J.landed nb fl3.1 (up.trans up3) os ag
    obtain ⟨oe3, vs3, he3, hz3, hd3⟩ := fl3.there
    have notFr : ∀ {h : Heap} {o : Obj} {vs : Array Value}, h.FunFrames B (X.env :: X.outer) → h.get? a = some o → o.data = .fields vs → a ∉ frs (X.env :: X.outer) := fun {h o vs} ff e dd hm => by
      obtain ⟨_, o', e', hnf⟩ := ff.mem hm
      rw [e] at e'; cases e'
      exact hnf _ dd
    have nfr := notFr fl3.2.2.1 he3 hd3
    have nL : a ≠ X.env.locals := fun z => nfr (List.mem_filterMap.mpr ⟨X.env, List.mem_cons_self, by rw [hf, z]⟩)
    have nF : a ∉ X.fs := fun hm => by
      obtain ⟨e, he, q⟩ := List.mem_filterMap.mp hm
      exact nfr (List.mem_filterMap.mpr ⟨e, List.mem_cons_of_mem _ he, q⟩)
    have nI : ∀ o, sI.heap.get? a = some o → False := fun o e => by
      have q := nb a o e (by rw [hs]; exact nfr)
      rw [fl3.2.1] at q
      cases q
    have n0 : X.s_0.heap.get? a = none := by
      cases e : X.s_0.heap.get? a with
      | none => rfl
      | some o =>
        obtain ⟨o', e'⟩ := J.base.there a o e (by rw [hex]; exact fun z => nomatch z)
        exact (nI o' e').elim
    have npin : ∀ p ∈ X.pn ++ pins, p.1 ≠ a := fun p hp z => by
      have q := (J.pin p hp).1
      rw [z] at q
      exact nI _ q
    have S3 := J3.suite he3 hd3 na nL nF
    refine wpAny_handleBy_cons (codeAny_handlers_test ?_) (by intro q; cases q)
    have LT : PySem.W.Looks (model X.prog X.w) h3 (typeOf (.ref a)) cls := fun A Q E s k q => wpAny_typeOf_ref (k _ _ he3) (by rw [hz3.1]; exact q)
    have LM := PySem.W.exm_one (M := model X.prog X.w) (J3.kIn) LT hb1
    have test : ∀ {Q : Value → Shared → Prop} {E : Value → Shared → Prop}, Q c { s' with heap := h3 } → wpAny (model X.prog X.w) (X.A.mark (some (.ref a))) (eval (.Name x np) X.env) Q E { s' with heap := h3 } := fun {Q E} q => by
      obtain ⟨hg, hdbg, hm | ⟨hm, hv, hnn⟩⟩ := hc
      · exact ld_glob (X := X.suite a ((a, oe3) :: (X.pn ++ pins))) S3 hg hm q hdbg
      · exact ld_blt (X := X.suite a ((a, oe3) :: (X.pn ++ pins))) S3 hg hm hv q hnn hdbg
    refine test (LM.here ?_)
    cases b with
    | true =>
      refine codeAny_handlers_suite_as ?_
      refine HandSPX.lands_againZ fl3 fun h4 fl4 up4 => ?_
      have J4 : Inv X pins σ' H' { s' with heap := h4 } := J.landed nb fl4.1 ((up.trans up3).trans up4) os ag
      obtain ⟨oe4, vs4, he4, hz4, hd4⟩ := fl4.there
      have S4 := J4.suite he4 hd4 na nL nF
      refine store_ok (X := X.suite a ((a, oe4) :: (X.pn ++ pins))) (v := .ref a) S4 hN hi hloc rfl (fun s5 S5 => ?_) (.inr hln)
      refine wpAny_mono ((hsu a oe4 cls d (X.pn ++ pins) hz4 ⟨_, hd4⟩).run [] s5 _ H' _ S5 (hyes rfl a na)) (fun f s6 hsp => ?_) (fun _ _ z => False.elim z)
      cases f with
      | next =>
        obtain ⟨σ6, H6, S6, q6⟩ := hsp
        obtain ⟨p1, p2, _⟩ := S6.pin (a, oe4) (List.mem_append_left _ List.mem_cons_self)
        have T6 := (S6.unsuite ok).track (vs := vs4) p1 hd4 hz4 p2 n0 nL npin
        exact gone_ok T6 hN hi hln fun s7 J7 => ⟨_, _, J7, q6⟩
      | brk =>
        obtain ⟨σ6, H6, S6, q6⟩ := hsp
        exact q6.elim
      | cont =>
        obtain ⟨σ6, H6, S6, q6⟩ := hsp
        exact q6.elim
      | ret u =>
        obtain ⟨v6, σ6, H6, S6, r6, q6⟩ := hsp
        exact q6.elim
    | false =>
      show wpAny _ X.A (handleBy (.ref a) X.env []) _ _ _
      refine wpAny_handleBy_nil ?_
      obtain ⟨k1, k2, k3, oe, vs, T, oT, ts', he, hz, hd, h1, hr⟩ := id fl3
      unfold PySem.passOn
      refine wpAny_bind (wpAny_field he hd h1 ?_)
      rw [if_neg (show ¬ ((Value.ref T == Value.none) = true) from by simp)]
      have fin : wpAny (model X.prog X.w) X.A (setFlight (.ref a) X.env.frame) (fun _ s4 => wpAny (model X.prog X.w) X.A (throw (.ref a) : Sem Flow) (SP X pins D) X.xe s4) X.xe { s' with heap := h3 } := by
        rw [hf]
        refine HandSPX.setFlight_upZ fl3 fun h4 hh4 up4 => wpAny_throw (tk _ _ ?_)
        exact ⟨a, B, sI, pins, σ', H', cls, d, rfl, J, nb, (up.trans up3).trans up4, .inr (.inr (by rw [hs]; exact hh4)), na, os, ag, hno rfl⟩
      first
        | exact wpAny_bind (wpAny_pure (wpAny_bind fin))
        | exact wpAny_bind fin
  · cases f with
    | next =>
      obtain ⟨σ', H', J', q⟩ := hsp
      exact wpAny_execs_nil ⟨σ', H', J'.ofTry ok, q⟩
    | brk =>
      obtain ⟨σ', H', J', q⟩ := hsp
      exact ⟨σ', H', J'.ofTry ok, q⟩
    | cont =>
      obtain ⟨σ', H', J', q⟩ := hsp
      exact ⟨σ', H', J'.ofTry ok, q⟩
    | ret u =>
      obtain ⟨v, σ', H', J', r, q⟩ := hsp
      exact ⟨v, σ', H', J'.ofTry ok, r, q⟩
end
end L2
namespace L2
open PySem PySem.Spec PyProof.Rows LamX
/-- found = None / try: action() / except KeepError as error: found = error / return found -/
def TTcaught (K : PySem.W.Frag) (CS : Addr) : (XK → Hp → VK → Prop) → Hp → VK → Prop := fun tl H Q =>
  tl (fun cls d H' => PySem.W.exmOne K cls (.ref CS) = some true ∧ ∀ a, H' a = none → Q (.ref a) (upd H' a (XO cls d a))) H (fun _ H' => ∃ v : V, (some (some V.non) : Option (Option V)) = some (some v) ∧ Q v H')
theorem caught_gives {X : Cx} {x a fo er e q : Str} {sg : Scope} {g CS : Addr} {cdg : Value} {j : Nat} {p1 p2 p3 p4 p5 p6 p7 p8 p9 p10 p11 p12 p13 p14 p15 : Pos} (Sg : FnScope [a, fo, er] [a] sg)
    (hge : sg.names.lookup e = some .globalImplicit) (hme : X.mg e = some (.ref CS)) (hde : (e == ("__debug__" : Str)) = false) (hfo : sg.names.lookup fo = some .local) (her : sg.names.lookup er = some .local)
    (hfd : (fo == ("__debug__" : Str)) = false) (hfc : (fo == ("__classdict__" : Str)) = false) (hed : (er == ("__debug__" : Str)) = false) (hec : (er == ("__classdict__" : Str)) = false) :
    GivesTo X [a, fo, er] x sg g cdg [.Assign [.Name fo p1] (.Constant .none j p2) p3, .Try [.Expr (.Call (.Name a p4) [] [] p5) p6] [.ExceptHandler (some (.Name e p7)) (some er) [.Assign [.Name fo p8] (.Name er p9) p10] p11] [] [] p12, .Return (some (.Name fo p13)) p14] a q (TTcaught X.K CS) := by
  intro f c' s H Q tl act hc h
  have hgl : Gl (cxOf C8.CX0 X.prog X.w X.K X.mg X.base [a, fo, er] x sg g cdg X.A X.stack s H C8.E0).nox e := hge
  have hv1 : Vis sg fo := .inl hfo
  have hv2 : Vis sg er := .inl her
  refine ⟨_, pss_cons (ps_set (i := 1) Sg.nd rfl (Or.inl hfo) pe_non) (pss_cons (ps_try_keep (X := (cxOf C8.CX0 X.prog X.w X.K X.mg X.base [a, fo, er] x sg g cdg X.A X.stack s H C8.E0).nox) (c := .ref CS) (i := 2)
      (tb := fun W D σ H => ∃ Ech : XK, (∀ cls d H', Ech cls d H' → ∀ σ' : St, σ'.length = 3 → W cls d σ' H') ∧ σ[0]? = some (some (.ref f)) ∧ H c' = some (CodeO c' q) ∧ tl Ech H fun _ H' => D.nx σ H')
      rfl rfl rfl Sg.nd rfl her ⟨hgl, hde, .inl hme⟩ takes0 (fun W pn xe tk _ => ?_) (fun a oe cls d pn _ _ => pss_one (ps_set (i := 1) Sg.nd rfl (Or.inl hfo) (pv 2 rfl hv2 hed hec)))) (pss_one (ps_ret (pv 1 rfl hv1 hfd hfc)))), ?_⟩
  · refine ⟨fun pins s' σ H' D I h' => ?_⟩
    obtain ⟨Ech, hW, h1, h2, h3⟩ := h'
    have hp := act (fun cls d σ' H' => σ'.length = 3 → W cls d σ' H') pn xe Ech p4 p5 (fun u s1 xx => by
      obtain ⟨a, B, sI, pins, σ, H, cls, d, e, I, nb, up, sky, na, os, ag, w⟩ := xx
      exact tk _ _ ⟨a, B, sI, pins, σ, H, cls, d, e, I, nb, up, sky, na, os, ag, w I.len⟩) (fun cls d σ' H' e hl => hW cls d H' e σ' hl)
    have hq := pss_one (ps_expr (pos := p6) hp)
    exact hq.run pins s' σ H' D I ⟨h1, h2, h3⟩
  · refine ⟨fun cls d H' => PySem.W.exmOne X.K cls (.ref CS) = some true ∧ ∀ a, H' a = none → Q (.ref a) (upd H' a (XO cls d a)), fun cls d H' ⟨e1, e2⟩ σ' hl => ⟨true, e1, fun _ a na => ?_, fun z => Bool.noConfusion z⟩, rfl, hc, ?_⟩
    · match σ', hl with
      | [_, _, _], _ => exact ⟨.ref a, rfl, .ref a, rfl, e2 a na⟩
    · exact h
end L2

namespace L2
open PySem PySem.Spec PyProof.Rows
/-- the exception object that is held at a: its class C, its own fields -/
def ExV (H : Hp) (a C : Addr) (fs : List (Str × V)) : Prop := (H a = some (XO (.ref C) none a) ∧ fs = []) ∨ ∃ dd : Addr, H a = some (XO (.ref C) (some dd) a) ∧ H dd = some (.xd fs)
theorem ExV.inst {X : Cx} {pins : List (Addr × Obj)} {σ : St} {H : Hp} {s : Shared} {a C : Addr} {fs : List (Str × V)} (I : Inv X pins σ H s) (h : ExV H a C fs) : ∃ (oe : Obj) (od : Option Obj), PySem.W.InstAt s.heap a oe C od := by
  rcases h with ⟨h, _⟩ | ⟨dd, h, h2⟩
  · obtain ⟨⟨oe, vs, ho, hz, hd⟩, _, _⟩ := I.hok a _ h
    exact ⟨oe, none, ho, hz.1, by unfold PySem.W.notCls; rw [hd] <;> rfl, by rw [hz.2]; trivial⟩
  · obtain ⟨⟨oe, vs, ho, hz, hd⟩, _, _⟩ := I.hok a _ h
    obtain ⟨mA, hns, hr⟩ := (show ObjOk X.prog X.w H s.heap dd (.xd fs) from I.hok dd _ h2)
    obtain ⟨od, ho2, hl⟩ := lookIn_ns hns
    exact ⟨oe, some od, ho, hz.1, by unfold PySem.W.notCls; rw [hd] <;> rfl, by rw [hz.2]; exact ho2⟩
/-- isinstance(e, c), e an exception object that is held -/
def rIsX (K : PySem.W.Frag) : List V → Hp → VK → Prop := fun xs H Q => ∃ (a C : Addr) (fs : List (Str × V)) (c : V) (cv : Value) (b : Bool), xs = [.ref a, c] ∧ ExV H a C fs ∧ ExcC K C ∧ (∀ u, RelV c u → u = cv) ∧ PySem.W.kitOne K (.ref C) cv = some b ∧ Q (.bl b) H
theorem call_isX {X : Cx} : CallR X (.builtin "isinstance") (rIsX X.K) := by
  intro pins s σ H xs us Q I r h
  obtain ⟨a, C, fs, c, cv, b, rfl, hx, T, hcv, e, q⟩ := h
  cases r with
  | cons rx rr =>
    cases rr with
    | cons rt rr =>
      cases rr
      cases rx
      have ec := hcv _ rt
      subst ec
      obtain ⟨oe, od, J⟩ := hx.inst I
      have hcl : (PySem.W.clsIn X.K C).isSome = true := by
        obtain ⟨cd, hc, _⟩ := PySem.W.any_some T.hd
        rw [hc] <;> rfl
      exact PySem.W.kia_one (PySem.W.kitx_exc hcl T.hg T.hk T.hs T.ha T.hn T.ht T.hm) I.kIn J e (fun z => nomatch z) fun tk => ⟨.bl b, H, I.kept (t' := tk) fun _ _ z => z, rfl, q⟩
/-- isinstance(x, c) of either kind -/
def rIsA (K : PySem.W.Frag) : List V → Hp → VK → Prop := fun xs H Q => rIsX K xs H Q ∨ rIsi K xs H Q
theorem call_isA {X : Cx} : CallR X (.builtin "isinstance") (rIsA X.K) := by
  intro pins s σ H xs us Q I r h
  rcases h with h | h
  · exact call_isX pins s σ H xs us Q I r h
  · exact call_isi pins s σ H xs us Q I r h
/-- e.n, e an exception object that is held -/
def tXv (K : PySem.W.Frag) (n : Str) (te : TE) : TE := fun σ H Q => te σ H fun x H1 => ∃ (a C dd : Addr) (fs : List (Str × V)) (v : V), x = .ref a ∧ H1 a = some (XO (.ref C) (some dd) a) ∧ H1 dd = some (.xd fs) ∧ XfC K C ∧ PySem.W.findIn K (.ref C) n = some none ∧ fs.lookup n = some v ∧ Q v H1
theorem pe_xv {X : Cx} {e : Expr} {te : TE} {pos : Pos} {n : Str} (he : PE X e te) (hb : attributeBase e n X.env (eval e X.env) = eval e X.env := by rfl) : PE X (.Attribute e n pos) (tXv X.K n te) := by
  refine ⟨fun pins s σ H Q I h => ?_⟩
  refine attr_of hb (thn (he.run pins s σ H _ I h) fun u s1 hh => ?_)
  obtain ⟨x, H1, I1, rx, a, C, dd, fs, v, rfl, h1, h2, T, hno, l, q⟩ := hh
  obtain rfl : u = Value.ref a := rx
  obtain ⟨⟨oe, vs, ho, hz, hd⟩, _, _⟩ := I1.hok a _ h1
  obtain ⟨mA, hns, hr⟩ := (show ObjOk X.prog X.w H1 s1.heap dd (.xd fs) from I1.hok dd _ h2)
  obtain ⟨od, ho2, hl⟩ := lookIn_ns hns
  obtain ⟨u, hu, ru⟩ := RelO.some_of (v := v) (o := mA n) (by rw [← l]; exact hr n)
  have J : PySem.W.InstAt s1.heap a oe C (some od) := ⟨ho, hz.1, by unfold PySem.W.notCls; rw [hd] <;> rfl, by rw [hz.2]; exact ho2⟩
  exact HandSPX.exc_get I1.kIn J T.ga T.gg T.exC (PySem.W.findObj_own T.hdC hno rfl (by rw [hl, hu])) (handed_of ru) ⟨v, H1, I1.tok _, ru, q⟩
end L2
namespace SupX
open PySem PySem.W PySem.Calls PyProof.Rows PySem.HandSPX
/-! ### the text: super().__init__(msg); self.fld = fld -/
def iA (fld : Str) (p1 p2 : Pos) : Arguments := { posonlyargs := [], args := [{ arg := "self", annotation := none, pos := p1 }, { arg := fld, annotation := none, pos := p2 }], vararg := none, kwonlyargs := [], kw_defaults := [], kwarg := none, defaults := [] }
def iB (fld msg : Str) (j : Nat) (a1 a2 a3 a4 a5 a6 q1 q2 q3 q4 : Pos) : List Stmt :=
  [.Expr (.Call (.Attribute (.Call (.Name "super" a1) [] [] a2) "__init__" a3) [.Constant (.str msg) j a4] [] a5) a6, .Assign [.Attribute (.Name "self" q1) fld q2] (.Name fld q3) q4]
def iS (fld : Str) : Scope := { kind := .function, names := [(PySem.Str.ofString "self", .local), (fld, .local), (PySem.Str.ofString "__class__", .free), (PySem.Str.ofString "super", .globalImplicit)], isGenerator := false, isCoroutine := false, more := [] }
/-- what the written part says of the class at C and of its __init__ at fI -/
structure SupTxt (prog : Program) (K : Frag) (mg : Str → Option Value) (x fld msg : Str) (C fI cc : Addr) : Prop where
  gC : mg x = some (.ref C)
  cls : ∃ nm q N bs bm sn sub ab col dd k0 k1 k2 k3 k5, K.lookup C = some (excClassObj nm q C N bs bm true sn sub ab col dd k0 k1 k2 k3 k5 "ValueError.__new__") ∧ refsVE bm = true ∧
    alongIn K "__init__" bm = some (some (.builtin "ValueError.__init__"))
  sa : findIn K (.ref C) "__setattr__" = some (some (.builtin "object.__setattr__"))
  noN : findIn K (.ref C) fld = some none
  iC : findIn K (.ref C) "__init__" = some (some (.ref fI))
  tC : typeIn K (.ref fI) = some (.type "function")
  kC : keepIn K (.ref C) = true
  exC : subIn K (.ref C) (.type "BaseException") = some true
  veC : subIn K (.ref C) (.type "ValueError") = some true
  tyC : typeIn K (.ref C) = some (.type "type")
  third : nsIn K cStatics "thirdparty.any" = some none
  sup : mg "super" = none
  cell : ∃ cl cld csl, K.lookup cc = some ⟨cl, cld, .cell (some (.ref C)), csl⟩
  top : (prog.main.scope.names.lookup ("super" : Str)).isSome = false
  fn : ∃ (oc : Value) (od : Option Addr) (doc pm : Value) (an : Option Addr) (cda : Addr) (ct : Value) (osl : Array (Option Value)) (q : Str) (j : Nat) (p1 p2 a1 a2 a3 a4 a5 a6 q1 q2 q3 q4 : Pos),
    K.lookup fI = some ⟨oc, od, .func (ksFn "__init__" q (iA fld p1 p2) (iB fld msg j a1 a2 a3 a4 a5 a6 q1 q2 q3 q4) (iS fld) .none .none doc pm an (.ref cda) ct cc), osl⟩ ∧ codeIn K (.ref cda) q = true ∧
    (a3.endLine == a5.line) = true ∧ ∃ ccl cdd vs ccs file tf, K.lookup cda = some ⟨ccl, cdd, .fields vs, ccs⟩ ∧ vs[2]? = some (.str file tf) ∧ ((prog.main.file : Str) == file) = true
/-- what __init__ leaves of a fresh exception at x -/
structure SupEnd (h h' : Heap) (x C dx : Addr) (fld : Str) (v : Value) : Prop where
  keep : ∀ b o, b ≠ x → h.get? b = some o → h'.get? b = some o
  obj : ∃ t1, h'.get? x = some { cls := .ref C, dict := some dx, data := .fields #[.ref t1, .none, .none, .none, .bool false, .none] }
  dbig : h.objs.size ≤ dx
  dne : dx ≠ x
  ns : h'.Ns1 dx (fun y => if y = fld then some v else none)
/-- the field's name is a plain one -/
structure FldOk (fld : Str) : Prop where
  kf : (iS fld).names.lookup fld = some .local
  ks : (iS fld).names.lookup ("self" : Str) = some .local
  kc : (iS fld).names.lookup ("__class__" : Str) = some .free
  ku : (iS fld).names.lookup ("super" : Str) = some .globalImplicit
  nc : ∀ y ∈ (iS fld).names, y.2 ≠ .cell
  nd : (fld == ("__debug__" : Str)) = false
  ns : fld ≠ ("self" : Str)
  bind : ∀ (q : Str) (b : List Stmt) (p1 p2 : Pos) (doc pm : Value) (an : Option Addr) (cda : Value) (ct : Value) (cc : Addr) (u v : Value), bindArgs (ksFn "__init__" q (iA fld p1 p2) b (iS fld) .none .none doc pm an cda ct cc) ⟨[u, v], []⟩ = pure [(("self" : Str), u), (fld, v)]
theorem fld_at : FldOk "at" := ⟨rfl, rfl, rfl, rfl, by decide +kernel, by decide +kernel, by decide +kernel, fun _ _ _ _ _ _ _ _ _ _ _ _ => by first | rfl | with_unfolding_all rfl⟩
theorem fld_most : FldOk "most" := ⟨rfl, rfl, rfl, rfl, by decide +kernel, by decide +kernel, by decide +kernel, fun _ _ _ _ _ _ _ _ _ _ _ _ => by first | rfl | with_unfolding_all rfl⟩
section
variable {prog : Program} {w : World} {A : Around} {E : Value → Shared → Prop} {h : Heap} {g : Array GenState} {d : Drawn} {t : Nat} {os : OsState}
variable {nm qn : Str} {C N : Addr} {bs bm : List Value} {hdct : Bool} {sn : List Str} {sub : List Value} {ab : Bool} {col : Option Bool} {dd : Option Addr} {k0 k1 k2 k3 k5 : Option Value}
/-- the bound ValueError.__init__ of the object at e, called -/
theorem bound_init {u e t0 : Addr} {rest : List Value} {Q : Value → Shared → Prop} (hC : h.get? C = some (excClassObj nm qn C N bs bm hdct sn sub ab col dd k0 k1 k2 k3 k5 "ValueError.__new__")) (he : h.get? e = some (excO C t0))
    (hu : h.get? u = some (kxs_mw "ValueError.__init__" e)) (hrest : rest.length ≤ sizeLine)
    (hq : ∀ h' t1, (∀ b o, b ≠ e → h.get? b = some o → h'.get? b = some o) → h'.get? e = some (excO C t1) → Q .none ⟨h', g, d, t, os⟩) : wpAny (model prog w) A (call (.ref u) rest) Q E ⟨h, g, d, t, os⟩ := by
  refine wpAny_call (codeAny_of_tree ?_)
  show wpAny _ A.in1 (callAny (.ref u) ⟨rest, []⟩) _ _ _
  simp only [callAny]
  refine wpAny_bind (wpAny_load hu ?_)
  simp only [kxs_mw, show (Value.type "method-wrapper" == Value.type "method" || Value.type "method-wrapper" == Value.type "builtin_function_or_method" || Value.type "method-wrapper" == Value.type "method-wrapper") = true by decide, if_true]
  refine KFB.if_so (by decide) ?_
  refine wpAny_bind (check_bound_init F.excBase_ValueError.toExcCallFacts hC he rfl ?_)
  refine wpAny_bind (wpAny_pure (wpAny_pure ?_))
  refine ⟨plainId_quiet F.excBase_ValueError.init.plain _, codeAny_builtin F.excBase_ValueError.initEntry ?_⟩
  exact exc_init_tree (cls := .ref C) (t0 := t0) (dv := none) (c2 := .none) (c3 := .none) (b4 := .bool false) he hrest fun h4 k4 e4 _ => hq h4 _ k4 e4
end
section
variable {prog : Program} {w : World} {A : Around} {E : Value → Shared → Prop} {R : Result → Shared → Prop} {s : Shared} {K : Frag} {mg : Str → Option Value} {x fld msg : Str} {C fI cc : Addr}
theorem sup_init (T : SupTxt prog K mg x fld msg C fI cc) (FO : FldOk fld) {e t0 : Addr} {v : Value} (X : K.In s.heap) (hlim : s.heap.NoLimit) (hg : s.heap.Ns mainGlobals mg) (hb : ∃ mb, s.heap.Ns builtinsNs mb ∧ ∀ x : Str, x ≠ "__name__" → mb x = bootBuiltins x)
    (hx : s.heap.get? e = some (excO C t0)) (hnx : K.lookup e = none) (hroom : A.depth < recursionLimit)
    (hq : ∀ h' tk dx, SupEnd s.heap h' e C dx fld v → R (.ok (.ret .none)) { s with heap := h', toks := tk }) :
    codeAny (model prog w) A (.call (.ref fI) ⟨[.ref e, v], []⟩) R s := by
  obtain ⟨oc, od, doc, pm, an, cda, ct, osl, q, j, p1, p2, a1, a2, a3, a4, a5, a6, q1, q2, q3, q4, ho, hcd, hline, ccl, cdd, vs, ccs, file, tf, hco, hvs, hfile⟩ := T.fn
  obtain ⟨nm, qn, N, bs, bm, sn, sub, ab, col, dd, k0, k1, k2, k3, k5, hC, hbm, hal⟩ := T.cls
  obtain ⟨cl, cld, csl, hcell⟩ := T.cell
  obtain ⟨mb, hbn, hbb⟩ := hb
  have hcl : clsIn K C = some { name := nm, bases := bs, mro := .ref C :: bm, ns := N, qualname := qn, hasDict := true, slotNames := sn, subclasses := sub, abstract := ab, collection := col, hasDel := false } := by unfold clsIn; rw [hC] <;> rfl
  obtain ⟨hp, g, d, t, os⟩ := s
  have hloc : ∀ y ∈ [(("self" : Str), (Value.ref e)), (fld, v)], (iS fld).names.lookup y.1 = some .local := fun y hy => by
    rcases List.mem_cons.mp hy with rfl | hy
    · exact FO.ks
    · rcases List.mem_cons.mp hy with rfl | hy
      · exact FO.kf
      · cases hy
  refine ks_codeAny_call_defAt (fd := ksFn "__init__" q (iA fld p1 p2) (iB fld msg j a1 a2 a3 a4 a5 a6 q1 q2 q3 q4) (iS fld) .none .none doc pm an (.ref cda) ct cc) (body := iB fld msg j a1 a2 a3 a4 a5 a6 q1 q2 q3 q4) (binds := [("self", .ref e), (fld, v)])
    hroom (X _ _ ho) rfl hlim (codeRec_of X hcd) rfl (BindsTo.of_eq (FO.bind _ _ _ _ _ _ _ _ _ _ _ _)) FO.nc hloc (fun h1 hns hk1 => ?_) rfl rfl rfl
  have X1 : K.In h1 := X.keeps hk1
  have hx1 := hk1 _ _ hx
  have eself : ([(("self" : Str), (Value.ref e)), (fld, v)].reverse.lookup ("self" : Str)) = some (.ref e) := by
    have hh : (("self" : Str) == fld) = false := beq_eq_false_iff_ne.mpr (Ne.symm FO.ns)
    show List.lookup ("self" : Str) [(fld, v), (("self" : Str), (Value.ref e))] = _
    rw [List.lookup_cons, hh]
    rfl
  have efld : ([(("self" : Str), (Value.ref e)), (fld, v)].reverse.lookup fld) = some v := by
    show List.lookup fld [(fld, v), (("self" : Str), (Value.ref e))] = _
    rw [List.lookup_cons, beq_self_eq_true]
  show PySem.wpAt (model prog w) _ (.func _ (ksEnv q (iS fld) hp.objs.size fI (.ref cda) cc)) (execs _ (ksEnv q (iS fld) hp.objs.size fI (.ref cda) cc)) _ _ _
  have I1 : InstAt h1 e (excO C t0) C none := ⟨hx1, rfl, rfl, trivial⟩
  have he : eval (.Call (.Attribute (.Call (.Name "super" a1) [] [] a2) "__init__" a3) [.Constant (.str msg) j a4] [] a5) (ksEnv q (iS fld) hp.objs.size fI (.ref cda) cc) = (do
      let ov ← attributeBase (.Call (.Name "super" a1) [] [] a2) "__init__" (ksEnv q (iS fld) hp.objs.size fI (.ref cda) cc) (eval (.Call (.Name "super" a1) [] [] a2) (ksEnv q (iS fld) hp.objs.size fI (.ref cda) cc))
      standAt a3.atName
      let (f, first) ← holding [ov] (getMethod ov "__init__" (L2.plainOf (.Call (.Name "super" a1) [] [] a2) (ksEnv q (iS fld) hp.objs.size fI (.ref cda) cc)))
      callWith a5 f first (backTo a5 (starEach [.Constant (.str msg) j a4] (ksEnv q (iS fld) hp.objs.size fI (.ref cda) cc))) []) := by
    refine Eq.trans (b := (attributeBase (.Call (.Name "super" a1) [] [] a2) "__init__" (ksEnv q (iS fld) hp.objs.size fI (.ref cda) cc) (eval (.Call (.Name "super" a1) [] [] a2) (ksEnv q (iS fld) hp.objs.size fI (.ref cda) cc)) >>= fun ov =>
      standAt a3.atName >>= fun _ => methodCall (.Call (.Name "super" a1) [] [] a2) "__init__" a3 a5 (ksEnv q (iS fld) hp.objs.size fI (.ref cda) cc) ov 1 (backTo a5 (starEach [.Constant (.str msg) j a4] (ksEnv q (iS fld) hp.objs.size fI (.ref cda) cc))) [])) rfl ?_
    refine congrArg _ (funext fun ov => congrArg _ (funext fun _ => L2.mcall_line rfl hline))
  refine ks_wpAt_execs_cons (ks_wpAt_Expr_any (ks_wpAt_MethodCall (ks_wpAt_super_base (env := ksEnv q (iS fld) hp.objs.size fI (.ref cda) cc) (f := fI) (cc := cda) FO.ku FO.kc rfl rfl (X1 _ _ ho) rfl rfl rfl (X1 _ _ hco) rfl hvs hfile T.top ?_) he))
  refine ks_loadName_global rfl FO.ku (loadGlobal_builtin (env := ksEnv q (iS fld) hp.objs.size fI (.ref cda) cc) (hg.keeps hk1) T.sup (hbn.keeps hk1) ((hbb _ (by decide +kernel)).trans (by decide +kernel)) ⟨rfl, ?_⟩)
  refine wpAny_loadName_free rfl FO.kc rfl ⟨_, X1 _ _ hcell, rfl⟩ ?_
  refine wpAny_loadName_local rfl FO.ks hns eself ?_
  refine ks_wpAny_isType_cls (X1 _ _ hC) rfl ⟨rfl, ?_⟩
  have hsub : Looks (model prog w) h1 (isSubtype (.ref C) (.ref C)) true := looks_mroIn X1 (by unfold mroIn; rw [hcl, Option.bind_some, if_neg (by rw [List.isEmpty_cons]; decide), List.contains_cons, beq_self_eq_true]; rfl)
  refine ks_wpAny_call_super (X1 _ _ hC) rfl hx1 rfl (fun c z => by cases z) hsub (fun h2 e2 k2 => ?_)
  have X2 : K.In h2 := X1.keeps k2
  have hx2 := k2 _ _ hx1
  have I2 : InstAt h2 e (excO C t0) C none := ⟨hx2, rfl, rfl, trivial⟩
  have hCm : Looks (model prog w) h2 (mroOf (.ref C)) (.ref C :: bm) := fun A Q E s k q => wpAny_bind ((looks_clsIn X2 hcl) A _ E s k (wpAny_pure q))
  have hdrop : ((Value.ref C :: bm).dropWhile (· != .ref C)).drop 1 = bm := by simp [List.dropWhile_cons]
  have hI : Looks (model prog w) h2 (isInstance (.ref e) (.type "ValueError")) true := I2.type.andThen (looks_subIn X2 T.veC)
  have hxC : e ≠ C := fun z => by rw [z, hC] at hnx; cases hnx
  refine kxs_getMethod kxs_ValueError e2 (looks_opaque X2 T.third) hCm hdrop X2 hal hI hxC (by decide +kernel) ?_
  refine kxs_callWith (i := "ValueError.__init__") (x := e) rfl (evalArgs_plain ?_)
  show wpAny _ _ (spliced ((false, eval (.Constant (.str msg) j a4) _) :: backTo a5 (starEach [] _))) _ _ _
  refine Calls.spliced_cons (wpAny_Constant_str ?_)
  refine Calls.spliced_nil ?_
  refine ⟨Heap.get?_push_at rfl rfl, ?_⟩
  have k3 : ∀ b o, h2.get? b = some o → (h2.push (kxs_mw "ValueError.__init__" e)).get? b = some o := fun b o q => Heap.get?_push_of_some _ q
  have X3 := X2.keeps k3
  have hx3 := k3 _ _ hx2
  refine bound_init (rest := [.str msg _]) (X3 _ _ hC) hx3 (Heap.get?_push_at rfl rfl) (by show 1 ≤ sizeLine; rw [sizeLine_eq]; omega) (fun h4 t4 k4 hx4 => ?_)
  have kk : ∀ b o, b ≠ e → h1.get? b = some o → h4.get? b = some o := fun b o hb q => k4 b o hb (k3 _ _ (k2 _ _ q))
  have X4 : K.In h4 := fun a o q => k4 a o (fun z => by rw [z, hnx] at q; cases q) (X3 a o q)
  have hLe : hp.objs.size ≠ e := Nat.ne_of_gt (Heap.lt_size hx)
  have hns4 : h4.Ns hp.objs.size (fun x => [(("self" : Str), (Value.ref e)), (fld, v)].reverse.lookup x) := by
    obtain ⟨oL, es, ep, hoL, r⟩ := hns
    exact ⟨oL, es, ep, kk _ _ hLe hoL, r⟩
  show PySem.wpAt (model prog w) _ _ (execs [Stmt.Assign [(Expr.Name (Str.ofString "self") q1).Attribute fld q2] (Expr.Name fld q3) q4] (ksEnv q (iS fld) hp.objs.size fI (.ref cda) cc)) _ _ _
  refine wpAt_of_wpAny (wpAny_execs_cons (plainObj_wpAny_Assign_Attribute ?_))
  refine wpAny_Name (wpAny_loadName_local rfl FO.kf hns4 efld ?_) FO.nd
  refine wpAny_Name (wpAny_loadName_local rfl FO.ks hns4 eself ?_) (by decide +kernel)
  refine set_plain X4 (ox := excO C t4) (od := none) ⟨hx4, rfl, rfl, trivial⟩ T.sa ?_
  refine exc_osa X4 hx4 hcl (show refsVE (.ref C :: bm) = true from hbm) rfl T.noN (fun h5 tk5 dx k5 dn dne hx5 hn5 => ?_)
  refine wpAny_execs_nil (hq h5 tk5 dx ⟨fun b o hb q => k5 b o hb (kk b o hb (hk1 b o q)), ⟨_, hx5⟩, ?_, dne, hn5⟩)
  have z1 : hp.objs.size < h4.objs.size := by
    obtain ⟨oL, es, ep, hoL, r⟩ := hns4
    exact Heap.lt_size hoL
  exact Nat.le_of_lt (Nat.lt_of_lt_of_le z1 dn)
end
end SupX
namespace SupX
open PySem PySem.W PySem.Calls PyProof.Rows PySem.HandSPX
/-- a made exception with its field -/
structure SupMade (h h' : Heap) (e C d : Addr) (fld : Str) (v : Value) : Prop where
  keep : ∀ b o, h.get? b = some o → h'.get? b = some o
  new : h.objs.size ≤ e
  obj : ∃ oe vs, h'.get? e = some oe ∧ oe.cls = .ref C ∧ oe.dict = some d ∧ oe.data = .fields vs ∧ vs[1]? = some .none
  dbig : h.objs.size ≤ d
  dne : d ≠ e
  ns : h'.Ns1 d (fun y => if y = fld then some v else none)
section
variable {prog : Program} {w : World} {A : Around} {R : Result → Shared → Prop} {s : Shared} {K : Frag} {mg : Str → Option Value} {x fld msg : Str} {C fI cc : Addr}
theorem sup_made (T : SupTxt prog K mg x fld msg C fI cc) (FO : FldOk fld) {v : Value} (X : K.In s.heap) (hlim : s.heap.NoLimit) (hg : s.heap.Ns mainGlobals mg) (hb : ∃ mb, s.heap.Ns builtinsNs mb ∧ ∀ x : Str, x ≠ "__name__" → mb x = bootBuiltins x)
    (hroom : A.depth + 1 < recursionLimit) (hq : ∀ h' tk e d, SupMade s.heap h' e C d fld v → R (.ok (.ret (.ref e))) { s with heap := h', toks := tk }) :
    codeAny (model prog w) A (.call (.ref C) ⟨[v], []⟩) R s := by
  obtain ⟨nm, q, N, bs, bm, sn, sub, ab, col, dd, k0, k1, k2, k3, k5, hC, hbm, hal⟩ := T.cls
  obtain ⟨hp, g, dr, tk, os⟩ := s
  have k : ∀ b o, hp.get? b = some o → ((hp.push (kdv_tup [v])).push (excO C hp.objs.size)).get? b = some o := fun b o e => Heap.get?_push_of_some _ (Heap.get?_push_of_some _ e)
  have hget : ((hp.push (kdv_tup [v])).push (excO C hp.objs.size)).get? (hp.objs.size + 1) = some (excO C hp.objs.size) := by heap_get
  have hnx : K.lookup (hp.objs.size + 1) = none := by
    cases e : K.lookup (hp.objs.size + 1) with
    | none => rfl
    | some o => exact absurd (Nat.lt_of_succ_lt (Heap.lt_size (show hp.get? (hp.objs.size + 1) = some o from X _ _ e))) (Nat.lt_irrefl _)
  refine call_own F.excBase_ValueError (fun X => refsVE_contains X bm hbm) (X _ _ hC) (looks_findIn X T.iC) (fun self => bind_fn X self T.tC) (by show 1 ≤ sizeLine; rw [sizeLine_eq]; omega) ?_
  refine sup_init (s := ⟨(hp.push (kdv_tup [v])).push (excO C hp.objs.size), g, dr, tk, os⟩) T FO (X.keeps k) (hlim.keeps k) (hg.keeps k) (let ⟨mb, h1, h2⟩ := hb; ⟨mb, h1.keeps k, h2⟩) hget hnx hroom fun h' tk' dx E => ?_
  have old : ∀ b o, hp.get? b = some o → h'.get? b = some o := fun b o e => E.keep b o (Nat.ne_of_lt (Nat.lt_succ_of_lt (Heap.lt_size e))) (k b o e)
  have z : hp.objs.size + 1 + 1 ≤ dx := by
    have q := E.dbig
    rw [Heap.size_push, Heap.size_push] at q
    exact q
  obtain ⟨t1, ho⟩ := E.obj
  exact ⟨rfl, hq h' tk' (hp.objs.size + 1) dx ⟨old, Nat.le_succ _, ⟨_, _, ho, rfl, rfl, rfl, rfl⟩, Nat.le_trans (Nat.le_trans (Nat.le_succ _) (Nat.le_succ _)) z, E.dne, E.ns⟩⟩
end
end SupX
namespace L2
open PySem PySem.Spec PyProof.Rows
theorem relO_one {fld : Str} {v : V} {v' : Value} (r : RelV v v') (f : Str) : RelO (List.lookup f [(fld, v)]) (if f = fld then some v' else none) := by
  by_cases hw : f = fld
  · subst hw
    rw [if_pos rfl, List.lookup_cons, beq_self_eq_true]
    exact r
  · rw [if_neg hw, List.lookup_cons, beq_eq_false_iff_ne.mpr hw]
    trivial
section
variable {X : Cx} {x fld msg : Str} {C fI cc : Addr}
/-- C(e), an exception with one field -/
def tMkSup (C : Addr) (fld : Str) (ta : TA) : St → Hp → XK → Prop := fun σ H Q => ta σ H fun vs H1 => ∃ v, vs = [v] ∧ ∀ d, H1 d = none → Q (.ref C) (some d) (upd H1 d (.xd [(fld, v)]))
theorem pmk_sup {a : Expr} {ta : TA} {p pos : Pos} {k : Nat} (T : SupX.SupTxt X.prog X.K X.mg x fld msg C fI cc) (FO : SupX.FldOk fld) (hr : Room k X.A) (ha : PA X [a] ta) (hg : Gl X x) (hdb : (x == ("__debug__" : Str)) = false := by decide)
    (he : starEach (a :: []) X.env = (false, eval a X.env) :: starEach [] X.env := by rfl) (hpl : (backTo pos (starEach [] X.env)).any (·.1) = false := by rfl) :
    PMk X (.Call (.Name x p) [a] [] pos) (tMkSup C fld ta) := by
  intro pins s σ H Q I h
  refine wpAny_Call_Name_kw (ld_glob I hg T.gC ?_ hdb)
  refine PySem.W.callWith_K (h₀ := X.base) I.ok.mod.kin T.kC (thn (ha.run pos pins s σ H _ I h) fun us s1 hh => ?_) he hpl
  obtain ⟨vs, H1, I1, r1, v, ev, q1⟩ := hh
  subst ev
  refine ⟨I1.kIn, ?_⟩
  cases r1 with
  | cons rv rn =>
    rename_i v' us'
    cases rn
    show wpAny _ _ (call (.ref C) [v']) _ _ _
    have hlim := I1.nolimit
    have hgl := I1.ok.mod.glob.keeps I1.bk
    obtain ⟨mb, hb1, hb2⟩ := I1.ok.mod.blt
    have hblt : ∃ mb, s1.heap.Ns builtinsNs mb ∧ ∀ x : Str, x ≠ "__name__" → mb x = bootBuiltins x := ⟨mb, hb1.keeps I1.bk, hb2⟩
    obtain ⟨hp, g, dr, tk, os⟩ := s1
    refine wpAny_call (SupX.sup_made T FO I1.kIn hlim hgl hblt (by have := hr.dp; omega) fun h' tk' e d M => ?_)
    show MkP X pins σ Q (.ref e) ⟨h', g, dr, tk', os⟩
    obtain ⟨oe, fv, hoe, hc, hd, hdat, h1⟩ := M.obj
    have hns := M.ns
    obtain ⟨G', g1, g2⟩ := restrict h' fun b => decide (b ≠ e)
    have gk : ∀ b, b ≠ e → G'.get? b = h'.get? b := fun b hb => g1 b (decide_eq_true hb)
    have ge : G'.get? e = none := g2 e (by simp)
    have old : ∀ b o, hp.get? b = some o → G'.get? b = some o := fun b o q => (gk b (Nat.ne_of_lt (Nat.lt_of_lt_of_le (Heap.lt_size q) M.new))).trans (M.keep b o q)
    have ob : ObjOk X.prog X.w (upd H1 d (.xd [(fld, v)])) G' d (.xd [(fld, v)]) := ⟨_, hns.at (fun o q => (gk d M.dne).trans q), fun f => relO_one rv f⟩
    have J : Inv X pins σ (upd H1 d (.xd [(fld, v)])) ⟨G', g, dr, tk', os⟩ := I1.laid (t' := tk') old M.dbig ob
    refine ⟨e, oe, fv, ⟨G', g, dr, tk', os⟩, _, .ref C, some d, rfl, J, fun b o q => ?_, ge, hoe, ⟨hc, hd⟩, hdat, h1, ?_, rfl, I1.bare, raises_own T.exC T.tyC, q1 d (I1.hok.fresh M.dbig)⟩
    · by_cases hb : b = e
      · have q' : G'.get? b = some o := q
        rw [hb, ge] at q'
        cases q'
      · exact (gk b hb).symm.trans q
    · rw [upd_ne (Ne.symm M.dne)]
      exact I1.hok.fresh M.new
end
end L2
namespace My
open PySem PySem.Spec PyProof.Rows L2
/-! ### data -/
inductive Dt where
  | non | bl (b : Bool) | int (i : Int) | str (x : Str) | tup (xs : List Dt) | lst (xs : List Dt) | dic
mutual
inductive DV (H : Hp) : V → Dt → Prop
  | non : DV H .non .non
  | bl (b : Bool) : DV H (.bl b) (.bl b)
  | int (i : Int) : DV H (.int i) (.int i)
  | str (x : Str) : DV H (.str x) (.str x)
  | tup {a : Addr} {xs : List V} {ds : List Dt} : H a = some (.tup xs) → DVs H xs ds → DV H (.ref a) (.tup ds)
  | lst {a : Addr} {xs : List V} {ds : List Dt} : H a = some (.lst xs) → DVs H xs ds → DV H (.ref a) (.lst ds)
  | dic {a : Addr} {kvs : List (Key × V)} : H a = some (.dK kvs) → DV H (.ref a) .dic
inductive DVs (H : Hp) : List V → List Dt → Prop
  | nil : DVs H [] []
  | cons {v : V} {vs : List V} {d : Dt} {ds : List Dt} : DV H v d → DVs H vs ds → DVs H (v :: vs) (d :: ds)
end
theorem DVs.len {H : Hp} : ∀ {vs : List V} {ds : List Dt}, DVs H vs ds → vs.length = ds.length
  | _, _, .nil => rfl
  | _, _, .cons _ t => congrArg (· + 1) (DVs.len t)
theorem DVs.get {H : Hp} : ∀ {vs : List V} {ds : List Dt} {i : Nat} {v : V}, DVs H vs ds → vs[i]? = some v → ∃ d, ds[i]? = some d ∧ DV H v d
  | _, _, _, _, .nil, e => by simp at e
  | _, _, 0, _, .cons r _, e => by simp at e; subst e; exact ⟨_, rfl, r⟩
  | _, _, i + 1, _, .cons _ t, e => by simpa using DVs.get (i := i) t (by simpa using e)
/-- rows: tuples of iV -/
abbrev iV (xs : List Int) : List V := xs.map V.int
def Row (H : Hp) (v : V) (xs : List Int) : Prop := ∃ a, v = .ref a ∧ H a = some (.tup (iV xs))
theorem dvs_iV {H : Hp} : ∀ xs : List Int, DVs H (iV xs) (xs.map Dt.int)
  | [] => .nil
  | x :: r => .cons (.int x) (dvs_iV r)
theorem Row.dv {H : Hp} {v : V} {xs : List Int} (h : Row H v xs) : DV H v (.tup (xs.map Dt.int)) := by
  obtain ⟨a, rfl, h⟩ := h
  exact .tup h (dvs_iV xs)
theorem Row.same {H H' : Hp} {v : V} {xs : List Int} (e : Same H H') (h : Row H v xs) : Row H' v xs := by
  obtain ⟨a, rfl, h⟩ := h
  exact ⟨a, rfl, e _ _ h⟩
mutual
theorem DV.same {H H' : Hp} {v : V} {d : Dt} (e : Same H H') : DV H v d → DV H' v d
  | .non => .non
  | .bl b => .bl b
  | .int i => .int i
  | .str x => .str x
  | .tup h t => .tup (e _ _ h) (DVs.same e t)
  | .lst h t => .lst (e _ _ h) (DVs.same e t)
  | .dic h => .dic (e _ _ h)
theorem DVs.same {H H' : Hp} {vs : List V} {ds : List Dt} (e : Same H H') : DVs H vs ds → DVs H' vs ds
  | .nil => .nil
  | .cons r t => .cons (DV.same e r) (DVs.same e t)
end
/-- the class of a value, for isinstance -/
def Dt.cls : Dt → String
  | .non => "NoneType" | .bl _ => "bool" | .int _ => "int" | .str _ => "str" | .tup _ => "tuple" | .lst _ => "list" | .dic => "dict"
theorem Same.new {H : Hp} {p : Addr} {o : HO} (h : H p = none) : Same H (upd H p o) := fun b u e => by
  rw [upd_ne (ne_of_none e h)]
  exact e
/-- an object that H does not know may change -/
theorem Same.mut {H H' : Hp} {p : Addr} {o : HO} (e : Same H H') (h : H p = none) : Same H (upd H' p o) := fun a u ha => by
  rw [upd_ne (ne_of_none ha h)]
  exact e a u ha
/-! ### a def that keeps a promise -/
structure Df (P : Program) (w : World) (K : PySem.W.Frag) (mg : Str → Option Value) (base : Heap) (CX : CXT) (k : Nat) (x : Str) (ps : List Str) (sp : Sp) : Prop where
  ex : ∃ (f : Addr) (fd : FuncData), FnOk P w K mg base CX k f fd ps sp ∧ mg x = some (.ref f) ∧ PySem.W.keepIn K (.ref f) = true ∧ Binds K fd ps [] ∧ ∃ oc od osl, K.lookup f = some ⟨oc, od, .func fd, osl⟩
/-- a def as the top leaves it -/
structure Fd (K : PySem.W.Frag) (mg : Str → Option Value) (x : Str) (st : Stmt) : Prop where
  ex : ∃ (f : Addr) (fd : FuncData), FunD K x x (defArgs st) (defBody st) (defScope st) [] [] f fd ∧ mg x = some (.ref f)
section
variable {P : Program} {w : World} {K : PySem.W.Frag} {mg : Str → Option Value} {base : Heap} {CX : CXT} {k : Nat} {x : Str} {ps N : List Str} {sp : Sp} {st : Stmt}
theorem Df.mk' (F : Fd K mg x st) (S : FnScope N ps (defScope st))
    (hb : ∀ (kV doc pm : Value) (an : Option Addr) (cdv ct : Value) (us : List Value), us.length = ps.length → bindArgs (PySem.W.fnOf x x (defArgs st) (defBody st) (defScope st) .none kV doc pm an cdv ct) ⟨us, []⟩ = pure (ps.zip us))
    (len : ∀ vs H Q E, sp vs H Q E → vs.length = ps.length)
    (hbody : ∀ (f : Addr) (cdv : Value) (A : Around) (outer : List Env) (s : Shared) (H : Hp) (vs : List V) (Q : VK) (E : XK), Room k (A.deeper (envOfC x (defScope st) s.heap.objs.size f cdv)) → sp vs H Q E →
      ∃ t, PSs (cxOf CX P w K mg base N x (defScope st) f cdv A outer s H E) (defBody st) t ∧ t { nx := fun _ H' => Q .non H', rt := Q } (start N vs) H) : Df P w K mg base CX (k + 1) x ps sp := by
  obtain ⟨f, fd, F1, gm⟩ := F.ex
  exact ⟨f, fd, F1.ok S len (hbody f), gm, F1.kp, F1.bindsN hb, let ⟨oc, od, _, _, _, _, _, _, _, osl, _, lk, _⟩ := F1.ex; ⟨oc, od, osl, lk⟩⟩
theorem Df.mono {j : Nat} (D : Df P w K mg base CX j x ps sp) (h : j ≤ k) : Df P w K mg base CX k x ps sp := by
  obtain ⟨f, fd, F1, gm, kp, b⟩ := D.ex
  exact ⟨f, fd, F1.mono h, gm, kp, b⟩
end
section
variable {X : Cx} {CX : CXT} {k : Nat} {ps : List Str} {sp : Sp} {E : XK} {x : Str} {p pos : Pos} {e : Expr} {es : List Expr} {t : TA}
theorem pe_df (D : Df X.prog X.w X.K X.mg X.base CX k x ps sp) (hr : Room k X.A) (hg : Gl X x) (hx : Passes CX X E) (ha : PA X (e :: es) t) (hdb : (x == ("__debug__" : Str)) = false := by decide)
    (he : starEach (e :: es) X.env = (false, eval e X.env) :: starEach es X.env := by rfl) (hpl : (backTo pos (starEach es X.env)).any (·.1) = false := by rfl) : PE X (.Call (.Name x p) (e :: es) [] pos) (tCall sp [] E t) := by
  obtain ⟨f, fd, F, gm, kp, b, _⟩ := D.ex
  exact pe_call F hr hg gm kp b .nil hx ha hdb he hpl
theorem pe_dfS {ES : L2.St → XK} (D : Df X.prog X.w X.K X.mg X.base CX k x ps sp) (hr : Room k X.A) (hg : Gl X x) (hx : ∀ σ, PassesAt CX X σ (ES σ)) (ha : PA X (e :: es) t) (hdb : (x == ("__debug__" : Str)) = false := by decide)
    (he : starEach (e :: es) X.env = (false, eval e X.env) :: starEach es X.env := by rfl) (hpl : (backTo pos (starEach es X.env)).any (·.1) = false := by rfl) : PE X (.Call (.Name x p) (e :: es) [] pos) (tCallS sp ES t) := by
  obtain ⟨f, fd, F, gm, kp, b, _⟩ := D.ex
  exact pe_callS F hr hg gm kp b hx ha hdb he hpl
/-- a built-in class as an argument -/
theorem pe_cls {n : String} {q : Str} {pos : Pos} (hg : Gl X q) (hm : X.mg q = none) (hv : bootBuiltins q = some (.type n)) (hq : q ≠ "__name__" := by decide) (hd : (q == ("__debug__" : Str)) = false := by decide) : PE X (.Name q pos) (tC (.ty n)) :=
  pe_bltn hg hm hv rfl hq hd
end
end My
namespace My
open PySem PySem.Spec PyProof.Rows L2
/-! ### what is walked: n items, the i-th is Xv i, as long as what is tracked in H1 stays -/
structure Wk (J : It) (H1 : Hp) (n : Nat) (Xv : Nat → V) : Prop where
  go : ∀ i H, Same H1 H → i < n → J.go i H
  stop : ∀ i H, Same H1 H → n ≤ i → J.stop i H
  yld : ∀ i H x H', Same H1 H → i < n → J.yld i H x H' → H' = H ∧ x = Xv i
theorem SqT.same {K : PySem.W.Frag} {H H' : Hp} {a : Addr} {xs : List V} (e : Same H H') (h : SqT K H a xs) : SqT K H' a xs := by
  rcases h with (h | ⟨o, h⟩) | h
  · exact .inl (.inl (e _ _ h))
  · exact .inl (.inr ⟨o, e _ _ h⟩)
  · exact .inr h
section
variable {K : PySem.W.Frag} {H1 : Hp} {a : Addr} {xs : List V}
theorem wk_list (h : SqL K H1 a xs) : Wk (Itl K a) H1 xs.length (fun i => xs.getD i .non) where
  go := fun i H e hi => ⟨xs, xs[i], e.seq h, by simp [hi]⟩
  stop := fun i H e hi => ⟨xs, e.seq h, hi⟩
  yld := fun i H x H' e hi y => by
    obtain ⟨e1, y⟩ := y
    have q := y xs (e.seq h)
    exact ⟨e1, by rw [List.getD_eq_getElem?_getD, q]; rfl⟩
theorem wk_tup (h : SqT K H1 a xs) : Wk (Itt K a) H1 xs.length (fun i => xs.getD i .non) where
  go := fun i H e hi => ⟨xs, xs[i], SqT.same e h, by simp [hi]⟩
  stop := fun i H e hi => ⟨xs, SqT.same e h, hi⟩
  yld := fun i H x H' e hi y => by
    obtain ⟨e1, y⟩ := y
    have q := y xs (SqT.same e h)
    exact ⟨e1, by rw [List.getD_eq_getElem?_getD, q]; rfl⟩
theorem wk_range {lo : Int} {n : Nat} : Wk (Itr lo n) H1 n (fun i => .int (lo + i)) where
  go := fun i H _ hi => hi
  stop := fun i H _ hi => hi
  yld := fun i H x H' _ hi y => y
theorem rev_at {n i : Nat} (hn : xs.length = n) (hi : i < n) : xs[n - 1 - i]? = some (xs.reverse.getD i .non) := by
  have h1 : i < xs.reverse.length := by rw [List.length_reverse]; omega
  rw [List.getD_eq_getElem?_getD, List.getElem?_reverse (by omega)]
  have h2 : xs.length - 1 - i < xs.length := by omega
  rw [hn, List.getElem?_eq_getElem (by omega)]
  rfl
theorem wk_revT (h : SqT K H1 a xs) : Wk (RT.ItvT K a xs.length) H1 xs.length (fun i => xs.reverse.getD i .non) where
  go := fun i H e hi => ⟨hi, xs, _, SqT.same e h, rev_at rfl hi⟩
  stop := fun i H e hi => hi
  yld := fun i H x H' e hi y => by
    obtain ⟨e1, y⟩ := y
    have q := y xs (SqT.same e h)
    rw [rev_at rfl hi] at q
    exact ⟨e1, (Option.some.inj q).symm⟩
theorem wk_revL (h : SqL K H1 a xs) : Wk (Itv K a xs.length) H1 xs.length (fun i => xs.reverse.getD i .non) where
  go := fun i H e hi => ⟨hi, xs, _, e.seq h, rev_at rfl hi⟩
  stop := fun i H e hi => hi
  yld := fun i H x H' e hi y => by
    obtain ⟨e1, y⟩ := y
    have q := y xs (e.seq h)
    rw [rev_at rfl hi] at q
    exact ⟨e1, (Option.some.inj q).symm⟩
end
/-- the tuples stay -/
def Tst (H H' : Hp) : Prop := ∀ b xs, H b = some (.tup xs) → H' b = some (.tup xs)
theorem Tst.refl (H : Hp) : Tst H H := fun _ _ h => h
theorem Tst.trans {H H1 H2 : Hp} (a : Tst H H1) (b : Tst H1 H2) : Tst H H2 := fun c o h => b c o (a c o h)
theorem Tst.of {H H' : Hp} (e : Same H H') : Tst H H' := fun b xs h => e b _ h
theorem Tst.upd {H H' : Hp} {p : Addr} {o u : HO} (e : Tst H H') (h : H' p = some u) (hu : ∀ xs, u ≠ .tup xs) : Tst H (L2.upd H' p o) := fun b xs q => by
  have q' := e b xs q
  rw [upd_ne (fun z => by rw [z, h] at q'; exact hu xs (Option.some.inj q'))]
  exact q'
theorem Row.tst {H H' : Hp} {v : V} {xs : List Int} (e : Tst H H') (h : Row H v xs) : Row H' v xs := by
  obtain ⟨a, rfl, h⟩ := h
  exact ⟨a, rfl, e _ _ h⟩
/-- the indices that are kept -/
def sel (keep : Nat → Bool) (n : Nat) : List Nat := (List.range n).filter keep
theorem sel_all (n : Nat) : sel (fun _ => true) n = List.range n := by
  unfold sel
  exact List.filter_eq_self.mpr fun _ _ => rfl
theorem sel_yes {keep : Nat → Bool} {n : Nat} (h : keep n = true) : sel keep (n + 1) = sel keep n ++ [n] := by
  unfold sel
  rw [List.range_succ, List.filter_append, List.filter_cons, if_pos h]
  rfl
theorem sel_no {keep : Nat → Bool} {n : Nat} (h : keep n = false) : sel keep (n + 1) = sel keep n := by
  unfold sel
  rw [List.range_succ, List.filter_append, List.filter_cons, if_neg (by rw [h]; decide)]
  exact List.append_nil _
theorem sel_len (keep : Nat → Bool) (n : Nat) : (sel keep n).length ≤ n := by
  have h := List.length_filter_le keep (List.range n)
  rw [List.length_range] at h
  exact h
/-- a comprehension with a test: what it makes -/
theorem lc_sel {J : It} {H1 : Hp} {D : Addr} {n j : Nat} {Xv : Nat → V} {tt : TT} {te : TE} {vs : List Nat} {σ : L2.St} {Qd : Hp → Prop} (keep : Nat → Bool) (R : Nat → V → Hp → Prop) (hJ : Wk J H1 n Xv) (hD : H1 D = none) (hn : n < sizeLine)
    (hw : ∀ x, wipe ((wipe σ vs).set j (some x)) vs = wipe σ vs) (Rs : ∀ i v H H', Tst H H' → R i v H → R i v H')
    (ht : ∀ i H', i < n → Same H1 H' → ∀ Q' : Bool → Hp → Prop, (∀ H'', Same H' H'' → Q' (keep i) H'') → tt ((wipe σ vs).set j (some (Xv i))) H' Q')
    (he : ∀ i H', i < n → keep i = true → Same H1 H' → ∀ Q' : VK, (∀ v H'', Same H' H'' → R i v H'' → Q' v H'') → te ((wipe σ vs).set j (some (Xv i))) H' Q')
    (hd : ∀ (H' : Hp) (ys : List V), Same H1 H' → H' D = some (.lst ys) → ys.length = (sel keep n).length → (∀ (k : Nat) (v : V) (i : Nat), ys[k]? = some v → (sel keep n)[k]? = some i → R i v H') → Qd H') :
    ∃ W : Nat → Nat → Hp → Prop, (∃ m, W 0 m (upd H1 D (.lst []))) ∧ ∀ i m H, W i m H →
      (J.stop i H ∧ Qd H) ∨ (J.go i H ∧ ∃ Nx : Hp → Prop, (∀ H', Nx H' → ∃ m', m' < m ∧ W (i + 1) m' H') ∧ ∀ x H', J.yld i H x H' → gName j x (wipe σ vs) H' fun σ2 H2 => wipe σ2 vs = wipe σ vs ∧ tt σ2 H2 fun b H3 =>
        if b = true then te σ2 H3 fun y H4 => ∃ acc, H4 D = some (.lst acc) ∧ acc.length < sizeLine ∧ Nx (upd H4 D (.lst (acc ++ [y]))) else Nx H3) := by
  refine ⟨fun i m H => m = n - i ∧ i ≤ n ∧ Same H1 H ∧ ∃ ys : List V, H D = some (.lst ys) ∧ ys.length = (sel keep i).length ∧ ∀ (k : Nat) (v : V) (l : Nat), ys[k]? = some v → (sel keep i)[k]? = some l → R l v H, ⟨n, by simp, Nat.zero_le _, Same.new hD, [], upd_same, rfl, fun k v l e => by simp at e⟩, ?_⟩
  rintro i m H ⟨rfl, hi, e1, ys, hys, hl, hR⟩
  by_cases hlt : i < n
  · refine .inr ⟨hJ.go i H e1 hlt, fun H' => Same H1 H' ∧ ∃ ys : List V, H' D = some (.lst ys) ∧ ys.length = (sel keep (i + 1)).length ∧ ∀ (k : Nat) (v : V) (l : Nat), ys[k]? = some v → (sel keep (i + 1))[k]? = some l → R l v H', fun H' p => ⟨n - (i + 1), by omega, rfl, hlt, p⟩, fun x H' y => ?_⟩
    obtain ⟨rfl, rfl⟩ := hJ.yld i H x H' e1 hlt y
    refine ⟨hw _, ht i _ hlt e1 _ fun H3 e3 => ?_⟩
    cases hk : keep i with
    | false =>
      refine iteF ⟨e1.trans e3, ys, e3 _ _ hys, by rw [sel_no hk]; exact hl, fun k v l h1 h2 => ?_⟩
      rw [sel_no hk] at h2
      exact Rs _ _ _ _ (Tst.of e3) (hR k v l h1 h2)
    | true =>
      refine iteT (he i _ hlt hk (e1.trans e3) _ fun v H4 e4 hv => ⟨ys, e4 _ _ (e3 _ _ hys), ?_, Same.mut ((e1.trans e3).trans e4) hD, ys ++ [v], upd_same, ?_, fun k u l h1 h2 => ?_⟩)
      · rw [hl]
        exact Nat.lt_of_le_of_lt (sel_len keep i) (by omega)
      · rw [List.length_append, sel_yes hk, List.length_append, hl]
        rfl
      · have hD4 : H4 D = some (.lst ys) := e4 _ _ (e3 _ _ hys)
        have t4 : Tst H4 (upd H4 D (.lst (ys ++ [v]))) := (Tst.refl H4).upd hD4 fun xs z => by cases z
        have t1 : Tst _ (upd H4 D (.lst (ys ++ [v]))) := ((Tst.of e3).trans (Tst.of e4)).trans t4
        rw [sel_yes hk] at h2
        by_cases hkl : k < ys.length
        · rw [List.getElem?_append_left hkl] at h1
          rw [List.getElem?_append_left (by omega)] at h2
          exact Rs _ _ _ _ t1 (hR k u l h1 h2)
        · rw [List.getElem?_append_right (by omega)] at h1
          rw [List.getElem?_append_right (by omega), ← hl] at h2
          have e0 : k - ys.length = 0 := by
            cases q : k - ys.length with
            | zero => rfl
            | succ m => rw [q] at h1; simp at h1
          rw [e0] at h1 h2
          obtain rfl : v = u := by simpa using h1
          obtain rfl : i = l := by simpa using h2
          exact Rs _ _ _ _ t4 hv
  · have e : i = n := by omega
    subst e
    exact .inl ⟨hJ.stop i H e1 (Nat.le_refl _), hd H ys e1 hys hl hR⟩
/-- all are kept -/
theorem lc_map {J : It} {H1 : Hp} {D : Addr} {n j : Nat} {Xv : Nat → V} {te : TE} {vs : List Nat} {σ : L2.St} {Qd : Hp → Prop} (R : Nat → V → Hp → Prop) (hJ : Wk J H1 n Xv) (hD : H1 D = none) (hn : n < sizeLine)
    (hw : ∀ x, wipe ((wipe σ vs).set j (some x)) vs = wipe σ vs) (Rs : ∀ i v H H', Tst H H' → R i v H → R i v H')
    (he : ∀ i H', i < n → Same H1 H' → ∀ Q' : VK, (∀ v H'', Same H' H'' → R i v H'' → Q' v H'') → te ((wipe σ vs).set j (some (Xv i))) H' Q')
    (hd : ∀ (H' : Hp) (ys : List V), Same H1 H' → H' D = some (.lst ys) → ys.length = n → (∀ (k : Nat) (v : V), ys[k]? = some v → R k v H') → Qd H') :
    ∃ W : Nat → Nat → Hp → Prop, (∃ m, W 0 m (upd H1 D (.lst []))) ∧ ∀ i m H, W i m H →
      (J.stop i H ∧ Qd H) ∨ (J.go i H ∧ ∃ Nx : Hp → Prop, (∀ H', Nx H' → ∃ m', m' < m ∧ W (i + 1) m' H') ∧ ∀ x H', J.yld i H x H' → gName j x (wipe σ vs) H' fun σ2 H2 => wipe σ2 vs = wipe σ vs ∧ tYes σ2 H2 fun b H3 =>
        if b = true then te σ2 H3 fun y H4 => ∃ acc, H4 D = some (.lst acc) ∧ acc.length < sizeLine ∧ Nx (upd H4 D (.lst (acc ++ [y]))) else Nx H3) :=
  lc_sel (tt := tYes) (fun _ => true) R hJ hD hn hw Rs (fun i H' _ _ Q' q => q H' (Same.refl H')) (fun i H' hi _ e => he i H' hi e) fun H' ys e h1 h2 h3 => hd H' ys e h1 (by rw [h2, sel_all, List.length_range]) fun k v hv => by
    have hk : k < n := by
      have q := (List.getElem?_eq_some_iff.mp hv).1
      rw [h2, sel_all, List.length_range] at q
      exact q
    exact h3 k v k hv (by rw [sel_all, List.getElem?_range hk])
/-- ints made by a comprehension -/
theorem iV_of {f : Nat → Int} {n : Nat} {ys : List V} (hl : ys.length = n) (h : ∀ (k : Nat) (v : V), ys[k]? = some v → v = .int (f k)) : ys = iV ((List.range n).map f) := by
  apply List.ext_getElem?
  intro k
  by_cases hk : k < n
  · have h1 : ys[k]? = some (ys[k]'(by omega)) := List.getElem?_eq_getElem (by omega)
    rw [h1, h k _ h1]
    simp [iV, hk]
  · rw [List.getElem?_eq_none (by omega), List.getElem?_eq_none (by simp [iV]; omega)]
end My
namespace My
open PySem PySem.Spec PyProof.Rows L2
/-! ### what is walked, by a name whose list or tuple is known -/
/-- a list or a tuple at an address -/
def SqS (K : PySem.W.Frag) (H : Hp) (a : Addr) (xs : List V) : Prop := SqL K H a xs ∨ SqT K H a xs
theorem SqS.same {K : PySem.W.Frag} {H H' : Hp} {a : Addr} {xs : List V} (e : Same H H') (h : SqS K H a xs) : SqS K H' a xs := h.elim (fun h => .inl (e.seq h)) (fun h => .inr (SqT.same e h))
theorem Row.sqT {K : PySem.W.Frag} {H : Hp} {a : Addr} {xs : List V} (h : H a = some (.tup xs)) : SqT K H a xs := .inl (.inl h)
theorem Wk.mono {J : It} {H1 H2 : Hp} {n : Nat} {Xv : Nat → V} (h : Wk J H1 n Xv) (e : Same H1 H2) : Wk J H2 n Xv where
  go := fun i H e2 hi => h.go i H (e.trans e2) hi
  stop := fun i H e2 hi => h.stop i H (e.trans e2) hi
  yld := fun i H x H' e2 hi y => h.yld i H x H' (e.trans e2) hi y
theorem pi_pick {K : PySem.W.Frag} {H0 : Hp} {a : Addr} {xs : List V} (h : SqS K H0 a xs) : ∃ wi : TE → TI, (∀ {X : Cx} {tg e : Expr} {te : TE}, X.K = K → PE X e te → PI X tg e (wi te)) ∧ ∀ (te : TE) (σ : L2.St) (H1 : Hp) (R : It → Hp → Prop), Same H0 H1 → (∀ Q : VK, Q (.ref a) H1 → te σ H1 Q) → (∀ J, Wk J H0 xs.length (fun i => xs.getD i .non) → R J H1) → wi te σ H1 R := by
  rcases h with h | h
  · exact ⟨fun te => iList K te, fun e he => e ▸ pi_list he, fun te σ H1 R s e q => e _ ⟨a, rfl, ⟨xs, s.seq h⟩, q _ (wk_list h)⟩⟩
  · exact ⟨fun te => iTup K te, fun e he => e ▸ pi_tup he, fun te σ H1 R s e q => e _ ⟨a, rfl, ⟨xs, SqT.same s h⟩, q _ (wk_tup h)⟩⟩
/-- a loop over what is walked -/
theorem for_wk {J : It} {H0 : Hp} {n : Nat} {Xv : Nat → V} {g : TG} {tb : TS} {D : Ends} {σ : L2.St} {H : Hp} (hJ : Wk J H0 n Xv) (Pv : Nat → L2.St → Hp → Prop) (h0 : Pv 0 σ H) (hq : ∀ i σ H, Pv i σ H → Same H0 H)
    (hs : ∀ i σ H, i < n → Pv i σ H → g (Xv i) σ H fun σ2 H2 => tb { D with nx := Pv (i + 1), ct := Pv (i + 1), bk := D.nx } σ2 H2) (hd : ∀ σ H, Pv n σ H → D.nx σ H) :
    ∃ W : Nat → Nat → L2.St → Hp → Prop, (∃ m, W 0 m σ H) ∧ ∀ i m σ H, W i m σ H → (J.stop i H ∧ D.nx σ H) ∨ (J.go i H ∧ ∃ N : L2.St → Hp → Prop, (∀ σ' H', N σ' H' → ∃ m', m' < m ∧ W (i + 1) m' σ' H') ∧ ∀ x H', J.yld i H x H' → g x σ H' fun σ2 H2 => tb { nx := N, rt := D.rt, bk := D.nx, ct := N } σ2 H2) := by
  refine ⟨fun i m σ H => m = n - i ∧ i ≤ n ∧ Pv i σ H, ⟨n - 0, rfl, Nat.zero_le _, h0⟩, ?_⟩
  rintro i m σ H ⟨rfl, hi, hP⟩
  by_cases hlt : i < n
  · refine .inr ⟨hJ.go i H (hq _ _ _ hP) hlt, Pv (i + 1), fun σ' H' p => ⟨n - (i + 1), by omega, rfl, hlt, p⟩, fun x H' y => ?_⟩
    obtain ⟨rfl, rfl⟩ := hJ.yld i H x H' (hq _ _ _ hP) hlt y
    exact hs i σ _ hlt hP
  · obtain rfl : i = n := by omega
    exact .inl ⟨hJ.stop i H (hq _ _ _ hP) (Nat.le_refl _), hd σ H hP⟩
theorem iteT_of {c : Bool} {A B : Prop} (h : c = true) (q : A) : if c = true then A else B := by rw [if_pos h]; exact q
theorem iteF_of {c : Bool} {A B : Prop} (h : c = false) (q : B) : if c = true then A else B := by rw [if_neg (by rw [h]; decide)]; exact q
theorem ite_of {c : Bool} {A B : Prop} (h : c = true → A) (q : c = false → B) : if c = true then A else B := by
  cases c
  · exact iteF_of rfl (q rfl)
  · exact iteT_of rfl (h rfl)
/-! ### data that are compared -/
theorem dpa_int {K : PySem.W.Frag} {H : Hp} : ∀ xs : List Int, DpAll K H (iV xs) (xs.map PyData.int)
  | [] => .nil
  | x :: r => .cons (.int x) (dpa_int r)
theorem eqv_ints : ∀ xs ys : List Int, PyData.eqvAll (xs.map PyData.int) (ys.map PyData.int) = decide (xs = ys)
  | [], [] => by simp [PyData.eqvAll]
  | [], _ :: _ => by simp [PyData.eqvAll]
  | _ :: _, [] => by simp [PyData.eqvAll]
  | x :: xs, y :: ys => by
    rw [List.map_cons, List.map_cons, PyData.eqvAll, eqv_ints xs ys]
    have e : PyData.eqv (.int x) (.int y) = decide (x = y) := by rw [PyData.eqv]; exact Bool.eq_iff_iff.mpr (by simp)
    rw [e, ← Bool.decide_and]
    exact decide_eq_decide.mpr (by rw [List.cons.injEq])
theorem eqv_tup (xs ys : List Int) : PyData.eqv (.tuple (xs.map PyData.int)) (.tuple (ys.map PyData.int)) = decide (xs = ys) := by
  rw [PyData.eqv, eqv_ints]
theorem eqv_lst (xs ys : List Int) : PyData.eqv (.list (xs.map PyData.int)) (.list (ys.map PyData.int)) = decide (xs = ys) := by
  rw [PyData.eqv, eqv_ints]
theorem canAll_int : ∀ xs : List Int, PyData.canLayAll0 (xs.map PyData.int) = true
  | [] => by simp [PyData.canLayAll0]
  | x :: r => by rw [List.map_cons, PyData.canLayAll0, canAll_int r]; simp [PyData.canLay0]
theorem depthAll_int : ∀ xs : List Int, PyData.depthAll (xs.map PyData.int) ≤ 1
  | [] => by simp [PyData.depthAll]
  | x :: r => by
    rw [List.map_cons, PyData.depthAll]
    exact Nat.max_le.mpr ⟨by simp [PyData.depth], depthAll_int r⟩
theorem shaped_tup (xs : List Int) : SeqAt.shaped (.tuple (xs.map PyData.int)) = true := by
  unfold SeqAt.shaped
  have := depthAll_int xs
  rw [PyData.canLay0, canAll_int, PyData.depth]
  simp; omega
theorem shaped_lst (xs : List Int) : SeqAt.shaped (.list (xs.map PyData.int)) = true := by
  unfold SeqAt.shaped
  have := depthAll_int xs
  rw [PyData.canLay0, canAll_int, PyData.depth]
  simp; omega
/-- int lists and int tuples as data -/
inductive IntD (K : PySem.W.Frag) (H : Hp) : V → Bool → List Int → Prop
  | lst {a : Addr} {xs : List Int} : SqL K H a (iV xs) → IntD K H (.ref a) false xs
  | tup {a : Addr} {xs : List Int} : SqT K H a (iV xs) → IntD K H (.ref a) true xs
theorem Row.intD {K : PySem.W.Frag} {H : Hp} {v : V} {xs : List Int} (h : Row H v xs) : IntD K H v true xs := by
  obtain ⟨a, rfl, h⟩ := h
  exact .tup (.inl (.inl h))
def intPy (t : Bool) (xs : List Int) : PyData := if t then .tuple (xs.map .int) else .list (xs.map .int)
theorem IntD.dp {K : PySem.W.Frag} {H : Hp} {v : V} {t : Bool} {xs : List Int} (h : IntD K H v t xs) : Dp K H v (intPy t xs) := by
  cases h with
  | lst h => exact .lst h (dpa_int xs)
  | tup h => exact .tup h (dpa_int xs)
theorem shaped_int (t : Bool) (xs : List Int) : SeqAt.shaped (intPy t xs) = true := by
  cases t
  · exact shaped_lst xs
  · exact shaped_tup xs
theorem eqv_intPy (t : Bool) (xs ys : List Int) : PyData.eqv (intPy t xs) (intPy t ys) = decide (xs = ys) := by
  cases t
  · exact eqv_lst xs ys
  · exact eqv_tup xs ys
theorem eqD_int {K : PySem.W.Frag} {H : Hp} {v w : V} {t : Bool} {xs ys : List Int} {Q : VK} (h : IntD K H v t xs) (h' : IntD K H w t ys) (q : Q (.bl (decide (xs = ys))) H) : rEqD K v w H Q := ⟨_, _, h.dp, h'.dp, shaped_int _ _, shaped_int _ _, by rw [eqv_intPy]; exact q⟩
theorem neD_int {K : PySem.W.Frag} {H : Hp} {v w : V} {t : Bool} {xs ys : List Int} {Q : VK} (h : IntD K H v t xs) (h' : IntD K H w t ys) (q : Q (.bl (!decide (xs = ys))) H) : rNeD K v w H Q := ⟨_, _, h.dp, h'.dp, shaped_int _ _, shaped_int _ _, by rw [eqv_intPy]; exact q⟩
/-! ### rows: cut, joined, asked at a place -/
/-- what a slice keeps -/
def cut {α : Type} (xs : List α) (lo hi : Option Int) : List α := (xs.drop (HT.sIx xs.length 0 lo)).take (HT.sIx xs.length xs.length hi - HT.sIx xs.length 0 lo)
theorem cutV_iV (xs : List Int) (lo hi : Option Int) : cutV (iV xs) lo hi = iV (cut xs lo hi) := by
  unfold cutV cut iV
  rw [List.length_map, List.map_take, List.map_drop]
theorem cut_whole {α : Type} {xs : List α} {lo hi : Option Int} (h : HT.sIx xs.length 0 lo = 0 ∧ HT.sIx xs.length xs.length hi = xs.length) : cut xs lo hi = xs := by
  unfold cut
  rw [h.1, h.2]
  simp
theorem slA_row {K : PySem.W.Frag} {H : Hp} {v : V} {xs : List Int} {lo hi : Option Int} {Q : VK} (h : Row H v xs) (q : ∀ v' H', Same H H' → Row H' v' (cut xs lo hi) → Q v' H') : rSlA K v lo hi H Q := by
  obtain ⟨a, rfl, h⟩ := h
  refine ⟨a, iV xs, rfl, .inl (.inl h), fun e => ?_, fun _ p hp => ?_⟩
  · simp only [iV, List.length_map] at e
    exact q _ _ (Same.refl H) ⟨a, rfl, by rw [cut_whole e]; exact h⟩
  · exact q _ _ (Same.new hp) ⟨p, rfl, by rw [upd_same, cutV_iV]⟩
theorem catA_row {K : PySem.W.Frag} {H : Hp} {v w : V} {xs ys : List Int} {Q : VK} (h : Row H v xs) (h' : Row H w ys) (hl : xs.length + ys.length ≤ sizeLine) (q : ∀ v' H', Same H H' → Row H' v' (xs ++ ys) → Q v' H') : rCatA K v w H Q := by
  obtain ⟨a, rfl, h⟩ := h
  obtain ⟨b, rfl, h'⟩ := h'
  refine ⟨a, b, iV xs, iV ys, rfl, rfl, .inl (.inl h), .inl (.inl h'), by simpa [iV] using hl, fun e => ?_, fun _ e => ?_, fun _ _ p hp => ?_⟩
  · obtain rfl : xs = [] := by simpa [iV] using e
    exact q _ _ (Same.refl H) ⟨b, rfl, h'⟩
  · obtain rfl : ys = [] := by simpa [iV] using e
    exact q _ _ (Same.refl H) ⟨a, rfl, by simpa using h⟩
  · exact q _ _ (Same.new hp) ⟨p, rfl, by rw [upd_same]; simp [iV]⟩
theorem atI_iV {xs : List Int} {j : Nat} {i : Int} {x : Int} (hi : i = (j : Int)) (h : xs[j]? = some x) : atI (iV xs) i = some (.int x) := by
  subst hi
  exact atI_nat (by simp [iV, h])
theorem ixT_row {K : PySem.W.Frag} {H : Hp} {v : V} {xs : List Int} {j : Nat} {i x : Int} {Q : VK} (h : Row H v xs) (hi : i = (j : Int)) (hx : xs[j]? = some x) (q : Q (.int x) H) : rIxT K v (.int i) H Q := by
  obtain ⟨a, rfl, h⟩ := h
  exact ⟨a, iV xs, i, .int x, rfl, rfl, .inl (.inl h), atI_iV hi hx, q⟩
/-- len of a list or tuple, by a name of its own -/
def rLen (K : PySem.W.Frag) : List V → Hp → VK → Prop := fun xs H Q => ∃ p ys, xs = [.ref p] ∧ (SqL K H p ys ∨ SqT K H p ys) ∧ Q (.int ys.length) H
theorem call_lenK {X : Cx} : CallR X (.builtin "len") (rLen X.K) := call_len_seq
theorem iteN {x : V} {A B : Prop} (h : x = .non → B) (h' : x ≠ .non → A) : if (!decide (x = .non)) = true then A else B := by
  by_cases e : x = .non
  · exact iteF_of (by simp [e]) (h e)
  · exact iteT_of (by simp [e]) (h' e)
/-- len of a row -/
theorem len_row {K : PySem.W.Frag} {H : Hp} {v : V} {xs : List Int} (h : Row H v xs) : ∃ a, v = .ref a ∧ SqT K H a (iV xs) := by
  obtain ⟨a, rfl, h⟩ := h
  exact ⟨a, rfl, .inl (.inl h)⟩
end My
namespace My
open PySem PySem.Spec PyProof.Rows L2
/-! ### less, of data that are alike -/
def rLtD (K : PySem.W.Frag) : R2 := fun x y H Q => ∃ d e, Dp K H x d ∧ Dp K H y e ∧ PySem.W.alike d e = true ∧ d ≠ .none ∧ min d.depth e.depth ≤ 64 ∧ Q (.bl (PySem.W.dataLt d e)) H
theorem op_ltD {X : Cx} (hu : X.A.units + 64 < cLine) : OpR X (compareOp .Lt) (rLtD X.K) := by
  intro pins s σ H x y v u Q I rx ry h
  obtain ⟨d, e, hd, he, ha, hn, hm, q⟩ := h
  obtain ⟨as, r1⟩ := Dp.reads I d x v hd rx
  obtain ⟨bs, r2⟩ := Dp.reads I e y u he ry
  exact PySem.W.rcLt_alike d e X.A s v u as bs r1 r2 ha hn (by omega) X.prog X.w X.xe _ ⟨.bl _, H, I, rfl, q⟩
/-! ### sorted([(), ()]) -/
section
open PySem.Calls PySem.W PySem.SeqAt
variable {prog : Program} {w : World} {A : Around} {E : Value → Shared → Prop} {s : Shared}
theorem less_nil {a b : Addr} {Q : Bool → Shared → Prop} (ha : s.heap.IsTuple a #[]) (hb : s.heap.IsTuple b #[]) (hu : A.units < cLine) (q : Q false s) : wpAny (model prog w) A (oneLt' true (.ref a) (.ref b)) Q E s := by
  obtain ⟨⟨c1, d1, x1, l1⟩, g1, h1, n1, k1⟩ := id ha
  obtain ⟨⟨c2, d2, x2, l2⟩, g2, h2, n2, k2⟩ := id hb
  simp only at h1 k1 h2 k2
  subst h1 k1 h2 k2
  rw [oneLt'_eq]
  simp only [if_true]
  refine wpAny_bind (wpAny_cRoomFor hu ?_)
  refine wpAny_bind (wpAny_callSpecialIfBound?_slot (T := "tuple") ⟨_, g1, rfl⟩ F.slot_tuple_lt (call_meets F.slot_tuple_lt ⟨_, g1, rfl⟩ F.entry_tuple_lt (F.args_tuple_lt_2 _ _) (tuple_ltAt a b #[] #[] n1 n2 d1 d2 l1 l2 (fun _ => true) (fun _ => true)) ⟨g1, g2, fun j h => absurd h (by simp), fun j h => absurd h (by simp), ?_⟩))
  exact wpAny_truthy_bool q
theorem reads_nil {h : Heap} {a : Addr} (ha : h.IsTuple a #[]) : ∃ as, Reads h (.ref a) (.tuple []) as := by
  obtain ⟨o, g, hc, n, hd⟩ := ha
  exact ⟨_, .tuple g hc hd .nil⟩
theorem nil_reads {h : Heap} {v : Value} {as : List Addr} (r : Reads h v (.tuple []) as) : ∃ a, v = .ref a ∧ h.IsTuple a #[] := by
  cases r with
  | @tuple a o xs n _ _ ho hc hd hr =>
    have e : xs = #[] := by
      cases q : xs.toList with
      | nil => exact Array.toList_inj.mp (by rw [q])
      | cons f fr =>
        rw [q] at hr
        cases hr
    subst e
    exact ⟨a, rfl, o, ho, hc, n, hd⟩
theorem sorts_nil {vs : List Value} {ds : List PyData} (hds : ∀ d ∈ ds, d = .tuple []) (hne : ds ≠ []) (hv : ∀ v ∈ vs, ∃ a, v = .ref a ∧ s.heap.IsTuple a #[]) (hu : A.units < cLine) : SortsAt prog w A s (dataKind s.heap ds) vs := by
  have hm0 : PyData.tuple [] ∈ ds := by
    obtain ⟨d, r, rfl⟩ := List.exists_cons_of_ne_nil hne
    rw [← hds d (by simp)]
    simp
  have hal : AllAlike ds := by
    intro d hd d' hd'
    rw [hds d hd, hds d' hd']
    simp [alike, alikeAll]
  refine ⟨fun v hm => ?_, oneType', ?_, fun h2 E Q q => ?_⟩
  · obtain ⟨a, rfl, ha⟩ := hv v hm
    obtain ⟨as, r⟩ := reads_nil ha
    exact ⟨_, dataKind_some hal hm0 r⟩
  · intro E x y a b Q kx ky q
    obtain ⟨d, as, hd, rx, rfl⟩ := dataKind_inv kx
    obtain ⟨e, bs, he, ry, rfl⟩ := dataKind_inv ky
    rw [hds d hd] at rx q
    rw [hds e he] at ry q
    obtain ⟨a, rfl, ha⟩ := nil_reads rx
    obtain ⟨b, rfl, hb⟩ := nil_reads ry
    rw [keyLt'_oneType]
    refine less_nil ha hb hu ?_
    have e : (dataKind s.heap ds).blt (keyToks (.tuple [])) (keyToks (.tuple [])) = false := lex_irrefl _
    rw [e] at q
    exact q
  · have hT : ∀ v ∈ vs, Looks (model prog w) s.heap (typeOf v) (Value.type "tuple") := fun v hm => by
      obtain ⟨a, rfl, ha⟩ := hv v hm
      obtain ⟨as, r⟩ := reads_nil ha
      exact looks_reads r
    obtain ⟨v₁, rest, rfl⟩ : ∃ v₁ rest, vs = v₁ :: rest := by
      cases vs with
      | nil => simp at h2
      | cons v₁ rest => exact ⟨v₁, rest, rfl⟩
    rw [kat_kind_eq, List.mapM_toArray, map_eq_pure_bind]
    refine wpAny_bind (wpAny_bind (kas_mapM (r := none) _ (fun v hm Q' hq => ?_) (wpAny_pure ?_)))
    · obtain ⟨a, rfl, o, g, hc, n, hd⟩ := hv v hm
      rw [kas_first_eq]
      refine wpAny_bind ((hT _ hm).here ?_)
      rw [if_neg (by decide)]
      exact wpAny_bind (listItems_at g hd (wpAny_pure hq))
    · rw [if_neg (by simp), if_neg (by simp)]
      rw [oneTypeOnly'_eq, List.mapM_toArray, map_eq_pure_bind]
      refine wpAny_bind (wpAny_bind (wpAny_bind (kas_mapM (r := Value.type "tuple") _ (fun v hm Q' hq => (hT v hm).here hq) (wpAny_pure ?_))))
      have h0 : (List.map (fun _ => Value.type "tuple") (v₁ :: rest)).toArray[0]? = some (Value.type "tuple") := by simp
      rw [h0]
      have h1 : ((List.map (fun _ => Value.type "tuple") (v₁ :: rest)).toArray.all fun x => x == Value.type "tuple") = true := by
        rw [List.all_toArray, List.all_eq_true]
        intro x hx
        obtain ⟨_, _, rfl⟩ := List.mem_map.mp hx
        decide
      simp only [h1, if_true]
      exact wpAny_pure (wpAny_pure q)
/-- one of two rows of ints as a datum -/
def encR (b : V × List Int) : PyData := .tuple (b.2.map .int)
theorem rows2 {vs : List Value} {b c : V × List Int} (hl : b.2.length = c.2.length) (er : EachIs (fun v b => ∃ as, Reads s.heap v (encR b) as) vs [b, c]) (hu : A.units + 1 < cLine) : SortsAt prog w A s (dataKind s.heap ([b, c].map encR)) vs := by
  have hal : AllAlike ([b, c].map encR) := AllAlike.of fun b b' => by simpa [encR, alike] using alike_ints b.2 b'.2
  by_cases h0 : b.2 = []
  · have h1 : c.2 = [] := by
      rw [h0] at hl
      exact List.length_eq_zero_iff.mp hl.symm
    refine sorts_nil (fun d hd => ?_) (by simp) (fun v hv => ?_) (by omega)
    · simp only [List.map_cons, List.map_nil, List.mem_cons, List.not_mem_nil, or_false] at hd
      rcases hd with rfl | rfl
      · simp [encR, h0]
      · simp [encR, h1]
    · obtain ⟨d, hd, as, r⟩ := er.left v hv
      simp only [List.mem_cons, List.not_mem_nil, or_false] at hd
      refine nil_reads (as := as) ?_
      rcases hd with rfl | rfl
      · simpa [encR, h0] using r
      · simpa [encR, h1] using r
  · refine SortsAt.data (each_map (R := fun v d => ∃ as, Reads s.heap v d as) encR er) hal (.inl fun d hd => ?_) (fun d hd => ?_)
    · have hc : c.2 ≠ [] := fun h => by
        rw [h] at hl
        exact h0 (List.length_eq_zero_iff.mp hl)
      simp only [List.map_cons, List.map_nil, List.mem_cons, List.not_mem_nil, or_false] at hd
      rcases hd with rfl | rfl
      · obtain ⟨x, r, e⟩ := List.exists_cons_of_ne_nil h0
        exact ⟨.int x, r.map .int, by simp [encR, e]⟩
      · obtain ⟨x, r, e⟩ := List.exists_cons_of_ne_nil hc
        exact ⟨.int x, r.map .int, by simp [encR, e]⟩
    · obtain ⟨b', _, rfl⟩ := List.mem_map.mp hd
      have : PyData.depth (encR b') ≤ 1 := by
        rw [encR, PyData.depth, depth_ints]
        omega
      omega
end
theorem merge2 {α : Type} (le : α → α → Bool) (a b : α) : [a, b].mergeSort le = if le a b = true then [a, b] else [b, a] := by
  unfold List.mergeSort
  simp [List.MergeSort.Internal.splitInTwo, List.merge]
/-- sorted of a list of two tuples of as many ints -/
def rSort2 (K : PySem.W.Frag) : List V → Hp → VK → Prop := fun vs H Q => ∃ (a : Addr) (x y : V) (xs ys : List Int), vs = [.ref a] ∧ SqL K H a [x, y] ∧ IntD K H x true xs ∧ IntD K H y true ys ∧ xs.length = ys.length ∧ ∀ p, H p = none → Q (.ref p) (upd H p (.lst (if ys < xs then [y, x] else [x, y])))
theorem cr_sort2 {X : Cx} (hu : X.A.units + 64 < cLine) : CallR X (.builtin "sorted") (rSort2 X.K) := by
  intro pins s σ H vs us Q I r h
  obtain ⟨a, x, y, xs, ys, rfl, hs, hx, hy, hl, q⟩ := h
  obtain ⟨its, rv, hli, hz⟩ := I.list hs
  rw [Vals.ref1 r]
  cases rv with
  | cons r1 rv =>
  cases rv with
  | cons r2 rv =>
  cases rv
  rename_i u v
  have er : PySem.W.EachIs (fun v b => ∃ as, Reads s.heap v (encR b) as) [u, v] [(x, xs), (y, ys)] := .cons (Dp.reads I _ _ _ hx.dp r1) (.cons (Dp.reads I _ _ _ hy.dp r2) .nil)
  have e : PySem.W.EachIs (fun v (b : V × List Int) => RelV b.1 v) [u, v] [(x, xs), (y, ys)] := .cons r1 (.cons r2 .nil)
  have er' : ∀ h' : Heap, (∀ b o, s.heap.get? b = some o → h'.get? b = some o) → PySem.W.EachIs (fun v b => ∃ as, Reads h' v (encR b) as) [u, v] [(x, xs), (y, ys)] := fun h' k => er.mono fun _ _ ⟨as, r⟩ => ⟨as, PyProof.Rows.Reads.keeps k r⟩
  have hal : PySem.W.AllAlike ([(x, xs), (y, ys)].map encR) := PySem.W.AllAlike.of fun b b' => by simpa [encR, PySem.W.alike] using PySem.W.alike_ints b.2 b'.2
  refine PySem.W.sorted_vals hli.isList (rows2 (b := (x, xs)) (c := (y, ys)) (s := { s with heap := PySem.W.sortingHeap (PySem.W.copyHeap s.heap [u, v]) (s.heap.objs.size + (1 : Nat)) [u, v] }) hl (er' _ fun _ _ => PySem.W.sorting_copy_old) (by show X.A.units + 1 + 1 + 1 < cLine; omega)) (by rw [PySem.sizeLine_eq]; simp) ?_
  have hr := PySem.W.sortVals_data (R := fun v (b : V × List Int) => RelV b.1 v) false e (er' _ fun _ _ => PySem.W.sorting_copy_old (h := s.heap) (vs := [u, v])) hal
  have hm : [(x, xs), (y, ys)].mergeSort (PySem.W.dataLe false encR) = if ys < xs then [(y, ys), (x, xs)] else [(x, xs), (y, ys)] := by
    have hle : PySem.W.dataLe false encR (x, xs) (y, ys) = !decide (ys < xs) := by
      rw [PySem.W.dataLe_eq]
      show (!PySem.W.dataLt (encR (y, ys)) (encR (x, xs))) = _
      rw [encR, encR, PySem.W.dataLt_tuple]
      show (!PySem.W.rowLt (ys.map .int) (xs.map .int)) = _
      rw [PySem.W.dataLt_ints]
    rw [merge2, hle]
    by_cases hlt : ys < xs <;> simp [hlt]
  rw [hm] at hr
  obtain ⟨ep, he'⟩ := sortedAll_at s.heap [u, v] (PySem.W.sortVals (PySem.W.dataKind (PySem.W.sortingHeap (PySem.W.copyHeap s.heap [u, v]) (s.heap.objs.size + (1 : Nat)) [u, v]) ([(x, xs), (y, ys)].map encR)) false [u, v] [u, v]).toArray
  have hvals : Vals (if ys < xs then [y, x] else [x, y]) (PySem.W.sortVals (PySem.W.dataKind (PySem.W.sortingHeap (PySem.W.copyHeap s.heap [u, v]) (s.heap.objs.size + (1 : Nat)) [u, v]) ([(x, xs), (y, ys)].map encR)) false [u, v] [u, v]) := by
    have key : ∀ (bs : List (V × List Int)) (zs : List Value), PySem.W.EachIs (fun v (b : V × List Int) => RelV b.1 v) zs bs → Vals (bs.map (·.1)) zs := by
      intro bs
      induction bs with
      | nil => intro zs h; cases h; exact .nil
      | cons b bs ih => intro zs h; cases h with | cons h1 h2 => exact .cons h1 (ih _ h2)
    have := key _ _ hr
    by_cases hlt : ys < xs
    · rw [if_pos hlt] at this ⊢
      exact this
    · rw [if_neg hlt] at this ⊢
      exact this
  refine ⟨.ref _, upd H (s.heap.objs.size + (1 : Nat)) (.lst (if ys < xs then [y, x] else [x, y])), I.laid (t' := s.toks) (fun _ _ => sortedAll_old) (Nat.le_succ _) ⟨?_, _, ep, hvals, he'⟩, rfl, q _ (I.hok.fresh (Nat.le_succ _))⟩
  rw [PySem.sizeLine_eq]
  by_cases hlt : ys < xs
  · rw [if_pos hlt]; simp
  · rw [if_neg hlt]; simp
end My
namespace EnT
open PySem PySem.Spec PyProof.Rows
open Sem (wp)
open AutoSeq1 (wpAny_loadPart')
/-! ### enumerate of a tuple -/
theorem new_enum (l : Addr) (items : Array Value) (n : Nat) (dct : Option Addr) (sl : Array (Option Value)) :
    Meets (Builtin.«enumerate.__new__» ⟨[.type "enumerate", .ref l], []⟩) (fun _ R s => s.heap.get? l = some { cls := .type "tuple", dict := dct, data := .seq items n, slots := sl } ∧
      R (.ok (.ret (.ref (s.heap.push { cls := .type "tuple_iterator", data := .fields #[.ref l, .int 0 0] }).objs.size)))
        { s with heap := (s.heap.push { cls := .type "tuple_iterator", data := .fields #[.ref l, .int 0 0] }).push { cls := .type "enumerate", data := .fields #[.none, .bool false, .ref s.heap.objs.size, rawInt 0, .none, .none] } }) :=
  .of_wp fun prog w A R s h => by
    obtain ⟨hp, g, d, tk, os⟩ := s
    obtain ⟨hl, h⟩ := h
    have hsub := sub_enumerate
    have hT : Heap.IsTuple (Shared.heap ⟨hp, g, d, tk, os⟩) l items := ⟨_, hl, rfl, n, rfl⟩
    wp_walk using wpAny_loadPart' hl
    refine wpAny_stack_any fun st => wpAny_pure ?_
    split
    · rename_i c _ _ _ _ _
      cases (c == Value.type "enumerate") <;> (wp_walk using wpAny_loadPart' hl, wpAny_pyIter_tuple hT; exact ⟨_, rfl, h⟩)
    · wp_walk using wpAny_loadPart' hl, wpAny_pyIter_tuple hT
      exact ⟨_, rfl, h⟩
section
variable {prog : Program} {w : World} {A : Around} {E : Value → Shared → Prop} {s : Shared}
theorem call_enum {l : Addr} {items : Array Value} {Q : Value → Shared → Prop} (hL : s.heap.IsTuple l items)
    (h : ∀ h', IsEnum h' (s.heap.objs.size + 1) s.heap.objs.size 0 .none → h'.IsTupleIter s.heap.objs.size l 0 → (∀ b o, s.heap.get? b = some o → h'.get? b = some o) → Q (.ref (s.heap.objs.size + 1)) { s with heap := h' }) :
    wpAny (model prog w) A (call (.type "enumerate") [.ref l]) Q E s := by
  obtain ⟨⟨c, dct, dt, sl⟩, hl, hc, n, hd⟩ := hL
  replace hc : c = .type "tuple" := hc
  replace hd : dt = .seq items n := hd
  subst hc hd
  refine callType_new F.called_enumerate (by decide) (F.typeCall_enumerate_1 _) (F.newCall_enumerate_1 _) (fun obj => F.args_object_init_2 obj _) F.entry_enumerate_new (new_enum l items n dct sl) ⟨hl, ?_⟩
  have hz : (s.heap.push { cls := .type "tuple_iterator", data := .fields #[.ref l, .int 0 0] }).objs.size = s.heap.objs.size + 1 := Heap.size_push ..
  show _ ∧ _
  rw [hz]
  have he : IsEnum ((s.heap.push { cls := .type "tuple_iterator", data := .fields #[.ref l, .int 0 0] }).push { cls := .type "enumerate", data := .fields #[.none, .bool false, .ref s.heap.objs.size, rawInt 0, .none, .none] }) (s.heap.objs.size + 1) s.heap.objs.size 0 .none := by
    have q := Heap.get?_push_size (s.heap.push { cls := .type "tuple_iterator", data := .fields #[.ref l, .int 0 0] }) (o := { cls := .type "enumerate", data := .fields #[.none, .bool false, .ref s.heap.objs.size, rawInt 0, .none, .none] }) rfl
    rw [hz] at q
    exact q
  exact ⟨⟨_, he, rfl⟩, h _ he ⟨_, Heap.get?_push_of_some _ (Heap.get?_push_size _ rfl), rfl, rfl⟩ fun b o x => Heap.get?_push_of_some _ (Heap.get?_push_of_some _ x)⟩
end
end EnT
namespace L2
open PySem PySem.Spec PyProof.Rows
/-- the tuple at a, each item in a new pair -/
def IteT (K : PySem.W.Frag) (a : Addr) : It :=
  ⟨fun i H => ∃ (xs : List V) (x : V), SqT K H a xs ∧ xs[i]? = some x, fun i H v H' => ∃ T x, v = .ref T ∧ H T = none ∧ H' = upd H T (.tup [.int (i : Nat), x]) ∧ ∀ xs, SqT K H a xs → xs[i]? = some x, fun i H => ∃ xs : List V, SqT K H a xs ∧ xs.length ≤ i⟩
theorem turn_enumT {P : Program} {w : World} {K : PySem.W.Frag} {elts : List Expr} {kk : Nat} {tpos : Pos} (a e it : Addr) :
    Turn P w K (.Tuple elts kk tpos) (IteT K a) [e, it] e (fun i h => (∃ old, IsEnum h e it ((i : Nat) : Int) old) ∧ h.IsTupleIter it a i ∧ e ≠ it) where
  mem := by simp
  obj := fun i h st b hb => by
    obtain ⟨⟨old, he⟩, ⟨o, ho, hc, hd⟩, _⟩ := st
    rcases (by simpa using hb : b = e ∨ b = it) with z | z
    · rw [z]; exact ⟨_, he, fun v q => nomatch q⟩
    · rw [z]; exact ⟨o, ho, fun v q => by rw [hd] at q; cases q⟩
  keep := fun i h h' st k => let ⟨⟨old, he⟩, hi, hne⟩ := st; ⟨⟨old, k e (by simp) _ he⟩, hi.at fun o q => k it (by simp) o q, hne⟩
  item := by
    intro X hP hw hK hc i pins s σ H E I hf st hg
    subst hP hw hK
    obtain ⟨⟨old, he⟩, hit, hne⟩ := st
    obtain ⟨xs, x, hq, hx⟩ := hg
    obtain ⟨its, rv, p, hz⟩ := I.tuple hq
    have p : s.heap.IsTuple a its.toArray := p
    obtain ⟨u, hu, ru⟩ := rv.get hx
    have hel : e < s.heap.objs.size := Heap.lt_size he
    have hil : it < s.heap.objs.size := by obtain ⟨_, q, _⟩ := hit; exact Heap.lt_size q
    have n1 : a ≠ it := fun z => by
      obtain ⟨o, ho, hc, _⟩ := id p
      obtain ⟨o', ho', hc', _⟩ := id hit
      rw [z, ho'] at ho
      cases ho
      rw [hc'] at hc
      exact absurd hc (by simp)
    have n2 : e ≠ a := fun z => by
      obtain ⟨o, ho, hc, _⟩ := id p
      have he' : s.heap.get? e = some _ := he
      rw [z, ho] at he'
      cases he'
      exact absurd hc (by simp)
    have hlt : i < its.toArray.size := by
      have := (List.getElem?_eq_some_iff.mp hu).1
      simpa using this
    refine wpAny_pyNext_enum_itemD (Draws.tuple (A := X.A.in1) (I.ok.hd hc) it a n1 its.toArray) he ⟨hit, p⟩ hlt hne (by simp [hne, n2]) fun u' h' tk hP ho st' hT hsz hk => ?_
    have eu : u' = u := by
      rw [List.getElem?_toArray, hu] at hP
      exact (Option.some.inj hP).symm
    subst eu
    refine ⟨_, rfl, wpAny_letOwnedTupleGo_enum (s := { s with heap := h', toks := tk + 1 }) ho fun h'' he' sb => ?_⟩
    have hT2 : h''.get? s.heap.objs.size = some { cls := .type "tuple", data := .seq #[.int i tk, u'] } := (sb.2 _ (Nat.ne_of_gt hel)).trans hT
    have new : ObjOk X.prog X.w (upd H s.heap.objs.size (.tup [.int (i : Nat), x])) h'' s.heap.objs.size (.tup [.int (i : Nat), x]) :=
      ⟨by show 2 ≤ sizeLine; decide, [.int i tk, u'], .cons ⟨_, rfl⟩ (.cons ru .nil), ⟨_, hT2, rfl, _, rfl⟩⟩
    have I1 : Inv X pins σ (upd H s.heap.objs.size (.tup [.int (i : Nat), x])) { s with heap := h'', toks := tk + 1 } :=
      I.turnedNew (ch := [e, it]) (fun b ob hb q => (sb.2 b (fun z => hb (by simp [z]))).trans (hk b ob (fun z => hb (by simp [z])) (fun z => hb (by simp [z])) q)) hf (Nat.le_refl _) new
    refine ⟨.ref s.heap.objs.size, _, I1, rfl, ⟨_, x, rfl, I.hok.fresh (Nat.le_refl _), rfl, fun ys hy => by rw [I.tuple_inj hy hq]; exact hx⟩, ⟨⟨u', ?_⟩, st'.1.at fun o q => (sb.2 it (Ne.symm hne)).trans q, hne⟩, fun b hb => ?_⟩
    · have e1 : ((i + 1 : Nat) : Int) = (i : Int) + 1 := by omega
      rw [e1]
      exact he'
    · have hb' : b < s.heap.objs.size := by
        rcases (by simpa using hb : b = e ∨ b = it) with z | z
        · rw [z]; exact hel
        · rw [z]; exact hil
      rw [upd_ne (Nat.ne_of_lt hb')]
      exact (hf b hb).1
  done := by
    intro X hP hw hK hc i pins s σ H E I hf st hg
    subst hP hw hK
    obtain ⟨⟨old, he⟩, hit, hne⟩ := st
    obtain ⟨xs, hq, hx⟩ := hg
    obtain ⟨its, rv, p, hz⟩ := I.tuple hq
    have p : s.heap.IsTuple a its.toArray := p
    obtain ⟨f0, f1, f2, f3, f4, f5⟩ := hf it (by simp)
    have hl := rv.length
    have hT : s.TypeIs (.ref e) "enumerate" := ⟨_, he, rfl⟩
    unfold pyNext
    refine wpAny_bind (wpAny_attempt (wpAny_callSpecial?_slot (name := Str.ofString "__next__") hT F.slot_enumerate_next (wpAny_call_entry F.slot_enumerate_next hT F.entry_enumerate_next ?_ (F.args_enumerate_next_1 _))))
    show wpAny _ _ (field (.ref e) 2 >>= _) _ _ _
    refine wpAny_bind (wpAny_field he rfl (x := .ref it) rfl ?_)
    refine wpAny_bind (wpAny_nextOf_tuple_end (I.ok.hd hc) hit p (by simp; omega) fun h' x eb hx' => ?_)
    obtain ⟨o, ho, hcl⟩ := hx'
    refine wpAny_bind (wpAny_isInstance (T := "StopIteration") (b := true) ⟨o, ho, hcl⟩ isSubtype_stop ?_)
    exact wpAny_pure ⟨rfl, I.turned (t' := s.toks) (fun b o hb q => eb b o hb q) f0 f1 f3 f4 f5⟩
  self := fun A i s Q E st h => let ⟨⟨_, he⟩, _⟩ := st; wpAny_pyIter_enum he h
/-- enumerate of a tuple, walked -/
def iEnumT (K : PySem.W.Frag) (ta : TA) : TI := fun σ H R => ta σ H fun vs H1 => ∃ a xs, vs = [.ref a] ∧ SqT K H1 a xs ∧ R (IteT K a) H1
theorem pi_enumT {X : Cx} {e : Expr} {ta : TA} {p pos tpos : Pos} {elts : List Expr} {kk : Nat} (hg : Gl X "enumerate") (hm : X.mg "enumerate" = none) (ha : PA X [e] ta) (hs : starEach [e] X.env = [(false, eval e X.env)] := by rfl) :
    PI X (.Tuple elts kk tpos) (.Call (.Name "enumerate" p) [e] [] pos) (iEnumT X.K ta) := by
  refine ⟨fun pins s σ H R I h => ?_⟩
  refine Call_ (ld_blt I hg hm boot_enumerate (PyProof.Rows.callWith_type1 (thn (ha.run pos pins s σ H _ I h) fun us s1 ⟨vs, H1, I1, r1, q1⟩ => ?_) hs rfl))
  obtain ⟨a, xs, rfl, hq, q⟩ := q1
  rw [Vals.ref1 r1]
  obtain ⟨its, rv, p', hz⟩ := I1.tuple hq
  refine EnT.call_enum p' fun h' he hit hk => wpAny_pyIter_enum he ?_
  have I2 : Inv X pins σ H1 { s1 with heap := h' } := I1.kept (t' := s1.toks) hk
  refine ⟨s1.heap.objs.size + 1, [s1.heap.objs.size + 1, s1.heap.objs.size], _, _, H1, rfl, I2, turn_enumT a (s1.heap.objs.size + 1) s1.heap.objs.size, ⟨⟨.none, he⟩, hit, Nat.succ_ne_self _⟩, fun b hb => ?_, q⟩
  have hle : s1.heap.objs.size ≤ b := by
    rcases (by simpa using hb : b = s1.heap.objs.size + 1 ∨ b = s1.heap.objs.size) with z | z
    · rw [z]; exact Nat.le_add_right _ _
    · rw [z]; exact Nat.le_refl _
  exact I1.fpOk hle (I1.hok.fresh hle)
end L2
namespace My
open PySem PySem.Spec PyProof.Rows L2
/-- what is walked in pairs of a place and an item, each a new tuple -/
structure WkE (J : It) (H1 : Hp) (n : Nat) (Xv : Nat → V) : Prop where
  go : ∀ i H, Same H1 H → i < n → J.go i H
  stop : ∀ i H, Same H1 H → n ≤ i → J.stop i H
  yld : ∀ i H x H', Same H1 H → i < n → J.yld i H x H' → ∃ T, x = .ref T ∧ H T = none ∧ H' = upd H T (.tup [.int (i : Nat), Xv i])
theorem wkE_list {K : PySem.W.Frag} {H1 : Hp} {a : Addr} {xs : List V} (h : SqL K H1 a xs) : WkE (Ite K a) H1 xs.length (fun i => xs.getD i .non) where
  go := fun i H e hi => ⟨xs, xs[i], e.seq h, by simp [hi]⟩
  stop := fun i H e hi => ⟨xs, e.seq h, hi⟩
  yld := fun i H x H' e hi y => by
    obtain ⟨T, z, e1, e2, e3, e4⟩ := y
    have q := e4 xs (e.seq h)
    exact ⟨T, e1, e2, by rw [e3, List.getD_eq_getElem?_getD, q]; rfl⟩
theorem wkE_tup {K : PySem.W.Frag} {H1 : Hp} {a : Addr} {xs : List V} (h : SqT K H1 a xs) : WkE (IteT K a) H1 xs.length (fun i => xs.getD i .non) where
  go := fun i H e hi => ⟨xs, xs[i], SqT.same e h, by simp [hi]⟩
  stop := fun i H e hi => ⟨xs, SqT.same e h, hi⟩
  yld := fun i H x H' e hi y => by
    obtain ⟨T, z, e1, e2, e3, e4⟩ := y
    have q := e4 xs (SqT.same e h)
    exact ⟨T, e1, e2, by rw [e3, List.getD_eq_getElem?_getD, q]; rfl⟩
/-- a written text with parts, its reading by a name of its own -/
def tJoin (ts : List TE) : TE := fun σ H Q => tJs ts Str.empty σ H fun out H1 => Q (.str out) H1
theorem pe_joinedD {X : Cx} {v1 v2 : Expr} {rest : List Expr} {ts : List TE} {pos : Pos} (h : PJ X (v1 :: v2 :: rest) ts) : PE X (.JoinedStr (v1 :: v2 :: rest) pos) (tJoin ts) := pe_joined h
theorem lc_enum {K : PySem.W.Frag} {J : It} {H1 : Hp} {D : Addr} {n j1 j2 : Nat} {Xv : Nat → V} {te : TE} {vs : List Nat} {σ : L2.St} {Qd : Hp → Prop} (R : Nat → V → Hp → Prop) (hJ : WkE J H1 n Xv) (hD : H1 D = none) (hn : n < sizeLine)
    (hw : ∀ x y, wipe (((wipe σ vs).set j1 (some x)).set j2 (some y)) vs = wipe σ vs) (Rs : ∀ i v H H', Tst H H' → R i v H → R i v H')
    (he : ∀ i H', i < n → Same H1 H' → ∀ Q' : VK, (∀ v H'', Same H' H'' → R i v H'' → Q' v H'') → te (((wipe σ vs).set j1 (some (.int (i : Nat)))).set j2 (some (Xv i))) H' Q')
    (hd : ∀ (H' : Hp) (ys : List V), Same H1 H' → H' D = some (.lst ys) → ys.length = n → (∀ (k : Nat) (v : V), ys[k]? = some v → R k v H') → Qd H') :
    ∃ W : Nat → Nat → Hp → Prop, (∃ m, W 0 m (upd H1 D (.lst []))) ∧ ∀ i m H, W i m H →
      (J.stop i H ∧ Qd H) ∨ (J.go i H ∧ ∃ Nx : Hp → Prop, (∀ H', Nx H' → ∃ m', m' < m ∧ W (i + 1) m' H') ∧ ∀ x H', J.yld i H x H' → gTup K 2 (gCons (gName j1) (gCons (gName j2) gNil)) x (wipe σ vs) H' fun σ2 H2 => wipe σ2 vs = wipe σ vs ∧ tYes σ2 H2 fun b H3 =>
        if b = true then te σ2 H3 fun y H4 => ∃ acc, H4 D = some (.lst acc) ∧ acc.length < sizeLine ∧ Nx (upd H4 D (.lst (acc ++ [y]))) else Nx H3) := by
  refine ⟨fun i m H => m = n - i ∧ i ≤ n ∧ Same H1 H ∧ ∃ ys : List V, H D = some (.lst ys) ∧ ys.length = i ∧ ∀ (k : Nat) (v : V), ys[k]? = some v → R k v H, ⟨n, by simp, Nat.zero_le _, Same.new hD, [], upd_same, rfl, fun k v e => by simp at e⟩, ?_⟩
  rintro i m H ⟨rfl, hi, e1, ys, hys, hl, hR⟩
  by_cases hlt : i < n
  · refine .inr ⟨hJ.go i H e1 hlt, fun H' => Same H1 H' ∧ ∃ ys : List V, H' D = some (.lst ys) ∧ ys.length = i + 1 ∧ ∀ (k : Nat) (v : V), ys[k]? = some v → R k v H', fun H' p => ⟨n - (i + 1), by omega, rfl, hlt, p⟩, fun x H' y => ?_⟩
    obtain ⟨T, rfl, hT, rfl⟩ := hJ.yld i H x H' e1 hlt y
    have s2 : Same H (upd H T (.tup [.int (i : Nat), Xv i])) := Same.new hT
    refine ⟨T, _, rfl, .inl (.inl upd_same), rfl, _, _, rfl, _, _, rfl, rfl, hw _ _, ?_⟩
    refine he i _ hlt (e1.trans s2) _ (fun v H4 s4 hv => ⟨ys, s4 _ _ (s2 _ _ hys), by omega, Same.mut ((e1.trans s2).trans s4) hD, ys ++ [v], upd_same, by simp [hl], fun k u h1 => ?_⟩)
    have hD4 : H4 D = some (.lst ys) := s4 _ _ (s2 _ _ hys)
    have t4 : Tst H4 (upd H4 D (.lst (ys ++ [v]))) := (Tst.refl H4).upd hD4 fun xs z => by cases z
    by_cases hk : k < ys.length
    · rw [List.getElem?_append_left hk] at h1
      exact Rs _ _ _ _ (((Tst.of s2).trans (Tst.of s4)).trans t4) (hR k u h1)
    · rw [List.getElem?_append_right (by omega)] at h1
      have e0 : k - ys.length = 0 := by
        cases q : k - ys.length with
        | zero => rfl
        | succ m => rw [q] at h1; simp at h1
      rw [e0] at h1
      obtain rfl : v = u := by simpa using h1
      obtain rfl : k = i := by omega
      exact Rs _ _ _ _ t4 hv
  · obtain rfl : i = n := by omega
    exact .inl ⟨hJ.stop i H e1 (Nat.le_refl _), hd H ys e1 hys hl hR⟩
end My
namespace RvT
open PySem PySem.Spec PyProof.Rows L2 HT
/-! ### t[::-1], t a tuple -/
theorem fm_congr {α β : Type} {f g : α → Option β} : ∀ {l : List α}, (∀ x ∈ l, f x = g x) → l.filterMap f = l.filterMap g
  | [], _ => rfl
  | x :: r, h => by
    rw [List.filterMap_cons, List.filterMap_cons, h x (by simp), fm_congr fun y hy => h y (by simp [hy])]
theorem back_run (xs : Array Value) : ((List.range xs.size).filterMap fun (k : Nat) => xs[((xs.size : Int) - 1 + (k : Int) * (-1)).toNat]?) = xs.toList.reverse := by
  have e : ((List.range xs.size).filterMap fun (k : Nat) => xs[((xs.size : Int) - 1 + (k : Int) * (-1)).toNat]?) = ((List.range xs.size).map fun k => xs.size - 1 - k).filterMap (xs[·]?) := by
    rw [List.filterMap_map]
    refine fm_congr fun k hk => ?_
    have := List.mem_range.mp hk
    have e2 : ((xs.size : Int) - 1 + (k : Int) * (-1)).toNat = xs.size - 1 - k := by omega
    rw [e2]
    rfl
  rw [e, PySem.W.krv_range, List.filterMap_reverse, PySem.W.krv_all]
section
variable {prog : Program} {w : World} {A : Around} {E : Value → Shared → Prop} {s : Shared}
theorem applied_back {sl : Addr} {vl vu vs : Value} {n : Nat} {Q : Int × Int × Nat → Shared → Prop} (hs : s.heap.IsSliceOf sl vl vu vs) (pl : IsPart vl none) (pu : IsPart vu none) (ps : IsPart vs (some (-1)))
    (h : Q ((n : Int) - 1, -1, n) s) : wpAny (model prog w) A (Builtin.Slice.sliceApplied (.ref sl) (pure (n : Int))) Q E s := by
  obtain ⟨os, hos, hcs, hds⟩ := id hs
  unfold Builtin.Slice.sliceApplied Builtin.Slice.sliceFields
  refine wpAny_bind (wpAny_bind (wpAny_field hos hds (x := vl) rfl (wpAny_bind (wpAny_field hos hds (x := vu) rfl (wpAny_bind (wpAny_field hos hds (x := vs) rfl (wpAny_pure ?_)))))))
  refine wpAny_bind (slicePart_ ps ?_)
  show wpAny _ _ (if ((-1 : Int) == 0) = true then _ else _) _ _ s
  rw [if_neg (by decide)]
  refine wpAny_bind (slicePart_ pl (wpAny_bind (slicePart_ pu (wpAny_bind (wpAny_pure ?_)))))
  have e : Builtin.Slice.slicePlaces ((n : Int) - 1) (-1) (-1) = n := by
    unfold Builtin.Slice.slicePlaces
    rw [if_neg (by decide)]
    split
    · rw [show (-(-1) : Int) = 1 by decide, Int.ediv_one]
      omega
    · omega
  show wpAny _ _ (pure ((n : Int) - 1, (-1 : Int), Builtin.Slice.slicePlaces ((n : Int) - 1) (-1) (-1))) _ _ s
  rw [e]
  exact wpAny_pure h
theorem get_back {t sl : Addr} {items : Array Value} {vl vu vs : Value} {Q : Value → Shared → Prop} (ht : IsTup s.heap t items) (hs : s.heap.IsSliceOf sl vl vu vs) (pl : IsPart vl none) (pu : IsPart vu none) (ps : IsPart vs (some (-1)))
    (h : Q (.ref s.heap.objs.size) { s with heap := s.heap.push { cls := .type "tuple", data := .seq items.toList.reverse.toArray } }) (hsz : items.size ≤ sizeLine) : wpAny (model prog w) A (getItem (.ref t) (.ref sl)) Q E s := by
  have htake : sizeOk (.seq items.toList.reverse.toArray) := by
    show items.toList.reverse.toArray.size ≤ sizeLine
    rw [List.size_toArray, List.length_reverse, Array.length_toList]
    exact hsz
  obtain ⟨os, hos, hcs, hds⟩ := id hs
  have hTs : s.TypeIs (.ref sl) "slice" := ⟨os, hos, hcs⟩
  unfold getItem
  try with_reducible refine wpAny_holding ?_
  first | refine wpAny_bind (wpAny_pure ?_) | skip
  refine wpAny_bind (wpAny_sequenceKey ht.typeIs (by decide) ?_)
  refine wpAny_bind (wpAny_callSpecial?_slot (name := Str.ofString "__getitem__") ht.typeIs PyProof.Rows.slot_tuple_getitem (wpAny_call_entry PyProof.Rows.slot_tuple_getitem ht.typeIs entry_tuple_getitem ?_ (args_tuple_getitem _ _)))
  show wpAny _ _ (Builtin.Tuple.tupleItemsOf (.ref t) >>= _) _ _ s
  refine wpAny_bind (tupleItemsOf_ ht ?_)
  refine wpAny_bind (wpAny_typeOf hTs ?_)
  rw [if_pos (by decide)]
  refine wpAny_bind (applied_back hs pl pu ps ?_)
  have hno : ¬ ((((items.size : Int) - 1) == 0 && (-1 : Int) == 1 && items.size == items.size) = true) := by
    intro q
    rw [Bool.and_eq_true, Bool.and_eq_true] at q
    exact absurd q.1.2 (by decide)
  show wpAny _ _ (if (((items.size : Int) - 1) == 0 && (-1 : Int) == 1 && items.size == items.size) = true then _ else _) _ _ s
  rw [if_neg hno, back_run]
  first
    | exact wpAny_bind (m := Builtin.Tuple.tupleExact _) (wpAny_newObj_type (wpAny_pure ⟨_, rfl, wpAny_pure h⟩) htake)
    | exact wpAny_bind (m := Builtin.Tuple.tupleExact _) (wpAny_newObj_type (wpAny_bind (wpAny_pure (wpAny_pure ⟨_, rfl, wpAny_pure h⟩))) htake)
    | exact wpAny_bind (wpAny_bind (m := Builtin.Tuple.tupleExact _) (wpAny_newObj_type (wpAny_pure (wpAny_pure ⟨_, rfl, wpAny_pure h⟩)) htake))
    | exact wpAny_bind (wpAny_bind (m := Builtin.Tuple.tupleExact _) (wpAny_newObj_type (wpAny_pure ⟨_, rfl, wpAny_pure h⟩) htake))
end
end RvT
namespace L2
open PySem PySem.Spec PyProof.Rows
def tRevT (K : PySem.W.Frag) (te : TE) : TE := fun σ H Q => te σ H fun x H1 => ∃ a xs, x = .ref a ∧ SqT K H1 a xs ∧ ∀ p, H1 p = none → Q (.ref p) (upd H1 p (.tup xs.reverse))
theorem pe_revT {X : Cx} {e : Expr} {te : TE} {k : Nat} {p1 p2 p3 pos : Pos} (he : PE X e te) : PE X (.Subscript e (.Slice none none (some (.UnaryOp .USub (.Constant (.int 1) k p1) p2)) p3) pos) (tRevT X.K te) := by
  refine ⟨fun pins s σ H Q I h => ?_⟩
  refine Subscript_ (thn (he.run pins s σ H _ I h) fun v s1 ⟨x, H1, I1, r1, q1⟩ => ?_)
  obtain ⟨a, xs, rfl, hx, q⟩ := q1
  cases r1
  have hst : PO X (some (.UnaryOp .USub (.Constant (.int 1) k p1) p2)) (tPart (tUn (rU fun i => .int (-i)) (tC (.int 1)))) := po_some (pe_un un_neg pe_int)
  refine wpAny_Slice (thn (po_none.run pins s1 σ H1 (fun o H2 => o = none ∧ H2 = H1) I1 ⟨rfl, rfl⟩) fun vl s2 ⟨l, H2, I2, pl, el, e2⟩ => ?_)
  subst el e2
  refine thn (po_none.run pins s2 σ H2 (fun o H3 => o = none ∧ H3 = H2) I2 ⟨rfl, rfl⟩) fun vu s3 ⟨u, H3, I3, pu, eu, e3⟩ => ?_
  subst eu e3
  refine thn (hst.run pins s3 σ H3 (fun o H4 => o = some (-1) ∧ H4 = H3) I3 ⟨1, rfl, -1, rfl, rfl, rfl⟩) fun vs s4 ⟨o, H4, I4, ps, eo, e4⟩ => ?_
  subst eo e4
  have I5 : Inv X pins σ H4 { s4 with heap := s4.heap.push { cls := .type "slice", data := .fields #[vl, vu, vs] } } := I4.kept (t' := s4.toks) fun b ob q => Heap.get?_push_of_some _ q
  obtain ⟨its, r, ht, hz⟩ := I5.tuple hx
  have hlen := r.length
  show wpAny (model X.prog X.w) X.A (subscriptTail e (.Slice none none (some (.UnaryOp .USub (.Constant (.int 1) k p1) p2)) p3) (.ref a) (.ref s4.heap.objs.size)) (EP X pins σ Q) X.xe { s4 with heap := s4.heap.push { cls := .type "slice", data := .fields #[vl, vu, vs] } }
  refine tail_any (ops := [.ref a, .ref s4.heap.objs.size]) ht.typeIs (PyProof.Rows.slot_tuple_getitem.lookup) ?_ (by with_unfolding_all rfl)
  refine RvT.get_back ht (Heap.IsSliceOf.new _ vl vu vs) pl pu ps ?_ (by rw [List.size_toArray]; omega)
  refine ⟨.ref _, _, I5.laid (t' := s4.toks) (o := .tup xs.reverse) (fun b ob q => Heap.get?_push_of_some _ q) (Nat.le_refl _) ?_, rfl, q _ (I5.hok.fresh (Nat.le_refl _))⟩
  exact ⟨by rw [List.length_reverse]; exact hz, its.reverse, r.reverse, IsTup.new _ _⟩
end L2
namespace My
open PySem PySem.Spec PyProof.Rows L2 SX
/-! ### a text so many times -/
theorem fold_rep (l : List Nat) : ∀ (m : Nat) (acc : List Nat), (List.replicate m l.toArray).foldl (· ++ ·) acc.toArray = (acc ++ (List.replicate m l).flatten).toArray
  | 0, acc => by simp
  | m + 1, acc => by
    have e : acc.toArray ++ l.toArray = (acc ++ l).toArray := by simp
    rw [List.replicate_succ, List.foldl_cons, List.replicate_succ, List.flatten_cons, e, fold_rep l m (acc ++ l), List.append_assoc]
theorem mul_S (l : List Nat) {k : Int} (h : 0 ≤ k) : Txt.mul (S l) k = S (List.replicate k.toNat l).flatten := by
  unfold Txt.mul
  split
  · rw [show k = 0 by omega]
    rfl
  · split
    · rename_i h1 h2
      rw [Bool.or_eq_true, beq_iff_eq, beq_iff_eq] at h2
      rcases h2 with h2 | h2
      · rw [h2]
        show S l = S (List.flatten [l])
        simp
      · rw [S_len] at h2
        obtain rfl := List.length_eq_zero_iff.mp h2
        congr 1
        induction k.toNat with
        | zero => rfl
        | succ n ih => rw [List.replicate_succ, List.flatten_cons, ← ih] <;> rfl
    · have := fold_rep l k.toNat []
      rw [List.nil_append] at this
      exact congrArg (fun a => (⟨a⟩ : Str)) this
def rRepS : R2 := fun x y H Q => ∃ (l : List Nat) (k : Int), x = .str (S l) ∧ y = .int k ∧ 0 ≤ k ∧ k ≤ 1000 ∧ l.length ≤ 1000 ∧ Q (.str (S (List.replicate k.toNat l).flatten)) H
theorem op_repS {X : Cx} : OpR X (binaryOp .Mult) rRepS := by
  intro pins s σ H x y v u Q I rx ry h
  obtain ⟨l, k, rfl, rfl, k0, k1, hl, q⟩ := h
  obtain ⟨t, rfl⟩ := rx
  obtain ⟨t', rfl⟩ := ry
  refine SB.mul ⟨?_, fun h1 _ => ?_, fun _ _ => ?_⟩ fun t' tk => ?_
  · rw [decide_eq_false (by omega), decide_eq_false (by omega)]
    rfl
  · rw [S_len]
    have : (1000 : Int) ≤ (2 ^ 63 - 1) / k := by
      refine Int.le_ediv_of_mul_le (by omega) ?_
      omega
    omega
  · unfold PySem.Builtin.Str.tooLong
    rw [S_len, sizeLine_eq]
    refine decide_eq_false ?_
    have : l.length * k.toNat ≤ 1000 * 1000 := Nat.mul_le_mul hl (by omega)
    omega
  · rw [mul_S l k0]
    exact ⟨.str _, H, I.tok _, ⟨_, rfl⟩, q⟩
/-! ### a call by keywords alone, in the parameters' order -/
def tCallK0 (n : Nat) (sp : Sp) (E : XK) (tk : TA) : TE := fun σ H Q => tk σ H fun zs H2 => zs.length = n ∧ sp zs H2 Q E
section
variable {X : Cx} {CX : CXT} {k : Nat} {ps : List Str} {sp : Sp} {E : XK} {x : Str} {st : Stmt} {p pos : Pos} {kws : List Keyword} {tk : TA}
theorem pe_dfK (D : Df X.prog X.w X.K X.mg X.base CX k x ps sp) (F : Fd X.K X.mg x st)
    (hb : ∀ (kV doc pm : Value) (an : Option Addr) (cdv ct : Value) (ws : List Value), ws.length = ps.length → bindArgs (PySem.W.fnOf x x (defArgs st) (defBody st) (defScope st) .none kV doc pm an cdv ct) ⟨[], ps.zip ws⟩ = pure (ps.zip ws))
    (hr : Room k X.A) (hg : Gl X x) (hx : Passes CX X E) (hkw : PK X kws tk) (hall : (backToKw pos (keywordEach kws X.env)).all (·.1.isSome) = true := by rfl) (hks : (backToKw pos (keywordEach kws X.env)).filterMap (·.1) = ps := by rfl)
    (hdb : (x == ("__debug__" : Str)) = false := by decide) (hpl : ((backTo pos (starEach [] X.env)).any (·.1) || (backToKw pos (keywordEach kws X.env)).any (·.1.isNone)) = false := by rfl) :
    PE X (.Call (.Name x p) [] kws pos) (tCallK0 ps.length sp E tk) := by
  obtain ⟨f, fd, FO, gm, kp, _, oc0, od0, osl0, lk0⟩ := D.ex
  obtain ⟨f', fd', F1, gm'⟩ := F.ex
  rw [gm] at gm'
  obtain rfl : f = f' := by
    have := Option.some.inj gm'
    exact Value.ref.inj this
  obtain ⟨oc, od, dV, kV, doc, pm, an, cdv, ct, osl, rfl, lk, hcd, hD, hK⟩ := F1.ex
  rw [lk0] at lk
  have efd : fd = PySem.W.fnOf x x (defArgs st) (defBody st) (defScope st) dV kV doc pm an cdv ct := by
    have := congrArg Obj.data (Option.some.inj lk)
    exact Data.func.inj this
  subst efd
  have hdv : dV = .none := by
    rcases hD with ⟨_, h⟩ | ⟨h, _⟩
    · exact h
    · exact absurd rfl h
  subst hdv
  have kb : KBn X.K (PySem.W.fnOf x x (defArgs st) (defBody st) (defScope st) .none kV doc pm an cdv ct) ps 0 ps (fun _ ws => ws) (fun _ zs => zs) := by
    refine ⟨fun s us ws _ h1 h2 => ?_, fun _ r => r⟩
    obtain rfl := List.length_eq_zero_iff.mp h1
    exact .of_eq (hb kV doc pm an cdv ct ws h2)
  refine ⟨fun pins s σ H Q I h => ?_⟩
  refine wpAny_Call_Name_kw (ld_glob I hg gm ?_ hdb)
  refine PySem.W.callWith_KW0 (h₀ := X.base) I.ok.mod.kin kp hall (thn (hkw.run pos pins s σ H _ I h) fun ws s2 ⟨zs, H2, I2, rz, l2, q2⟩ => ⟨I2.kIn, ?_⟩) hpl
  rw [hks]
  exact run_fnN (us := []) (vs := []) FO hr kb hx I2 .nil rz rfl l2 q2
end
/-! ### a def whose code object is known -/
structure Fdc (K : PySem.W.Frag) (mg : Str → Option Value) (x : Str) (st : Stmt) (c : Addr) : Prop where
  ex : ∃ (f : Addr) (fd : FuncData), FunD K x x (defArgs st) (defBody st) (defScope st) [] [] f fd ∧ mg x = some (.ref f) ∧ fd.code = .ref c
section
variable {P : Program} {w : World} {K : PySem.W.Frag} {mg : Str → Option Value} {base : Heap} {CX : CXT} {k : Nat} {x : Str} {ps N : List Str} {sp : Sp} {st : Stmt}
theorem Df.mkC {c : Addr} (F : Fdc K mg x st c) (S : FnScope N ps (defScope st))
    (hb : ∀ (kV doc pm : Value) (an : Option Addr) (cdv ct : Value) (us : List Value), us.length = ps.length → bindArgs (PySem.W.fnOf x x (defArgs st) (defBody st) (defScope st) .none kV doc pm an cdv ct) ⟨us, []⟩ = pure (ps.zip us))
    (len : ∀ vs H Q E, sp vs H Q E → vs.length = ps.length)
    (hbody : ∀ (f : Addr) (A : Around) (outer : List Env) (s : Shared) (H : Hp) (vs : List V) (Q : VK) (E : XK), Room k (A.deeper (envOfC x (defScope st) s.heap.objs.size f (.ref c))) → sp vs H Q E →
      ∃ t, PSs (cxOf CX P w K mg base N x (defScope st) f (.ref c) A outer s H E) (defBody st) t ∧ t { nx := fun _ H' => Q .non H', rt := Q } (start N vs) H) : Df P w K mg base CX (k + 1) x ps sp := by
  obtain ⟨f, fd, F1, gm, ec⟩ := F.ex
  have kp := F1.kp
  have bn := F1.bindsN hb
  obtain ⟨oc, od, dV, kV, doc, pm, an, cdv, ct, osl, rfl, lk, hcd, _, _⟩ := F1.ex
  obtain rfl : cdv = .ref c := ec
  exact ⟨f, _, fn_of lk hcd S len fun A outer s H vs Q E hr hsp => hbody f A outer s H vs Q E hr hsp, gm, kp, bn, oc, od, osl, lk⟩
end
/-! ### a loop over a list, where not all stays -/
theorem for_lst {K : PySem.W.Frag} {a : Addr} {xs : List V} {g : TG} {tb : TS} {D : Ends} {σ : L2.St} {H : Hp} (Pv : Nat → L2.St → Hp → Prop) (hq : ∀ i σ H, Pv i σ H → SqL K H a xs) (h0 : Pv 0 σ H)
    (hs : ∀ i σ H, i < xs.length → Pv i σ H → g (xs.getD i .non) σ H fun σ2 H2 => tb { D with nx := Pv (i + 1), ct := Pv (i + 1), bk := D.nx } σ2 H2) (hd : ∀ σ H, Pv xs.length σ H → D.nx σ H) :
    ∃ W : Nat → Nat → L2.St → Hp → Prop, (∃ m, W 0 m σ H) ∧ ∀ i m σ H, W i m σ H → ((Itl K a).stop i H ∧ D.nx σ H) ∨ ((Itl K a).go i H ∧ ∃ N : L2.St → Hp → Prop, (∀ σ' H', N σ' H' → ∃ m', m' < m ∧ W (i + 1) m' σ' H') ∧ ∀ x H', (Itl K a).yld i H x H' → g x σ H' fun σ2 H2 => tb { nx := N, rt := D.rt, bk := D.nx, ct := N } σ2 H2) := by
  refine ⟨fun i m σ H => m = xs.length - i ∧ i ≤ xs.length ∧ Pv i σ H, ⟨xs.length - 0, rfl, Nat.zero_le _, h0⟩, ?_⟩
  rintro i m σ H ⟨rfl, hi, hP⟩
  have w := wk_list (hq _ _ _ hP)
  by_cases hlt : i < xs.length
  · refine .inr ⟨w.go i H (Same.refl H) hlt, Pv (i + 1), fun σ' H' p => ⟨xs.length - (i + 1), by omega, rfl, hlt, p⟩, fun x H' y => ?_⟩
    obtain ⟨rfl, rfl⟩ := w.yld i H x H' (Same.refl H) hlt y
    exact hs i σ _ hlt hP
  · obtain rfl : i = xs.length := by omega
    exact .inl ⟨w.stop _ H (Same.refl H) (Nat.le_refl _), hd σ H hP⟩
/-! ### a comprehension whose items change the state: Pv tells of the heap, the list stands at D -/
theorem lc_st {J : It} {H1 : Hp} {D : Addr} {n j : Nat} {Xv : Nat → V} {te : TE} {vs : List Nat} {σ : L2.St} {Qd : Hp → Prop} (Pv : Nat → List V → Hp → Prop) (hn : n < sizeLine)
    (hgo : ∀ i ys H, Pv i ys H → i < n → J.go i H) (hstop : ∀ ys H, Pv n ys H → J.stop n H) (hyld : ∀ i ys H x H', Pv i ys H → i < n → J.yld i H x H' → H' = H ∧ x = Xv i)
    (hw : ∀ x, wipe ((wipe σ vs).set j (some x)) vs = wipe σ vs) (hP0 : Pv 0 [] (upd H1 D (.lst []))) (hD : ∀ i ys H, Pv i ys H → H D = some (.lst ys) ∧ ys.length = i)
    (he : ∀ i ys H', i < n → Pv i ys H' → ∀ Q' : VK, (∀ v H'', H'' D = some (.lst ys) → Pv (i + 1) (ys ++ [v]) (upd H'' D (.lst (ys ++ [v]))) → Q' v H'') → te ((wipe σ vs).set j (some (Xv i))) H' Q')
    (hd : ∀ (H' : Hp) (ys : List V), Pv n ys H' → Qd H') :
    ∃ W : Nat → Nat → Hp → Prop, (∃ m, W 0 m (upd H1 D (.lst []))) ∧ ∀ i m H, W i m H →
      (J.stop i H ∧ Qd H) ∨ (J.go i H ∧ ∃ Nx : Hp → Prop, (∀ H', Nx H' → ∃ m', m' < m ∧ W (i + 1) m' H') ∧ ∀ x H', J.yld i H x H' → gName j x (wipe σ vs) H' fun σ2 H2 => wipe σ2 vs = wipe σ vs ∧ tYes σ2 H2 fun b H3 =>
        if b = true then te σ2 H3 fun y H4 => ∃ acc, H4 D = some (.lst acc) ∧ acc.length < sizeLine ∧ Nx (upd H4 D (.lst (acc ++ [y]))) else Nx H3) := by
  refine ⟨fun i m H => m = n - i ∧ i ≤ n ∧ ∃ ys, Pv i ys H, ⟨n, by simp, Nat.zero_le _, [], hP0⟩, ?_⟩
  rintro i m H ⟨rfl, hi, ys, hP⟩
  by_cases hlt : i < n
  · refine .inr ⟨hgo i ys H hP hlt, fun H' => ∃ ys, Pv (i + 1) ys H', fun H' p => ⟨n - (i + 1), by omega, rfl, hlt, p⟩, fun x H' y => ?_⟩
    obtain ⟨rfl, rfl⟩ := hyld i ys H x H' hP hlt y
    refine ⟨hw _, ?_⟩
    refine iteT (B := ∃ ys, Pv (i + 1) ys H') (he i ys _ hlt hP _ fun v H4 h4 p4 => ⟨ys, h4, by rw [(hD i ys _ hP).2]; omega, _, p4⟩)
  · obtain rfl : i = n := by omega
    exact .inl ⟨hstop ys H hP, hd H ys hP⟩
end My
/-! tuple * int with any number from 0 on, list * int -/
namespace My
open PySem PySem.Spec PyProof.Rows L2
theorem tuple_mulS (l : Addr) (items : Array Value) (n : Nat) (dd : Option Addr) (sl : Array (Option Value)) (x : Int) (u : Tok) (c0 : (decide (x < -(2 ^ 63)) || decide (x ≥ 2 ^ 63)) = false) (c1 : (items.isEmpty || x == 1) = true) :
    Meets (Builtin.«tuple.__mul__» ⟨[.ref l, .int x u], []⟩) (fun _ R s => s.heap.get? l = some { cls := .type "tuple", dict := dd, data := .seq items n, slots := sl } ∧ R (.ok (.ret (.ref l))) s) :=
  .of_wp fun prog w A R s h => by
    obtain ⟨hp, g, d, tk, os⟩ := s
    obtain ⟨hl, h⟩ := h
    have f1 := AutoSeq1.idx_int
    wp_walk using wpAny_loadPart' hl
    repeat (first
      | (refine wpAny_ite_false (decide_eq_false (by rw [c0]; exact Bool.false_ne_true)) ?_; wp_walk using wpAny_loadPart' hl)
      | (refine wpAny_ite_true (decide_eq_true (by rw [c1])) ?_; wp_walk using wpAny_loadPart' hl))
    exact ⟨_, rfl, h⟩
theorem tuple_mul0 (l : Addr) (items : Array Value) (n : Nat) (dd : Option Addr) (sl : Array (Option Value)) (x : Int) (u : Tok) (c0 : (decide (x < -(2 ^ 63)) || decide (x ≥ 2 ^ 63)) = false) (c1 : (items.isEmpty || x == 1) = false) (c2 : (decide (x ≤ 0) || items.isEmpty) = true) :
    Meets (Builtin.«tuple.__mul__» ⟨[.ref l, .int x u], []⟩) (fun _ R s => s.heap.get? l = some { cls := .type "tuple", dict := dd, data := .seq items n, slots := sl } ∧
      R (.ok (.ret (Value.ref s.heap.objs.size))) { s with heap := s.heap.push { cls := Value.type "tuple", data := Data.seq #[] }, toks := s.toks }) :=
  .of_wp fun prog w A R s h => by
    obtain ⟨hp, g, d, tk, os⟩ := s
    obtain ⟨hl, h⟩ := h
    have f1 := AutoSeq1.idx_int
    wp_walk using wpAny_loadPart' hl
    repeat (first
      | (refine wpAny_ite_false (decide_eq_false (by rw [c0]; exact Bool.false_ne_true)) ?_; wp_walk using wpAny_loadPart' hl)
      | (refine wpAny_ite_false (decide_eq_false (by rw [c1]; exact Bool.false_ne_true)) ?_; wp_walk using wpAny_loadPart' hl)
      | (refine wpAny_ite_true (decide_eq_true (by rw [c2])) ?_; wp_walk using wpAny_loadPart' hl))
    exact ⟨_, rfl, h⟩
def rRepTA (K : PySem.W.Frag) : R2 := fun x y H Q => ∃ l k xs, x = .ref l ∧ y = .int k ∧ SqT K H l xs ∧ 0 ≤ k ∧ k ≤ 1000 ∧ xs.length ≤ 1000 ∧ (xs = [] ∨ k = 1 → Q (.ref l) H) ∧ (¬ (xs = [] ∨ k = 1) → ∀ p, H p = none → Q (.ref p) (upd H p (.tup (List.replicate k.toNat xs).flatten)))
section
variable {X : Cx}
theorem op_repTA : OpR X (binaryOp .Mult) (rRepTA X.K) := by
  intro pins s σ H x y v u Q I rx ry h
  obtain ⟨l, k, xs, rfl, rfl, hT, h1, h2, hz, q1, q2⟩ := h
  by_cases hk : 2 ≤ k ∧ xs ≠ []
  · exact op_repT pins s σ H _ _ v u Q I rx ry ⟨l, k, xs, rfl, rfl, hT, hk.2, hk.1, h2, hz, q2 fun e => by
      rcases e with e | e
      · exact hk.2 e
      · omega⟩
  cases rx
  obtain ⟨t, rfl⟩ := ry
  obtain ⟨its, r, ⟨⟨cls, dd, data, sl⟩, ho, hc, n, hd⟩, hs⟩ := I.tuple hT
  simp only at hc hd
  subst hc hd
  have hle : its.length = xs.length := r.length.symm
  have hi : its.toArray.isEmpty = true ↔ xs = [] := by
    rw [← List.length_eq_zero_iff, ← hle, List.length_eq_zero_iff]
    cases its <;> simp
  have c0 : (decide (k < -(2 ^ 63)) || decide (k ≥ 2 ^ 63)) = false := by
    rw [decide_eq_false (by omega), decide_eq_false (by omega)] <;> rfl
  by_cases hS : xs = [] ∨ k = 1
  · have c1 : (its.toArray.isEmpty || k == 1) = true := by
      rcases hS with e | e
      · rw [hi.mpr e]; rfl
      · rw [e]; simp
    refine wpAny_binaryOp_repeat_ref (T := "tuple") (U := "int") (by decide) ⟨_, ho, rfl⟩ (fun s' => typeIs_int s' k t) noFill_tuple_mul F.fills_int_mul F.slot_int_rmul repeat_tuple F.slot_int_index.lookup
      (call_meets F.slot_int_rmul (typeIs_int s k t) F.entry_int_rmul (F.args_int_rmul_2 _ _) (int_rmul_tuple k t l its.toArray n dd sl)
        ⟨ho, rfl, ⟨_, ho, rfl⟩, call_meets F.slot_tuple_mul ⟨_, ho, rfl⟩ F.entry_tuple_mul (F.args_tuple_mul_2 _ _) (tuple_mulS l its.toArray n dd sl k t c0 c1) ⟨ho, ?_⟩⟩)
    exact ⟨.ref l, _, I, rfl, q1 hS⟩
  · have c1 : (its.toArray.isEmpty || k == 1) = false := by
      cases e : its.toArray.isEmpty with
      | true => exact absurd (.inl (hi.mp e)) hS
      | false => rw [Bool.false_or]; exact beq_eq_false_iff_ne.mpr fun e => hS (.inr e)
    have hk0 : k = 0 := by
      by_cases he : xs = []
      · exact absurd (.inl he) hS
      · have : ¬ 2 ≤ k := fun h => hk ⟨h, he⟩
        have : k ≠ 1 := fun e => hS (.inr e)
        omega
    have c2 : (decide (k ≤ 0) || its.toArray.isEmpty) = true := by rw [decide_eq_true (by omega)]; rfl
    refine wpAny_binaryOp_repeat_ref (T := "tuple") (U := "int") (by decide) ⟨_, ho, rfl⟩ (fun s' => typeIs_int s' k t) noFill_tuple_mul F.fills_int_mul F.slot_int_rmul repeat_tuple F.slot_int_index.lookup
      (call_meets F.slot_int_rmul (typeIs_int s k t) F.entry_int_rmul (F.args_int_rmul_2 _ _) (int_rmul_tuple k t l its.toArray n dd sl)
        ⟨ho, rfl, ⟨_, ho, rfl⟩, call_meets F.slot_tuple_mul ⟨_, ho, rfl⟩ F.entry_tuple_mul (F.args_tuple_mul_2 _ _) (tuple_mul0 l its.toArray n dd sl k t c0 c1 c2) ⟨ho, ?_⟩⟩)
    refine ⟨.ref s.heap.objs.size, _, I.laid (t' := s.toks) (o := .tup (List.replicate k.toNat xs).flatten) (fun b ob q => Heap.get?_push_of_some _ q) (Nat.le_refl _) ?_, rfl, q2 hS _ (I.hok.fresh (Nat.le_refl _))⟩
    rw [hk0]
    exact ⟨Nat.zero_le _, _, .nil, IsTup.new _ _⟩
def rRepLA (K : PySem.W.Frag) : R2 := fun x y H Q => ∃ l k xs, x = .ref l ∧ y = .int k ∧ SqL K H l xs ∧ 0 ≤ k ∧ k ≤ 1000 ∧ xs.length ≤ 1000 ∧ ∀ p, H p = none → Q (.ref p) (upd H p (.lst (List.replicate k.toNat xs).flatten))
theorem op_repLA : OpR X (binaryOp .Mult) (rRepLA X.K) := by
  intro pins s σ H x y v u Q I rx ry h
  obtain ⟨a, k, xs, rfl, rfl, hs, h1, h2, hz, q⟩ := h
  obtain rfl : v = Value.ref a := rx
  obtain ⟨t, rfl⟩ := ry
  obtain ⟨its, rv, ⟨⟨cls, dd, data, sl⟩, n, ho, hc, hdn, hd⟩, hlen⟩ := I.list hs
  have hc1 : cls = Value.type "list" := hc
  have hd1 : data = Data.seq its.toArray n := hd
  subst hc1 hd1
  have hle : its.length = xs.length := rv.length.symm
  have hsl := sizeLine_eq
  have hm : its.toArray.size * k.toNat ≤ 1000 * 1000 := by
    rw [List.size_toArray, hle]
    exact Nat.mul_le_mul hz (by omega)
  have hm' : its.length * k.toNat ≤ 1000 * 1000 := by rw [List.size_toArray] at hm; exact hm
  refine wpAny_binaryOp_repeat_ref (T := "list") (U := "int") (by decide) ⟨_, ho, rfl⟩ (fun s' => typeIs_int s' k t) noFill_list_mul F.fills_int_mul F.slot_int_rmul repeat_list F.slot_int_index.lookup
    (call_meets F.slot_int_rmul (typeIs_int s k t) F.entry_int_rmul (F.args_int_rmul_2 _ _) (lm_int_rmul_list_any k t a its.toArray n dd sl)
      ⟨ho, rfl, ⟨_, ho, rfl⟩, call_meets F.slot_list_mul ⟨_, ho, rfl⟩ F.entry_list_mul (F.args_list_mul_2 _ _)
        (lm_list_mul_any a its.toArray n dd sl k t (by simp [Builtin.List.listFitsIndex]; omega) (by omega) (by simp [Builtin.List.listTooLong, sizeLine]; omega))
        ⟨ho, ?_⟩⟩)
  have e : List.foldl (fun x1 x2 => x1 ++ x2) #[] (List.replicate (if its.toArray.isEmpty = true then 0 else k.toNat) its.toArray) = (List.replicate k.toNat its).flatten.toArray := by
    rw [listMul_foldl_if]
  rw [e]
  refine ⟨.ref s.heap.objs.size, upd H s.heap.objs.size (.lst (List.replicate k.toNat xs).flatten), I.laid (t' := s.toks) (fun b o e => Heap.get?_push_of_some _ e) (Nat.le_refl _) ⟨?_, _, 0, ?_, Heap.get?_push_size _ rfl⟩, rfl, q _ (I.hok.fresh (Nat.le_refl _))⟩
  · rw [PyProof.Rows.lm_len_rep_flat, sizeLine_eq]
    have a1 : k.toNat * xs.length ≤ 1000 * 1000 := Nat.mul_le_mul (by omega) hz
    omega
  · exact rv.rep k.toNat
end
end My
/-! [x for row in some for x in row], rows of ints -/
namespace My
open PySem PySem.Spec PyProof.Rows L2
theorem take_flat {rows : List (List Int)} {i : Nat} (h : i < rows.length) : (rows.take (i + 1)).flatten = (rows.take i).flatten ++ rows.getD i [] := by
  rw [List.take_succ, List.getElem?_eq_getElem h, List.flatten_append, List.getD_eq_getElem?_getD, List.getElem?_eq_getElem h]
  simp
theorem lc_flat {J : It} {H1 : Hp} {D : Addr} {n j1 j2 : Nat} {Xv : Nat → V} {wi1 : TI} {te : TE} {vs vs1 : List Nat} {σ : L2.St} {Qd : Hp → Prop} (rows : List (List Int)) (hJ : Wk J H1 n Xv) (hn : n = rows.length) (hD : H1 D = none) (hsz : rows.flatten.length < sizeLine)
    (hw : ∀ x, wipe ((wipe σ vs).set j1 (some x)) vs = wipe σ vs)
    (hw1 : ∀ x y, wipe ((wipe ((wipe σ vs).set j1 (some x)) vs1).set j2 (some y)) vs1 = wipe ((wipe σ vs).set j1 (some x)) vs1)
    (hi1 : ∀ i H', i < n → Same H1 H' → ∀ Q : It → Hp → Prop, (∀ J1, Wk J1 H1 (rows.getD i []).length (fun k => .int ((rows.getD i []).getD k 0)) → Q J1 H') → wi1 ((wipe σ vs).set j1 (some (Xv i))) H' Q)
    (he : ∀ (x : Int) (y : V) H' (Q' : VK), Q' (.int x) H' → te ((wipe ((wipe σ vs).set j1 (some y)) vs1).set j2 (some (.int x))) H' Q')
    (hd : ∀ H' : Hp, Same H1 H' → H' D = some (.lst (iV rows.flatten)) → Qd H') :
    ∃ W : Nat → Nat → Hp → Prop, (∃ m, W 0 m (upd H1 D (.lst []))) ∧ ∀ i m H, W i m H →
      (J.stop i H ∧ Qd H) ∨ (J.go i H ∧ ∃ Nx : Hp → Prop, (∀ H', Nx H' → ∃ m', m' < m ∧ W (i + 1) m' H') ∧ ∀ x H', J.yld i H x H' → gName j1 x (wipe σ vs) H' fun σ2 H2 => wipe σ2 vs = wipe σ vs ∧ tYes σ2 H2 fun b H3 =>
        if b = true then wi1 σ2 H3 fun J1 H4 => ∃ W1 : Nat → Nat → Hp → Prop, (∃ m, W1 0 m H4) ∧ ∀ j k H, W1 j k H →
          (J1.stop j H ∧ Nx H) ∨ (J1.go j H ∧ ∃ Nx1 : Hp → Prop, (∀ H', Nx1 H' → ∃ k', k' < k ∧ W1 (j + 1) k' H') ∧ ∀ x H', J1.yld j H x H' → gName j2 x (wipe σ2 vs1) H' fun σ3 H5 => wipe σ3 vs1 = wipe σ2 vs1 ∧ tYes σ3 H5 fun b H6 =>
            if b = true then te σ3 H6 fun y H7 => ∃ acc, H7 D = some (.lst acc) ∧ acc.length < sizeLine ∧ Nx1 (upd H7 D (.lst (acc ++ [y]))) else Nx1 H6)
        else Nx H3) := by
  refine ⟨fun i m H => m = n - i ∧ i ≤ n ∧ Same H1 H ∧ H D = some (.lst (iV (rows.take i).flatten)), ⟨n, by simp, Nat.zero_le _, Same.new hD, upd_same⟩, ?_⟩
  rintro i m H ⟨rfl, hi, e1, hys⟩
  by_cases hlt : i < n
  · refine .inr ⟨hJ.go i H e1 hlt, fun H' => Same H1 H' ∧ H' D = some (.lst (iV (rows.take (i + 1)).flatten)), fun H' p => ⟨n - (i + 1), by omega, rfl, hlt, p⟩, fun x H' y => ?_⟩
    obtain ⟨rfl, rfl⟩ := hJ.yld i H x H' e1 hlt y
    refine ⟨hw _, ?_⟩
    unfold tYes
    simp only [if_true]
    refine hi1 i _ hlt e1 _ fun J1 hJ1 => ?_
    have htf := take_flat (rows := rows) (i := i) (by omega)
    have hfl : ∀ j, j ≤ (rows.getD i []).length → ((rows.take i).flatten ++ (rows.getD i []).take j).length ≤ rows.flatten.length := by
      intro j hj
      have h2 : rows.flatten = (rows.take (i + 1)).flatten ++ (rows.drop (i + 1)).flatten := by rw [← List.flatten_append, List.take_append_drop]
      rw [h2, htf, List.length_append, List.length_append, List.length_append, List.length_take]
      omega
    refine ⟨fun j k H => k = (rows.getD i []).length - j ∧ j ≤ (rows.getD i []).length ∧ Same H1 H ∧ H D = some (.lst (iV ((rows.take i).flatten ++ (rows.getD i []).take j))), ⟨_, rfl, Nat.zero_le _, e1, by rw [List.take_zero, List.append_nil]; exact hys⟩, ?_⟩
    rintro j k H2 ⟨rfl, hj, e2, hys2⟩
    by_cases hjl : j < (rows.getD i []).length
    · refine .inr ⟨hJ1.go j H2 e2 hjl, fun H' => Same H1 H' ∧ H' D = some (.lst (iV ((rows.take i).flatten ++ (rows.getD i []).take (j + 1)))), fun H' p => ⟨_, by omega, rfl, hjl, p⟩, fun x H3 y => ?_⟩
      obtain ⟨rfl, rfl⟩ := hJ1.yld j H2 x H3 e2 hjl y
      refine ⟨hw1 _ _, ?_⟩
      refine he _ _ _ _ ⟨_, hys2, ?_, Same.mut e2 hD, ?_⟩
      · have := hfl j hj
        simp only [iV, List.length_map]
        omega
      · rw [upd_same]
        have e3 : (rows.getD i []).take (j + 1) = (rows.getD i []).take j ++ [(rows.getD i []).getD j 0] := by
          rw [List.take_succ, List.getElem?_eq_getElem hjl, List.getD_eq_getElem?_getD (i := j), List.getElem?_eq_getElem hjl]
          rfl
        rw [e3]
        simp [iV]
    · have e : j = (rows.getD i []).length := by omega
      refine .inl ⟨hJ1.stop j H2 e2 (by omega), e2, ?_⟩
      rw [htf, hys2, e, List.take_length]
  · have e : i = n := by omega
    subst e
    refine .inl ⟨hJ.stop i H e1 (Nat.le_refl _), hd H e1 ?_⟩
    rw [hys, hn, List.take_length]
end My
namespace My
open PySem PySem.Spec PyProof.Rows L2
def top (i : Nat) : Stmt := PySem.Challenge.pw_meankept_k68_whole_no_product_of_powers.main.body.getD i (.Pass ⟨0, 0, 0, 0⟩)
abbrev s_is_whole : Stmt := top 6
theorem sc_is_whole : FnScope ["value"] ["value"] (defScope s_is_whole) := ⟨rfl, rfl, rfl, by decide +kernel, rfl, by decide +kernel, by decide +kernel⟩
abbrev s_is_between : Stmt := top 7
theorem sc_is_between : FnScope ["value", "low", "high"] ["value", "low", "high"] (defScope s_is_between) := ⟨rfl, rfl, rfl, by decide +kernel, rfl, by decide +kernel, by decide +kernel⟩
abbrev s_need_deeds : Stmt := top 12
theorem sc_need_deeds : FnScope ["deeds"] ["deeds"] (defScope s_need_deeds) := ⟨rfl, rfl, rfl, by decide +kernel, rfl, by decide +kernel, by decide +kernel⟩
abbrev s_fits_letter : Stmt := top 13
theorem sc_fits_letter : FnScope ["deeds", "value"] ["deeds", "value"] (defScope s_fits_letter) := ⟨rfl, rfl, rfl, by decide +kernel, rfl, by decide +kernel, by decide +kernel⟩
abbrev s_fits_row : Stmt := top 14
theorem sc_fits_row : FnScope ["deeds", "value", "letter"] ["deeds", "value"] (defScope s_fits_row) := ⟨rfl, rfl, rfl, by decide +kernel, rfl, by decide +kernel, by decide +kernel⟩
abbrev s_plain_of : Stmt := top 15
theorem sc_plain_of : FnScope ["letters", "found", "letter"] ["letters"] (defScope s_plain_of) := ⟨rfl, rfl, rfl, by decide +kernel, rfl, by decide +kernel, by decide +kernel⟩
abbrev s_undone_of : Stmt := top 16
theorem sc_undone_of : FnScope ["row", "letter"] ["row"] (defScope s_undone_of) := ⟨rfl, rfl, rfl, by decide +kernel, rfl, by decide +kernel, by decide +kernel⟩
abbrev s_product_of : Stmt := top 17
theorem sc_product_of : FnScope ["some", "row", "letter"] ["some"] (defScope s_product_of) := ⟨rfl, rfl, rfl, by decide +kernel, rfl, by decide +kernel, by decide +kernel⟩
abbrev s_need_row : Stmt := top 18
theorem sc_need_row : FnScope ["deeds", "row"] ["deeds", "row"] (defScope s_need_row) := ⟨rfl, rfl, rfl, by decide +kernel, rfl, by decide +kernel, by decide +kernel⟩
abbrev s_beside : Stmt := top 19
theorem sc_beside : FnScope ["deeds", "one", "other", "first"] ["deeds", "one", "other"] (defScope s_beside) := ⟨rfl, rfl, rfl, by decide +kernel, rfl, by decide +kernel, by decide +kernel⟩
abbrev s_times_row : Stmt := top 20
theorem sc_times_row : FnScope ["deeds", "row", "many", "one"] ["deeds", "row", "many"] (defScope s_times_row) := ⟨rfl, rfl, rfl, by decide +kernel, rfl, by decide +kernel, by decide +kernel⟩
abbrev s_tail_of : Stmt := top 22
theorem sc_tail_of : FnScope ["row", "cut"] ["row"] (defScope s_tail_of) := ⟨rfl, rfl, rfl, by decide +kernel, rfl, by decide +kernel, by decide +kernel⟩
abbrev s_middle_of : Stmt := top 23
theorem sc_middle_of : FnScope ["row", "cut"] ["row"] (defScope s_middle_of) := ⟨rfl, rfl, rfl, by decide +kernel, rfl, by decide +kernel, by decide +kernel⟩
abbrev s_root_in : Stmt := top 24
theorem sc_root_in : FnScope ["row", "cut", "middle", "size", "part"] ["row"] (defScope s_root_in) := ⟨rfl, rfl, rfl, by decide +kernel, rfl, by decide +kernel, by decide +kernel⟩
abbrev s_root : Stmt := top 25
theorem sc_root : FnScope ["deeds", "row"] ["deeds", "row"] (defScope s_root) := ⟨rfl, rfl, rfl, by decide +kernel, rfl, by decide +kernel, by decide +kernel⟩
abbrev s_meet_power : Stmt := top 26
theorem sc_meet_power : FnScope ["deeds", "one", "other", "first", "second", "row", "mine", "many", "mate", "times"] ["deeds", "one", "other"] (defScope s_meet_power) := ⟨rfl, rfl, rfl, by decide +kernel, rfl, by decide +kernel, by decide +kernel⟩
abbrev s_l_begun : Stmt := top 28
theorem sc_l_begun : FnScope ["_law_script", "_law_great", "_law_cell"] ["_law_script"] (defScope s_l_begun) := ⟨rfl, rfl, rfl, by decide +kernel, rfl, by decide +kernel, by decide +kernel⟩
abbrev s_l_blended : Stmt := top 29
theorem sc_l_blended : FnScope ["_law_state", "_law_turn", "_law_found", "_law_prime", "_law_blend", "_law_cell"] ["_law_state"] (defScope s_l_blended) := ⟨rfl, rfl, rfl, by decide +kernel, rfl, by decide +kernel, by decide +kernel⟩
abbrev s_l_draw : Stmt := top 30
theorem sc_l_draw : FnScope ["_law_state", "_law_room", "_law_found"] ["_law_state", "_law_room"] (defScope s_l_draw) := ⟨rfl, rfl, rfl, by decide +kernel, rfl, by decide +kernel, by decide +kernel⟩
abbrev s_l_pick : Stmt := top 31
theorem sc_l_pick : FnScope ["_law_state", "_law_some"] ["_law_state", "_law_some"] (defScope s_l_pick) := ⟨rfl, rfl, rfl, by decide +kernel, rfl, by decide +kernel, by decide +kernel⟩
abbrev s_l_mk_plain : Stmt := top 32
theorem sc_l_mk_plain : FnScope ["_law_letters", "_law_found", "_law_letter"] ["_law_letters"] (defScope s_l_mk_plain) := ⟨rfl, rfl, rfl, by decide +kernel, rfl, by decide +kernel, by decide +kernel⟩
abbrev s_l_mk_undone : Stmt := top 33
theorem sc_l_mk_undone : FnScope ["_law_row", "_law_letter"] ["_law_row"] (defScope s_l_mk_undone) := ⟨rfl, rfl, rfl, by decide +kernel, rfl, by decide +kernel, by decide +kernel⟩
abbrev s_l_mk_letters : Stmt := top 34
theorem sc_l_mk_letters : FnScope ["_law_deeds", "_law_deed"] ["_law_deeds"] (defScope s_l_mk_letters) := ⟨rfl, rfl, rfl, by decide +kernel, rfl, by decide +kernel, by decide +kernel⟩
abbrev s_l_mk_row : Stmt := top 35
theorem sc_l_mk_row : FnScope ["_law_state", "_law_deeds", "_law_least", "_law_most", "_law_found", "_law_lap", "_law_some", "_law_letter"] ["_law_state", "_law_deeds", "_law_least", "_law_most"] (defScope s_l_mk_row) := ⟨rfl, rfl, rfl, by decide +kernel, rfl, by decide +kernel, by decide +kernel⟩
abbrev s_l_mr_whole : Stmt := top 36
theorem sc_l_mr_whole : FnScope ["_law_thing"] ["_law_thing"] (defScope s_l_mr_whole) := ⟨rfl, rfl, rfl, by decide +kernel, rfl, by decide +kernel, by decide +kernel⟩
abbrev s_l_mr_times : Stmt := top 37
theorem sc_l_mr_times : FnScope ["_law_row", "_law_many", "_law_one"] ["_law_row", "_law_many"] (defScope s_l_mr_times) := ⟨rfl, rfl, rfl, by decide +kernel, rfl, by decide +kernel, by decide +kernel⟩
abbrev s_l_mr_turned : Stmt := top 38
theorem sc_l_mr_turned : FnScope ["_law_row", "_law_by"] ["_law_row", "_law_by"] (defScope s_l_mr_turned) := ⟨rfl, rfl, rfl, by decide +kernel, rfl, by decide +kernel, by decide +kernel⟩
abbrev s_l_mr_commute : Stmt := top 39
theorem sc_l_mr_commute : FnScope ["_law_one", "_law_other"] ["_law_one", "_law_other"] (defScope s_l_mr_commute) := ⟨rfl, rfl, rfl, by decide +kernel, rfl, by decide +kernel, by decide +kernel⟩
abbrev s_l_mr_pair : Stmt := top 40
theorem sc_l_mr_pair : FnScope ["_law_state", "_law_deeds", "_law_base", "_law_way", "_law_by", "_law_one", "_law_other"] ["_law_state", "_law_deeds"] (defScope s_l_mr_pair) := ⟨rfl, rfl, rfl, by decide +kernel, rfl, by decide +kernel, by decide +kernel⟩
abbrev s_l_mr_alone : Stmt := top 41
theorem sc_l_mr_alone : FnScope ["_law_deeds", "_law_row", "_law_found"] ["_law_deeds", "_law_row"] (defScope s_l_mr_alone) := ⟨rfl, rfl, rfl, by decide +kernel, rfl, by decide +kernel, by decide +kernel⟩
abbrev s_law : Stmt := top 42
theorem sc_law : FnScope ["_law_script", "_law_state", "_law_turn", "_law_deeds", "_law_one", "_law_other", "_law_found", "_law_lap", "_law_first", "_law_second", "_law_row", "_law_many", "_law_base"] ["_law_script"] (defScope s_law) := ⟨rfl, rfl, rfl, by decide +kernel, rfl, by decide +kernel, by decide +kernel⟩
end My
namespace My
open PySem PySem.Spec PyProof.Rows L2
/-- the built-ins that the text names are the built-in ones -/
structure Bt (mg : Str → Option Value) : Prop where
  isinstance : mg "isinstance" = none
  int : mg "int" = none
  bool : mg "bool" = none
  str : mg "str" = none
  tuple : mg "tuple" = none
  list : mg "list" = none
  len : mg "len" = none
  all : mg "all" = none
  abs : mg "abs" = none
  range : mg "range" = none
  min : mg "min" = none
  sorted : mg "sorted" = none
  reversed : mg "reversed" = none
  enumerate : mg "enumerate" = none
section
variable {P : Program} {w : World} {K : PySem.W.Frag} {mg : Str → Option Value} {base : Heap}
def wholeD : Dt → Bool
  | .int _ => true
  | _ => false
def betweenD (d : Dt) (lo hi : Int) : Bool := match d with
  | .int i => decide (lo ≤ i) && decide (i ≤ hi)
  | _ => false
/-- what isinstance(v, T) answers for the data d -/
theorem DV.tyx {H : Hp} {v : V} {d : Dt} (h : DV H v d) : TyX K H v (.type d.cls) := by
  cases h with
  | non => exact .base .non
  | bl b => exact .base (.bl b)
  | int i => exact .base (.int i)
  | str x => exact .base (.str x)
  | tup h _ => exact .base (.tup h)
  | lst h _ => exact .base (.lst h)
  | dic h => exact .base (.dK h)
@[irreducible] def rIs (K : PySem.W.Frag) : List V → Hp → VK → Prop := rIsi K
theorem call_is {X : Cx} : CallR X (.builtin "isinstance") (rIs X.K) := by
  unfold rIs
  exact call_isi
theorem isi_dv {H : Hp} {v : V} {d : Dt} {n : String} {b : Bool} {Q : VK} (h : DV H v d) (e : kitB d.cls n = some b) (q : Q (.bl b) H) : rIs K [v, .ty n] H Q := by
  unfold rIs
  exact ⟨v, .ty n, _, _, b, rfl, .ty n, h.tyx, kit_ty e, q⟩
theorem kit_int (d : Dt) : kitB d.cls "int" = some (match d with | .int _ => true | .bl _ => true | _ => false) := match d with
  | .non => (by decide +kernel : kitB "NoneType" "int" = some false)
  | .bl _ => (by decide +kernel : kitB "bool" "int" = some true)
  | .int _ => (by decide +kernel : kitB "int" "int" = some true)
  | .str _ => (by decide +kernel : kitB "str" "int" = some false)
  | .tup _ => (by decide +kernel : kitB "tuple" "int" = some false)
  | .lst _ => (by decide +kernel : kitB "list" "int" = some false)
  | .dic => (by decide +kernel : kitB "dict" "int" = some false)
theorem kit_bool (d : Dt) : kitB d.cls "bool" = some (match d with | .bl _ => true | _ => false) := match d with
  | .non => (by decide +kernel : kitB "NoneType" "bool" = some false)
  | .bl _ => (by decide +kernel : kitB "bool" "bool" = some true)
  | .int _ => (by decide +kernel : kitB "int" "bool" = some false)
  | .str _ => (by decide +kernel : kitB "str" "bool" = some false)
  | .tup _ => (by decide +kernel : kitB "tuple" "bool" = some false)
  | .lst _ => (by decide +kernel : kitB "list" "bool" = some false)
  | .dic => (by decide +kernel : kitB "dict" "bool" = some false)
theorem kit_tuple (d : Dt) : kitB d.cls "tuple" = some (match d with | .tup _ => true | _ => false) := match d with
  | .non => (by decide +kernel : kitB "NoneType" "tuple" = some false)
  | .bl _ => (by decide +kernel : kitB "bool" "tuple" = some false)
  | .int _ => (by decide +kernel : kitB "int" "tuple" = some false)
  | .str _ => (by decide +kernel : kitB "str" "tuple" = some false)
  | .tup _ => (by decide +kernel : kitB "tuple" "tuple" = some true)
  | .lst _ => (by decide +kernel : kitB "list" "tuple" = some false)
  | .dic => (by decide +kernel : kitB "dict" "tuple" = some false)
@[irreducible] def spWhole : Sp := fun vs H Q _ => ∃ (v : V) (d : Dt), vs = [v] ∧ DV H v d ∧ Q (.bl (wholeD d)) H
theorem spWhole_i {H : Hp} {v : V} {d : Dt} {Q : VK} {E : XK} (h : DV H v d) (q : Q (.bl (wholeD d)) H) : spWhole [v] H Q E := by
  unfold spWhole
  exact ⟨v, d, rfl, h, q⟩
theorem ok_is_whole (B : Bt mg) (F : Fd K mg "is_whole" s_is_whole) : Df P w K mg base CX0 1 "is_whole" ["value"] spWhole := by
  refine .mk' F sc_is_whole (fun _ _ _ _ _ _ us hl => match us, hl with | [_], _ => rfl) (fun vs H Q E h => ?_) (fun f cdv A outer s H vs Q E hr h => ?_)
  · unfold spWhole at h
    obtain ⟨v, d, rfl, _⟩ := h
    rfl
  · unfold spWhole at h
    obtain ⟨v, d, rfl, hv, q⟩ := h
    refine ⟨_, PSs.nox (pss_one (ps_ret (pe_and (pe_callB call_is (by rfl) B.isinstance boot_isinstance (pa_cons (pv 0) (pa_cons (pe_cls rfl B.int boot_int) pa_nil)))
      (pe_one (pe_not (pe_callB call_is (by rfl) B.isinstance boot_isinstance (pa_cons (pv 0) (pa_cons (pe_cls (n := "bool") rfl B.bool (by decide +kernel)) pa_nil)))))))), ?_⟩
    refine ⟨_, rfl, isi_dv hv (kit_int d) ⟨_, rfl, ?_⟩⟩
    cases d with
    | int i => exact iteT ⟨_, rfl, isi_dv hv (kit_bool _) ⟨_, rfl, q⟩⟩
    | bl b => exact iteT ⟨_, rfl, isi_dv hv (kit_bool _) ⟨_, rfl, q⟩⟩
    | _ => exact iteF q
/-! ### is_between -/
@[irreducible] def spBetween : Sp := fun vs H Q _ => ∃ (v : V) (d : Dt) (lo hi : Int), vs = [v, .int lo, .int hi] ∧ DV H v d ∧ Q (.bl (betweenD d lo hi)) H
theorem spBetween_i {H : Hp} {v : V} {d : Dt} {lo hi : Int} {Q : VK} {E : XK} (h : DV H v d) (q : Q (.bl (betweenD d lo hi)) H) : spBetween [v, .int lo, .int hi] H Q E := by
  unfold spBetween
  exact ⟨v, d, lo, hi, rfl, h, q⟩
theorem ok_is_between (F : Fd K mg "is_between" s_is_between) (D1 : Df P w K mg base CX0 1 "is_whole" ["value"] spWhole) : Df P w K mg base CX0 2 "is_between" ["value", "low", "high"] spBetween := by
  refine .mk' F sc_is_between (fun _ _ _ _ _ _ us hl => match us, hl with | [_, _, _], _ => rfl) (fun vs H Q E h => ?_) (fun f cdv A outer s H vs Q E hr h => ?_)
  · unfold spBetween at h
    obtain ⟨v, d, lo, hi, rfl, _⟩ := h
    rfl
  · unfold spBetween at h
    obtain ⟨v, d, lo, hi, rfl, hv, q⟩ := h
    refine ⟨_, PSs.nox (pss_one (ps_ret (pe_and (pe_df D1 hr rfl pass0 (pa_cons (pv 0) pa_nil)) (pe_one (pe_chain op_le op_le (pv 1) (pv 0) (pv 2)))))), ?_⟩
    refine ⟨_, rfl, spWhole_i hv ⟨_, rfl, ?_⟩⟩
    cases hv with
    | int i =>
      refine iteT ⟨_, rfl, _, rfl, _, _, rfl, rfl, _, rfl, ?_⟩
      show if decide (lo ≤ i) = true then _ else _
      have e : betweenD (.int i) lo hi = (decide (lo ≤ i) && decide (i ≤ hi)) := rfl
      rw [e] at q
      cases h1 : decide (lo ≤ i) with
      | true =>
        rw [h1] at q
        exact iteT ⟨_, rfl, _, _, rfl, rfl, q⟩
      | false =>
        rw [h1] at q
        exact iteF q
    | _ => exact iteF q
/-! ### need_deeds -/
@[irreducible] def spDeeds (C : Addr) : Sp := fun vs H Q E => ∃ (v : V) (d : Dt), vs = [v] ∧ DV H v d ∧ (betweenD d 1 4 = true → Q .non H) ∧ (betweenD d 1 4 = false → E (.ref C) none H)
theorem spDeeds_i {C : Addr} {H : Hp} {v : V} {d : Dt} {Q : VK} {E : XK} (h : DV H v d) (q : betweenD d 1 4 = true → Q .non H) (r : betweenD d 1 4 = false → E (.ref C) none H) : spDeeds C [v] H Q E := by
  unfold spDeeds
  exact ⟨v, d, rfl, h, q, r⟩
/-- an own error class without a field -/
structure Er (K : PySem.W.Frag) (mg : Str → Option Value) (x : Str) (C : Addr) : Prop where
  g : mg x = some (.ref C)
  x : PySem.W.excIn K C [.type "ValueError", .type "Exception", .type "BaseException", .type "object"] "ValueError.__new__" = true
  k : PySem.W.keepIn K (.ref C) = true
  b : PySem.W.subIn K (.ref C) (.type "BaseException") = some true
  t : PySem.W.typeIn K (.ref C) = some (.type "type")
theorem ok_need_deeds {C : Addr} (EC : Er K mg "BadDeeds" C) (gN : ∃ t, mg "MOST_DEEDS" = some (.int 4 t)) (F : Fd K mg "need_deeds" s_need_deeds) (D1 : Df P w K mg base CX0 2 "is_between" ["value", "low", "high"] spBetween) :
    Df P w K mg base (L2.CX P w) 3 "need_deeds" ["deeds"] (spDeeds C) := by
  obtain ⟨tN, gN⟩ := gN
  refine .mk' F sc_need_deeds (fun _ _ _ _ _ _ us hl => match us, hl with | [_], _ => rfl) (fun vs H Q E h => ?_) (fun f cdv A outer s H vs Q E hr h => ?_)
  · unfold spDeeds at h
    obtain ⟨v, d, rfl, _⟩ := h
    rfl
  · unfold spDeeds at h
    obtain ⟨v, d, rfl, hv, q1, q2⟩ := h
    refine ⟨_, pss_one (ps_if (pt_not (pt_val (pe_df D1 hr rfl pass0 (pa_cons (pv 0) (pa_cons pe_int (pa_cons (pe_glob (v := .int 4) rfl gN ⟨_, rfl⟩) pa_nil))))))
      (pss_one (ps_raise rfl (takes_of rfl rfl rfl rfl) (pmk_own PySem.F.excBase_ValueError EC.x EC.g EC.k (raises_own EC.b EC.t) rfl))) pss_nil), ?_⟩
    refine ⟨_, rfl, spBetween_i hv ⟨_, rfl, ?_⟩⟩
    cases e : betweenD d 1 4 with
    | true => exact iteF (q1 e)
    | false => exact iteT (q2 e)
end
end My
namespace My
open PySem PySem.Spec PyProof.Rows L2
/-! ### plain Lean -/
def letterD (n : Int) (d : Dt) : Bool := betweenD d (0 - n) n && (match d with | .int i => !decide (i = 0) | _ => true)
def rowD (n : Int) (d : Dt) : Bool := match d with
  | .tup xs => decide (xs.length ≤ 200) && xs.all (letterD n)
  | _ => false
def plainStep (acc : List Int) (x : Int) : List Int := match acc.getLast? with
  | some y => if y = 0 - x then acc.dropLast else acc ++ [x]
  | none => acc ++ [x]
def plain (xs : List Int) : List Int := xs.foldl plainStep []
def undone (xs : List Int) : List Int := xs.reverse.map fun x => 0 - x
theorem plainStep_len (acc : List Int) (x : Int) : (plainStep acc x).length ≤ acc.length + 1 := by
  unfold plainStep
  split
  · split
    · rw [List.length_dropLast]; omega
    · simp
  · simp
theorem plain_len (xs : List Int) : (plain xs).length ≤ xs.length := by
  have h : ∀ (xs acc : List Int), (xs.foldl plainStep acc).length ≤ acc.length + xs.length := by
    intro xs
    induction xs with
    | nil => intro acc; exact Nat.le_refl _
    | cons x r ih =>
      intro acc
      have h1 := ih (plainStep acc x)
      have h2 := plainStep_len acc x
      simp only [List.foldl_cons, List.length_cons]
      omega
  have := h xs []
  simpa [plain] using this
theorem undone_len (xs : List Int) : (undone xs).length = xs.length := by simp [undone]
section
variable {P : Program} {w : World} {K : PySem.W.Frag} {mg : Str → Option Value} {base : Heap}
/-! ### fits_letter -/
@[irreducible] def spLetter : Sp := fun vs H Q _ => ∃ (n : Int) (v : V) (d : Dt), vs = [.int n, v] ∧ DV H v d ∧ Q (.bl (letterD n d)) H
theorem spLetter_i {H : Hp} {n : Int} {v : V} {d : Dt} {Q : VK} {E : XK} (h : DV H v d) (q : Q (.bl (letterD n d)) H) : spLetter [.int n, v] H Q E := by
  unfold spLetter
  exact ⟨n, v, d, rfl, h, q⟩
theorem decI {i j : Int} : decide (V.int i = V.int j) = decide (i = j) := by
  rw [decide_eq_decide]
  exact ⟨fun e => V.int.inj e, fun e => congrArg _ e⟩
theorem ok_fits_letter (F : Fd K mg "fits_letter" s_fits_letter) (D2 : Df P w K mg base CX0 2 "is_between" ["value", "low", "high"] spBetween) : Df P w K mg base CX0 3 "fits_letter" ["deeds", "value"] spLetter := by
  refine .mk' F sc_fits_letter (fun _ _ _ _ _ _ us hl => match us, hl with | [_, _], _ => rfl) (fun vs H Q E h => ?_) (fun f cdv A outer s H vs Q E hr h => ?_)
  · unfold spLetter at h
    obtain ⟨n, v, d, rfl, _⟩ := h
    rfl
  · unfold spLetter at h
    obtain ⟨n, v, d, rfl, hv, q⟩ := h
    refine ⟨_, PSs.nox (pss_one (ps_ret (pe_and (pe_df D2 hr rfl pass0 (pa_cons (pv 1) (pa_cons (pe_op op_sub pe_int (pv 0)) (pa_cons (pv 0) pa_nil)))) (pe_one (pe_cmpR op_ne (pv 1) pe_int (nomark _)))))), ?_⟩
    refine ⟨_, rfl, _, rfl, _, _, rfl, rfl, _, rfl, spBetween_i hv ⟨_, rfl, ?_⟩⟩
    unfold letterD at q
    cases hv with
    | int i =>
      cases e : betweenD (.int i) (0 - n) n with
      | false =>
        rw [e] at q
        exact iteF q
      | true =>
        rw [e] at q
        refine iteT ⟨_, rfl, rfl, ?_⟩
        show Q (.bl (!decide (V.int i = V.int 0))) H
        rw [decI]
        exact q
    | _ => exact iteF q
/-! ### fits_row -/
@[irreducible] def spFitsRow : Sp := fun vs H Q _ => ∃ (n : Int) (v : V) (d : Dt), vs = [.int n, v] ∧ DV H v d ∧ ∀ H', Same H H' → Q (.bl (rowD n d)) H'
theorem spFitsRow_i {H : Hp} {n : Int} {v : V} {d : Dt} {Q : VK} {E : XK} (h : DV H v d) (q : ∀ H', Same H H' → Q (.bl (rowD n d)) H') : spFitsRow [.int n, v] H Q E := by
  unfold spFitsRow
  exact ⟨n, v, d, rfl, h, q⟩
theorem bls_of {f : Nat → Bool} {n : Nat} {ys : List V} (hl : ys.length = n) (h : ∀ (k : Nat) (v : V), ys[k]? = some v → v = .bl (f k)) : ys = ((List.range n).map f).map V.bl := by
  apply List.ext_getElem?
  intro k
  by_cases hk : k < n
  · have h1 : ys[k]? = some (ys[k]'(by omega)) := List.getElem?_eq_getElem (by omega)
    rw [h1, h k _ h1]
    simp [hk]
  · rw [List.getElem?_eq_none (by omega), List.getElem?_eq_none (by simp; omega)]
theorem all_range {α : Type} (xs : List α) (d : α) (p : α → Bool) : ((List.range xs.length).map fun k => p (xs.getD k d)).all id = xs.all p := by
  have e : ((List.range xs.length).map fun k => p (xs.getD k d)) = xs.map p := by
    apply List.ext_getElem
    · simp
    · intro i h1 h2
      simp
      rw [List.getElem?_eq_getElem (by simpa using h2)]
      rfl
  rw [e]
  simp [List.all_map]
theorem ok_fits_row (B : Bt mg) (gN : ∃ t, mg "MOST_IN_ROW" = some (.int 200 t)) (F : Fd K mg "fits_row" s_fits_row) (D3 : Df P w K mg base CX0 3 "fits_letter" ["deeds", "value"] spLetter) : Df P w K mg base CX0 4 "fits_row" ["deeds", "value"] spFitsRow := by
  obtain ⟨tN, gN⟩ := gN
  refine .mk' F sc_fits_row (fun _ _ _ _ _ _ us hl => match us, hl with | [_, _], _ => rfl) (fun vs H Q E h => ?_) (fun f cdv A outer s H vs Q E hr h => ?_)
  · unfold spFitsRow at h
    obtain ⟨n, v, d, rfl, _⟩ := h
    rfl
  · unfold spFitsRow at h
    obtain ⟨n, v, d, rfl, hv, q⟩ := h
    refine ⟨_, PSs.nox (pss_cons (ps_if (PW.pt (pw_or (pt_not (pt_val (pe_callB call_is (by rfl) B.isinstance boot_isinstance (pa_cons (pv 1) (pa_cons (pe_cls (n := "tuple") rfl B.tuple (by decide +kernel)) pa_nil)))))
        (pw_or1 (pt_cmpR op_gt (pe_callB call_len_seq (by rfl) B.len boot_len (pa_cons (pv 1) pa_nil)) (pe_glob (v := .int 200) rfl gN ⟨_, rfl⟩) (nomark _))))) (pss_one (ps_ret pe_bl)) pss_nil)
      (pss_one (ps_ret (pe_callB (cr_all rfl) (by rfl) B.all (by decide +kernel) (pa_cons (pe_lc (own := [("letter", 2)]) (g := gName 2) rfl sc_fits_row.nd (pi_tup (pv 1)) (blkOk_by (own := [("letter", 2)]) (N := ["deeds", "value", "letter"]) (sc := defScope s_fits_row) (by decide +kernel))
        (fun _ _ _ _ _ => pg_name (i := 2) sc_fits_row.nd rfl (Or.inl rfl)) (fun _ _ _ _ _ => pts_nil) (fun _ _ _ _ _ => pe_df D3 hr rfl pass0 (pa_cons (pv 0) (pa_cons (pv 2) pa_nil)))) pa_nil))))), ?_⟩
    refine ⟨_, rfl, isi_dv hv (kit_tuple d) ⟨_, rfl, ?_⟩⟩
    cases hv with
    | @tup a xs ds h1 h2 =>
      refine iteF ⟨_, rfl, a, xs, rfl, .inr (.inl (.inl h1)), _, _, rfl, rfl, _, rfl, ?_⟩
      have hlen := h2.len
      by_cases hz : (200 : Int) < (xs.length : Int)
      · rw [show decide ((200 : Int) < (xs.length : Int)) = true from decide_eq_true hz]
        refine iteT ?_
        have e : rowD n (.tup ds) = false := by
          show (decide (ds.length ≤ 200) && _) = false
          rw [decide_eq_false (by omega)]
          rfl
        rw [e] at q
        exact q H (Same.refl H)
      · rw [show decide ((200 : Int) < (xs.length : Int)) = false from decide_eq_false hz]
        refine iteF ?_
        refine ⟨_, rfl, a, rfl, ⟨xs, .inl (.inl h1)⟩, fun D hD => ?_⟩
        refine lc_map (fun k v _ => v = .bl (letterD n (ds.getD k .non))) (wk_tup (.inl (.inl h1))) hD (by rw [PySem.sizeLine_eq]; omega) (fun _ => rfl) (fun _ _ _ _ _ h => h) (fun i H' hi e Q' q' => ?_) (fun H' ys e h3 h4 h5 => ?_)
        · have hd : DV H' (xs.getD i .non) (ds.getD i .non) := by
            obtain ⟨d, e1, e2⟩ := h2.get (List.getElem?_eq_getElem hi)
            rw [List.getD_eq_getElem?_getD, List.getD_eq_getElem?_getD, List.getElem?_eq_getElem hi, e1]
            exact e2.same e
          exact ⟨_, rfl, _, rfl, spLetter_i hd (q' _ _ (Same.refl _) rfl)⟩
        · have ey := bls_of h4 h5
          refine ⟨D, (List.range xs.length).map fun k => letterD n (ds.getD k .non), rfl, SqL.of (by rw [h3, ey]), ?_⟩
          have e9 : rowD n (.tup ds) = ((List.range xs.length).map fun k => letterD n (ds.getD k .non)).all id := by
            rw [hlen, all_range ds .non (letterD n)]
            show (decide (ds.length ≤ 200) && _) = _
            rw [decide_eq_true (by omega)]
            rfl
          rw [← e9]
          exact q H' e
    | _ => exact iteT (q H (Same.refl H))
end
end My
namespace My
open PySem PySem.Spec PyProof.Rows L2
theorem take_get_succ {xs : List Int} {i : Nat} (h : i < xs.length) : xs.take (i + 1) = xs.take i ++ [xs.getD i 0] := by
  rw [List.take_succ, List.getD_eq_getElem?_getD, List.getElem?_eq_getElem h]
  rfl
theorem iV_getD {xs : List Int} {i : Nat} (h : i < xs.length) : (iV xs).getD i .non = .int (xs.getD i 0) := by
  simp [iV, List.getD_eq_getElem?_getD, h]
theorem plain_snoc (xs : List Int) (x : Int) : plain (xs ++ [x]) = plainStep (plain xs) x := by
  unfold plain
  rw [List.foldl_append]
  rfl
section
variable {P : Program} {w : World} {K : PySem.W.Frag} {mg : Str → Option Value} {base : Heap}
/-! ### plain_of -/
@[irreducible] def spPlain (K : PySem.W.Frag) : Sp := fun vs H Q _ => ∃ (a : Addr) (xs : List Int), vs = [.ref a] ∧ SqS K H a (iV xs) ∧ xs.length < 1000000 ∧ ∀ v H', Same H H' → Row H' v (plain xs) → Q v H'
theorem spPlain_i {H : Hp} {a : Addr} {xs : List Int} {Q : VK} {E : XK} (h : SqS K H a (iV xs)) (hl : xs.length < 1000000) (q : ∀ v H', Same H H' → Row H' v (plain xs) → Q v H') : spPlain K [.ref a] H Q E := by
  unfold spPlain
  exact ⟨a, xs, rfl, h, hl, q⟩
theorem spPlain_row {H : Hp} {v : V} {xs : List Int} {Q : VK} {E : XK} (h : Row H v xs) (hl : xs.length < 1000000) (q : ∀ v H', Same H H' → Row H' v (plain xs) → Q v H') : spPlain K [v] H Q E := by
  obtain ⟨a, rfl, h⟩ := h
  exact spPlain_i (.inr (.inl (.inl h))) hl q
theorem ok_plain (B : Bt mg) (F : Fd K mg "plain_of" s_plain_of) : Df P w K mg base CX0 1 "plain_of" ["letters"] (spPlain K) := by
  refine .mk' F sc_plain_of (fun _ _ _ _ _ _ us hl => match us, hl with | [_], _ => rfl) (fun vs H Q E h => ?_) (fun f cdv A outer s H vs Q E hr h => ?_)
  · unfold spPlain at h
    obtain ⟨a, xs, rfl, _⟩ := h
    rfl
  · unfold spPlain at h
    obtain ⟨a, xs, rfl, hs, hl, q⟩ := h
    have nd := sc_plain_of.nd
    obtain ⟨wi, pi, hpi⟩ := pi_pick hs
    refine ⟨_, PSs.nox (pss_cons (ps_set (i := 1) nd rfl (Or.inl rfl) (pe_lst pa_nil))
      (pss_cons (ps_for PassesOwn.never rfl (pi rfl (pv 0)) (pg_name (i := 2) nd rfl (Or.inl rfl))
        (pss_one (ps_if (PW.pt (pw_and (pt_cmpR (op_neD hr.units) (pv 1) (pe_lst pa_nil) (nomark _)) (pw_and1 (pt_cmpR op_eq (pe_ix ix_list (pv 1) (pe_un un_neg pe_int) (fun _ _ => rfl)) (pe_op op_sub pe_int (pv 2)) (nomark _)))))
          (pss_one (ps_expr (pe_bm0 PySem.F.plainAttrs_list PySem.F.slot_list_pop PySem.F.type_list_pop mt_pop (pv 1))))
          (pss_one (ps_expr (pe_bm PySem.F.plainAttrs_list PySem.F.slot_list_append PySem.F.type_list_append mt_append (pv 1) (pa_cons (pv 2) pa_nil)))))))
      (pss_one (ps_ret (pe_callTy call_tuple_of (by rfl) B.tuple (by decide +kernel) (pa_cons (pv 1) pa_nil)))))), ?_⟩
    refine ⟨Nat.zero_le _, fun D hD => ?_⟩
    refine hpi _ _ _ _ (Same.new hD) (fun Q q => ⟨_, rfl, q⟩) fun J hJ => ?_
    refine for_wk hJ (fun i σ H' => ∃ x, σ = [some (.ref a), some (.ref D), x] ∧ Same H H' ∧ H' D = some (.lst (iV (plain (xs.take i))))) ?_ ?_ ?_ ?_
    · exact ⟨_, rfl, Same.new hD, upd_same⟩
    · rintro i σ H ⟨x, _, h, _⟩
      exact h
    · rintro i σ H' hi ⟨x, rfl, h4, h5⟩
      simp only [iV, List.length_map] at hi
      have hx : (iV xs).getD i .non = .int (xs.getD i 0) := iV_getD hi
      have ep : plain (xs.take (i + 1)) = plainStep (plain (xs.take i)) (xs.getD i 0) := by rw [take_get_succ hi, plain_snoc]
      have hlen : (plain (xs.take i)).length ≤ i := by
        have h1 := plain_len (xs.take i)
        rw [List.length_take] at h1
        omega
      rw [hx]
      generalize plain (xs.take i) = r at h5 ep hlen
      generalize xs.getD i 0 = y at ep
      refine ⟨_, rfl, Nat.zero_le _, fun l hl => neD_int (t := false) (xs := r) (ys := []) (.lst (SqL.of (by rw [upd_ne (ne_of_none h5 hl)]; exact h5))) (.lst (SqL.of upd_same)) ⟨_, rfl, ?_⟩⟩
      have h5l : upd H' l (.lst []) D = some (.lst (iV r)) := by rw [upd_ne (ne_of_none h5 hl)]; exact h5
      have h4l : Same H (upd H' l (.lst [])) := h4.trans (Same.new hl)
      have app : plainStep r y = r ++ [y] → ∃ l2 xs2 y2, V.ref D = .ref l2 ∧ [V.int y] = [y2] ∧ upd H' l (.lst []) l2 = some (.lst xs2) ∧ xs2.length < sizeLine ∧ ∃ x, [some (V.ref a), some (V.ref D), some (.int y)] = [some (.ref a), some (.ref D), x] ∧ Same H (upd (upd H' l (.lst [])) l2 (.lst (xs2 ++ [y2]))) ∧ upd (upd H' l (.lst [])) l2 (.lst (xs2 ++ [y2])) D = some (.lst (iV (plain (xs.take (i + 1))))) := fun e =>
        ⟨D, iV r, .int y, rfl, rfl, h5l, by rw [PySem.sizeLine_eq]; simp [iV]; omega, some (.int y), rfl, Same.mut h4l hD, by rw [upd_same, ep, e]; simp [iV]⟩
      have hr' : r = [] ∨ ∃ r' z, r = r' ++ [z] := by
        rcases List.eq_nil_or_concat r with h | ⟨r', z, h⟩
        · exact .inl h
        · exact .inr ⟨r', z, by rw [h, List.concat_eq_append]⟩
      rcases hr' with rfl | ⟨r', z, rfl⟩
      · exact iteF ⟨_, rfl, .inl ⟨rfl, _, SqL.of h5l⟩, _, rfl, app rfl⟩
      · refine iteT_of (by simp) ⟨_, rfl, 1, rfl, D, _, _, _, rfl, rfl, SqL.of h5l, by rw [iV, List.map_append]; exact atI_last _ _, _, rfl, _, _, rfl, rfl, rfl, _, rfl, ?_⟩
        have es : plainStep (r' ++ [z]) y = if z = 0 - y then r' else r' ++ [z] ++ [y] := by
          unfold plainStep
          rw [List.getLast?_append]
          simp
        by_cases hz : z = 0 - y
        · rw [if_pos hz] at es
          exact iteT_of (by rw [decI]; exact decide_eq_true hz) ⟨_, rfl, .inl ⟨rfl, _, SqL.of h5l⟩, D, _, .int z, rfl, rfl, h5l, by simp [iV], _, rfl, Same.mut h4l hD, by rw [upd_same, ep, es]; simp [iV]⟩
        · rw [if_neg hz] at es
          exact iteF_of (by rw [decI]; exact decide_eq_false hz) ⟨_, rfl, .inl ⟨rfl, _, SqL.of h5l⟩, _, rfl, app es⟩
    · rintro σ H' ⟨x, rfl, h4, h5⟩
      rw [List.take_of_length_le (by simp [iV])] at h5
      refine ⟨_, rfl, D, _, rfl, .inl ⟨SqL.of h5, fun l hl => ?_⟩⟩
      exact q _ _ (h4.trans (Same.new hl)) ⟨l, rfl, upd_same⟩
end
end My
namespace My
open PySem PySem.Spec PyProof.Rows L2
theorem row_of_dv {H : Hp} {v : V} {xs : List Int} (h : DV H v (.tup (xs.map Dt.int))) : Row H v xs := by
  cases h with
  | @tup a vs _ h1 h2 =>
    have e : vs = iV xs := by
      clear h1
      induction xs generalizing vs with
      | nil => cases h2; rfl
      | cons x r ih =>
        cases h2 with
        | cons h3 h4 =>
          cases h3
          rw [ih h4]
          rfl
    exact ⟨a, rfl, by rw [← e]; exact h1⟩
theorem letterD_int {n : Int} {d : Dt} (h : letterD n d = true) : ∃ x, d = .int x ∧ 0 - n ≤ x ∧ x ≤ n ∧ x ≠ 0 := by
  unfold letterD at h
  cases d with
  | int x =>
    simp [betweenD] at h
    exact ⟨x, rfl, by omega, by omega, h.2⟩
  | _ => simp [betweenD] at h
theorem rowD_tup {n : Int} {d : Dt} (h : rowD n d = true) : ∃ xs : List Int, d = .tup (xs.map Dt.int) ∧ xs.length ≤ 200 ∧ ∀ x ∈ xs, 0 - n ≤ x ∧ x ≤ n ∧ x ≠ 0 := by
  cases d with
  | tup ds =>
    unfold rowD at h
    rw [Bool.and_eq_true, List.all_eq_true] at h
    obtain ⟨h1, h2⟩ := h
    have key : ∀ ds : List Dt, (∀ x ∈ ds, letterD n x = true) → ∃ xs : List Int, ds = xs.map Dt.int ∧ ∀ x ∈ xs, 0 - n ≤ x ∧ x ≤ n ∧ x ≠ 0 := by
      intro ds
      induction ds with
      | nil => exact fun _ => ⟨[], rfl, by simp⟩
      | cons d r ih =>
        intro h
        obtain ⟨x, rfl, hx⟩ := letterD_int (h d (by simp))
        obtain ⟨xs, rfl, hxs⟩ := ih fun y hy => h y (by simp [hy])
        refine ⟨x :: xs, rfl, fun y hy => ?_⟩
        rcases List.mem_cons.mp hy with rfl | hy
        · exact hx
        · exact hxs y hy
    obtain ⟨xs, rfl, hxs⟩ := key ds h2
    exact ⟨xs, rfl, by simpa using h1, hxs⟩
  | _ => cases h
section
variable {P : Program} {w : World} {K : PySem.W.Frag} {mg : Str → Option Value} {base : Heap}
/-! ### undone_of -/
@[irreducible] def spUndone : Sp := fun vs H Q _ => ∃ (v : V) (xs : List Int), vs = [v] ∧ Row H v xs ∧ xs.length < 1000000 ∧ ∀ v' H', Same H H' → Row H' v' (undone xs) → Q v' H'
theorem spUndone_i {H : Hp} {v : V} {xs : List Int} {Q : VK} {E : XK} (h : Row H v xs) (hl : xs.length < 1000000) (q : ∀ v' H', Same H H' → Row H' v' (undone xs) → Q v' H') : spUndone [v] H Q E := by
  unfold spUndone
  exact ⟨v, xs, rfl, h, hl, q⟩
theorem undone_range (xs : List Int) : ((List.range xs.length).map fun k => 0 - xs.reverse.getD k 0) = undone xs := by
  unfold undone
  apply List.ext_getElem
  · simp
  · intro i h1 h2
    simp at h1
    simp [List.getD_eq_getElem?_getD, h1]
theorem ok_undone (B : Bt mg) (F : Fd K mg "undone_of" s_undone_of) : Df P w K mg base CX0 1 "undone_of" ["row"] spUndone := by
  refine .mk' F sc_undone_of (fun _ _ _ _ _ _ us hl => match us, hl with | [_], _ => rfl) (fun vs H Q E h => ?_) (fun f cdv A outer s H vs Q E hr h => ?_)
  · unfold spUndone at h
    obtain ⟨a, xs, rfl, _⟩ := h
    rfl
  · unfold spUndone at h
    obtain ⟨v, xs, rfl, ⟨a, rfl, hs⟩, hl, q⟩ := h
    refine ⟨_, PSs.nox (pss_one (ps_ret (pe_callTy call_tuple_of (by rfl) B.tuple (by decide +kernel) (pa_cons (pe_lc (own := [("letter", 1)]) (g := gName 1) rfl sc_undone_of.nd (RT.pi_revA (by rfl) B.reversed (pv 0)) (blkOk_by (own := [("letter", 1)]) (N := ["row", "letter"]) (sc := defScope s_undone_of) (by decide +kernel))
        (fun _ _ _ _ _ => pg_name (i := 1) sc_undone_of.nd rfl (Or.inl rfl)) (fun _ _ _ _ _ => pts_nil) (fun _ _ _ _ _ => pe_op op_sub pe_int (pv 1))) pa_nil)))), ?_⟩
    have hT : SqT K H a (iV xs) := .inl (.inl hs)
    refine ⟨_, rfl, a, iV xs, rfl, .inr ⟨hT, fun D hD => ?_⟩⟩
    refine lc_map (fun k v _ => v = .int (0 - xs.reverse.getD k 0)) (wk_revT hT) hD (by rw [PySem.sizeLine_eq]; simp [iV]; omega) (fun _ => rfl) (fun _ _ _ _ _ h => h) (fun i H' hi e Q' q' => ?_) (fun H' ys e h3 h4 h5 => ?_)
    · have hx : (iV xs).reverse.getD i .non = .int (xs.reverse.getD i 0) := by
        have h : i < xs.reverse.length := by simpa [iV] using hi
        rw [← List.map_reverse]
        exact iV_getD h
      rw [hx]
      exact ⟨_, rfl, _, _, rfl, rfl, q' _ _ (Same.refl _) rfl⟩
    · have ey := iV_of (n := xs.length) (by simpa [iV] using h4) h5
      rw [undone_range] at ey
      subst ey
      exact ⟨D, _, rfl, .inl ⟨SqL.of h3, fun l hl => q _ _ (e.trans (Same.new hl)) ⟨l, rfl, upd_same⟩⟩⟩
/-! ### need_row -/
@[irreducible] def spNeedRow (C : Addr) : Sp := fun vs H Q E => ∃ (n : Int) (v : V) (d : Dt), vs = [.int n, v] ∧ DV H v d ∧ (∀ xs v' H', rowD n d = true → d = .tup (xs.map Dt.int) → Same H H' → Row H' v' (plain xs) → Q v' H') ∧ (rowD n d = false → ∀ H', Same H H' → E (.ref C) none H')
theorem spNeedRow_i {C : Addr} {H : Hp} {n : Int} {v : V} {d : Dt} {Q : VK} {E : XK} (h : DV H v d) (q : ∀ xs v' H', rowD n d = true → d = .tup (xs.map Dt.int) → Same H H' → Row H' v' (plain xs) → Q v' H') (r : rowD n d = false → ∀ H', Same H H' → E (.ref C) none H') : spNeedRow C [.int n, v] H Q E := by
  unfold spNeedRow
  exact ⟨n, v, d, rfl, h, q, r⟩
theorem ok_need_row {C : Addr} (EC : Er K mg "BadRow" C) (F : Fd K mg "need_row" s_need_row) (D4 : Df P w K mg base CX0 4 "fits_row" ["deeds", "value"] spFitsRow) (D1 : Df P w K mg base CX0 1 "plain_of" ["letters"] (spPlain K)) :
    Df P w K mg base (L2.CX P w) 5 "need_row" ["deeds", "row"] (spNeedRow C) := by
  refine .mk' F sc_need_row (fun _ _ _ _ _ _ us hl => match us, hl with | [_, _], _ => rfl) (fun vs H Q E h => ?_) (fun f cdv A outer s H vs Q E hr h => ?_)
  · unfold spNeedRow at h
    obtain ⟨n, v, d, rfl, _⟩ := h
    rfl
  · unfold spNeedRow at h
    obtain ⟨n, v, d, rfl, hv, q1, q2⟩ := h
    refine ⟨_, pss_cons (ps_if (pt_not (pt_val (pe_df D4 hr rfl pass0 (pa_cons (pv 0) (pa_cons (pv 1) pa_nil)))))
      (pss_one (ps_raise rfl (takes_of rfl rfl rfl rfl) (pmk_own PySem.F.excBase_ValueError EC.x EC.g EC.k (raises_own EC.b EC.t) rfl))) pss_nil)
      (pss_one (ps_ret (pe_df (D1.mono (by decide)) hr rfl pass0 (pa_cons (pv 1) pa_nil)))), ?_⟩
    refine ⟨_, rfl, _, rfl, spFitsRow_i hv fun H' e => ⟨_, rfl, ?_⟩⟩
    cases ed : rowD n d with
    | true =>
      obtain ⟨xs, rfl, hl, hx⟩ := rowD_tup ed
      exact iteF ⟨_, rfl, spPlain_row (row_of_dv (hv.same e)) (by omega) fun v' H'' e' r => q1 xs v' H'' ed rfl (e.trans e') r⟩
    | false => exact iteT (q2 ed _ e)
end
end My
namespace My
open PySem PySem.Spec PyProof.Rows L2
/-! ### plain Lean -/
def goneR : List Int → List Int → Nat
  | x :: r, y :: s => if x = 0 - y then goneR r s + 1 else 0
  | _, _ => 0
def gone (xs ys : List Int) : Nat := goneR xs.reverse ys
theorem goneR_le : ∀ r s : List Int, goneR r s ≤ r.length ∧ goneR r s ≤ s.length
  | [], s => by simp [goneR]
  | _ :: _, [] => by simp [goneR]
  | x :: r, y :: s => by
    have := goneR_le r s
    unfold goneR
    split <;> simp <;> omega
def halves (r : List Int) : List Int × List Int :=
  let a := r.take ((r.length + 1) / 2)
  let b := (undone r).take ((r.length + 1) / 2)
  if b < a then (b, a) else (a, b)
def halvesLt (p q : List Int × List Int) : Bool := if p.1 = q.1 then decide (p.2 < q.2) else decide (p.1 < q.1)
def adjOk (xs : List Int) : Bool := (List.range (xs.length - 1)).all fun k => !decide (xs.getD k 0 = 0 - xs.getD (k + 1) 0)
section
variable {P : Program} {w : World} {K : PySem.W.Frag} {mg : Str → Option Value} {base : Heap}
/-! ### letters_gone -/
end
end My
namespace My
open PySem PySem.Spec PyProof.Rows L2
section
variable {P : Program} {w : World} {K : PySem.W.Frag} {mg : Str → Option Value} {base : Heap}
end
end My
namespace My
open PySem PySem.Spec PyProof.Rows L2
/-- rows side by side -/
inductive Rws (H : Hp) : List V → List (List Int) → Prop
  | nil : Rws H [] []
  | cons {v : V} {xs : List Int} {vs : List V} {xss : List (List Int)} : Row H v xs → Rws H vs xss → Rws H (v :: vs) (xs :: xss)
theorem Rws.len {H : Hp} : ∀ {vs : List V} {xss : List (List Int)}, Rws H vs xss → vs.length = xss.length
  | _, _, .nil => rfl
  | _, _, .cons _ t => congrArg (· + 1) (Rws.len t)
theorem Rws.same {H H' : Hp} (e : Same H H') : ∀ {vs : List V} {xss : List (List Int)}, Rws H vs xss → Rws H' vs xss
  | _, _, .nil => .nil
  | _, _, .cons r t => .cons (r.same e) (Rws.same e t)
theorem Rws.tst {H H' : Hp} (e : Tst H H') : ∀ {vs : List V} {xss : List (List Int)}, Rws H vs xss → Rws H' vs xss
  | _, _, .nil => .nil
  | _, _, .cons r t => .cons (r.tst e) (Rws.tst e t)
theorem Rws.get {H : Hp} : ∀ {vs : List V} {xss : List (List Int)} {i : Nat}, Rws H vs xss → i < xss.length → ∃ v, vs[i]? = some v ∧ Row H v (xss.getD i [])
  | _, _, _, .nil, h => absurd h (by simp)
  | _, _, 0, .cons r _, _ => ⟨_, rfl, r⟩
  | _, _, i + 1, .cons _ t, h => Rws.get (i := i) t (by simpa using h)
theorem Rws.snoc {H : Hp} {v : V} {xs : List Int} (r : Row H v xs) : ∀ {vs : List V} {xss : List (List Int)}, Rws H vs xss → Rws H (vs ++ [v]) (xss ++ [xs])
  | _, _, .nil => .cons r .nil
  | _, _, .cons r' t => .cons r' (Rws.snoc r t)
/-! ### plain -/
def img (xss : List (List Int)) (x : Int) : List Int := if 0 < x then xss.getD (x - 1).toNat [] else undone (xss.getD (0 - x - 1).toNat [])
def joined (first second : List Int) : List Int := first.take (first.length - gone first second) ++ second.drop (gone first second)
def firstOf (ahead : Bool) (more row : List Int) : List Int := if ahead = true then more else row
def nearer (xss : List (List Int)) (place : Nat) (x : Int) (ahead : Bool) : Option (List Int) :=
  let row := xss.getD place []
  let more := img xss x
  let less := gone (firstOf ahead more row) (firstOf ahead row more)
  if 2 * less < more.length then none
  else if more.length < 2 * less ∨ halvesLt (halves (joined (firstOf ahead more row) (firstOf ahead row more))) (halves row) = true then some (joined (firstOf ahead more row) (firstOf ahead row more)) else none
theorem gone_le (xs ys : List Int) : gone xs ys ≤ xs.length ∧ gone xs ys ≤ ys.length := by
  have := goneR_le xs.reverse ys
  rw [List.length_reverse] at this
  exact this
section
variable {P : Program} {w : World} {K : PySem.W.Frag} {mg : Str → Option Value} {base : Heap}
/-! ### both_halves -/
end
end My
namespace My
open PySem PySem.Spec PyProof.Rows L2
theorem noPart {σ : L2.St} {H : Hp} {Q : Option Int → Hp → Prop} (q : Q none H) : tNoPart σ H Q := q
section
variable {P : Program} {w : World} {K : PySem.W.Frag} {mg : Str → Option Value} {base : Heap}
end
end My
namespace My
open PySem PySem.Spec PyProof.Rows L2
/-! ### plain -/
abbrev Step := Nat × Int × Bool
def lettersFor (p o : Nat) : List Int := if o = p then [] else [(o : Int) + 1, 0 - (o : Int) - 1]
def near4 (xss : List (List Int)) (p : Nat) (x : Int) (b : Bool) : Option (Step × List Int) := (nearer xss p x b).map fun r => ((p, x, b), r)
def near3 (xss : List (List Int)) (p : Nat) (x : Int) : Option (Step × List Int) := [false, true].findSome? (near4 xss p x)
def near2 (xss : List (List Int)) (p o : Nat) : Option (Step × List Int) := (lettersFor p o).findSome? (near3 xss p)
def near1 (xss : List (List Int)) (p : Nat) : Option (Step × List Int) := (List.range xss.length).findSome? (near2 xss p)
def near (xss : List (List Int)) : Option (Step × List Int) := (List.range xss.length).findSome? (near1 xss)
theorem gName_i {j : Nat} {v : V} {σ : L2.St} {H : Hp} {Q : L2.St → Hp → Prop} (q : Q (σ.set j (some v)) H) : gName j v σ H Q := q
section
variable {P : Program} {w : World} {K : PySem.W.Frag} {mg : Str → Option Value} {base : Heap}
end
end My
namespace My
open PySem PySem.Spec PyProof.Rows L2
section
variable {P : Program} {w : World} {K : PySem.W.Frag} {mg : Str → Option Value} {base : Heap}
/-! ### steps_down -/
end
end My
namespace My
open PySem PySem.Spec PyProof.Rows L2
/-! ### lists and tuples of rows, compared -/
/-! ### plain -/
def PlainRow (n : Int) (xs : List Int) : Prop := (∀ x ∈ xs, 0 - n ≤ x ∧ x ≤ n ∧ x ≠ 0) ∧ adjOk xs = true
def upTo (n : Int) : List Int := (List.range (n + 1 - 1).toNat).map fun (i : Nat) => 1 + (i : Int)
def absI (x : Int) : Int := if x < 0 then -x else x
section
variable {P : Program} {w : World} {K : PySem.W.Frag} {mg : Str → Option Value} {base : Heap}
end
end My
namespace My
open PySem PySem.Spec PyProof.Rows L2 SX
theorem passR {X : Cx} {E : XK} (tk : Takes X (fun cls d _ H => E cls d H)) : Passes (L2.CX X.prog X.w) X E := fun pins σ H s e s' I c => passAt tk σ pins H s e s' I c
/-! ### plain -/
section
variable {P : Program} {w : World} {K : PySem.W.Frag} {mg : Str → Option Value} {base : Heap}
/-! ### is_renaming -/
/-! ### sign_of -/
/-! ### letter_of -/
end
end My
namespace My
open PySem PySem.Spec PyProof.Rows L2 SX
section
variable {P : Program} {w : World} {K : PySem.W.Frag} {mg : Str → Option Value} {base : Heap}
/-! ### text_of -/
theorem iV_snoc (a : List Int) (x : Int) : iV (a ++ [x]) = iV a ++ [.int x] := by simp [iV]
/-! ### letters_at -/
end
end My
namespace My
open PySem PySem.Spec PyProof.Rows L2 SX
section
variable {P : Program} {w : World} {K : PySem.W.Frag} {mg : Str → Option Value} {base : Heap}
/-! ### row_text -/
theorem plainStep_mem {acc : List Int} {x y : Int} (h : y ∈ plainStep acc x) : y ∈ acc ∨ y = x := by
  unfold plainStep at h
  split at h
  · split at h
    · exact .inl ((List.dropLast_sublist acc).subset h)
    · simpa using h
  · simpa using h
theorem plain_mem {xs : List Int} {y : Int} (h : y ∈ plain xs) : y ∈ xs := by
  have key : ∀ (xs acc : List Int), y ∈ xs.foldl plainStep acc → y ∈ acc ∨ y ∈ xs := by
    intro xs
    induction xs with
    | nil => intro acc h; exact .inl h
    | cons x r ih =>
      intro acc h
      rcases ih _ h with h | h
      · rcases plainStep_mem h with h | rfl
        · exact .inl h
        · exact .inr (by simp)
      · exact .inr (by simp [h])
  rcases key xs [] h with h | h
  · cases h
  · exact h
/-! ### read_letters -/
end
end My
namespace My
open PySem PySem.Spec PyProof.Rows L2 SX
section
variable {P : Program} {w : World} {K : PySem.W.Frag} {mg : Str → Option Value} {base : Heap}
/-! ### read_row -/
/-! ### behind_head -/
end
end My
namespace My
open PySem PySem.Spec PyProof.Rows L2 SX
theorem tOp_i {r : R2} {ta tb : TE} {σ : L2.St} {H : Hp} {Q : VK} (h : ta σ H fun x H1 => tb σ H1 fun y H2 => r x y H2 Q) : tOp r ta tb σ H Q := h
theorem tIf_of {c : TT} {a b : TE} {σ : L2.St} {H : Hp} {Q : VK} (k : Bool) (x : V) (hc : ∀ R : Bool → Hp → Prop, R k H → c σ H R) (ha : k = true → ∀ Q' : VK, Q' x H → a σ H Q') (hb : k = false → ∀ Q' : VK, Q' x H → b σ H Q') (q : Q x H) : tIf c a b σ H Q :=
  hc _ (ite_of (fun h => ha h _ q) (fun h => hb h _ q))
/-! ### plain -/
theorem adj_iff (xs : List Int) : adjOk xs = true ↔ ∀ k, k + 1 < xs.length → xs.getD k 0 ≠ 0 - xs.getD (k + 1) 0 := by
  unfold adjOk
  rw [List.all_eq_true]
  constructor
  · intro h k hk
    have := h k (List.mem_range.mpr (by omega))
    simpa using this
  · intro h k hk
    have := h k (by have := List.mem_range.mp hk; omega)
    simpa using this
theorem getD_snoc_lt {acc : List Int} {x : Int} {k : Nat} (h : k < acc.length) : (acc ++ [x]).getD k 0 = acc.getD k 0 := by
  rw [List.getD_eq_getElem?_getD, List.getD_eq_getElem?_getD, List.getElem?_append_left h]
theorem getD_snoc_eq {acc : List Int} {x : Int} : (acc ++ [x]).getD acc.length 0 = x := by
  rw [List.getD_eq_getElem?_getD, List.getElem?_append_right (Nat.le_refl _)]
  simp
theorem plainStep_adj {acc : List Int} {x : Int} (h : adjOk acc = true) : adjOk (plainStep acc x) = true := by
  rw [adj_iff] at h ⊢
  have hr : acc = [] ∨ ∃ r z, acc = r ++ [z] := by
    rcases List.eq_nil_or_concat acc with h | ⟨r, z, h⟩
    · exact .inl h
    · exact .inr ⟨r, z, by rw [h, List.concat_eq_append]⟩
  rcases hr with rfl | ⟨r, z, rfl⟩
  · intro k hk
    simp [plainStep] at hk
  · have es : plainStep (r ++ [z]) x = if z = 0 - x then r else r ++ [z] ++ [x] := by
      unfold plainStep
      rw [List.getLast?_append]
      simp
    rw [es]
    by_cases hz : z = 0 - x
    · rw [if_pos hz]
      intro k hk
      have := h k (by simp; omega)
      rw [getD_snoc_lt (by omega), getD_snoc_lt (by omega)] at this
      exact this
    · rw [if_neg hz]
      intro k hk
      simp at hk
      by_cases hk2 : k < r.length
      · have := h k (by simp; omega)
        have e1 : (r ++ [z] ++ [x]).getD k 0 = (r ++ [z]).getD k 0 := getD_snoc_lt (by rw [List.length_append]; simp; omega)
        have e2 : (r ++ [z] ++ [x]).getD (k + 1) 0 = (r ++ [z]).getD (k + 1) 0 := getD_snoc_lt (by rw [List.length_append]; simp; omega)
        rw [e1, e2]
        exact this
      · obtain rfl : k = r.length := by omega
        rw [getD_snoc_lt (by simp), getD_snoc_eq, show r.length + 1 = (r ++ [z]).length by simp, getD_snoc_eq]
        exact hz
theorem plain_adj (xs : List Int) : adjOk (plain xs) = true := by
  have key : ∀ (xs acc : List Int), adjOk acc = true → adjOk (xs.foldl plainStep acc) = true := by
    intro xs
    induction xs with
    | nil => exact fun acc h => h
    | cons x r ih => exact fun acc h => ih _ (plainStep_adj h)
  exact key xs [] rfl
end My
namespace My
open PySem PySem.Spec PyProof.Rows L2 SX
section
variable {P : Program} {w : World} {K : PySem.W.Frag} {mg : Str → Option Value} {base : Heap}
end
end My
namespace My
open PySem PySem.Spec PyProof.Rows L2 SX
section
variable {P : Program} {w : World} {K : PySem.W.Frag} {mg : Str → Option Value} {base : Heap}
end
end My
namespace My
open PySem PySem.Spec PyProof.Rows L2 SX
/-! ### the state of the draws -/
abbrev stK (g c : Addr) (r t : Int) : List (Key × V) := [(.inr "great", .ref g), (.inr "cells", .ref c), (.inr "rest", .int r), (.inr "turn", .int t)]
/-- where the state, its great numbers and its cells stand -/
structure Sd where
  s : Addr
  g : Addr
  c : Addr
/-- the state stands there; k more draws are allowed -/
def Dst (H : Hp) (u : Sd) (k : Nat) : Prop := ∃ (r t : Int) (gs cs : List Int), H u.s = some (.dK (stK u.g u.c r t)) ∧ H u.g = some (.lst (iV gs)) ∧ H u.c = some (.lst (iV cs)) ∧ u.c ≠ u.g ∧ gs.length < 1000000 ∧ 0 ≤ t ∧ t + k ≤ 2 ^ 40
/-- all but the state stays -/
def Kp (u : Sd) (H H' : Hp) : Prop := ∀ a o, a ≠ u.s → a ≠ u.g → H a = some o → H' a = some o
theorem Kp.refl (u : Sd) (H : Hp) : Kp u H H := fun _ _ _ _ h => h
theorem Kp.trans {u : Sd} {H H1 H2 : Hp} (a : Kp u H H1) (b : Kp u H1 H2) : Kp u H H2 := fun c o h1 h2 h => b c o h1 h2 (a c o h1 h2 h)
theorem Kp.of {u : Sd} {H H' : Hp} (e : Same H H') : Kp u H H' := fun a o _ _ h => e a o h
theorem Kp.tst {u : Sd} {H H' : Hp} {k : Nat} (e : Kp u H H') (d : Dst H u k) : Tst H H' := fun b xs h => by
  obtain ⟨r, t, gs, cs, h1, h2, _⟩ := d
  refine e b _ (fun z => ?_) (fun z => ?_) h
  · rw [z, h1] at h; cases h
  · rw [z, h2] at h; cases h
theorem Dst.same {H H' : Hp} {u : Sd} {k : Nat} (e : Same H H') (d : Dst H u k) : Dst H' u k := by
  obtain ⟨r, t, gs, cs, h1, h2, h3, h4⟩ := d
  exact ⟨r, t, gs, cs, e _ _ h1, e _ _ h2, e _ _ h3, h4⟩
theorem Dst.le {H : Hp} {u : Sd} {k j : Nat} (h : j ≤ k) (d : Dst H u k) : Dst H u j := by
  obtain ⟨r, t, gs, cs, h1, h2, h3, h4, h5, h6, h7⟩ := d
  exact ⟨r, t, gs, cs, h1, h2, h3, h4, h5, h6, by omega⟩
/-- an address that is not the state's -/
def Off (u : Sd) (D : Addr) : Prop := D ≠ u.s ∧ D ≠ u.g ∧ D ≠ u.c
theorem Dst.off {H : Hp} {u : Sd} {k : Nat} {D : Addr} (d : Dst H u k) (h : H D = none) : Off u D := by
  obtain ⟨r, t, gs, cs, h1, h2, h3, _⟩ := d
  exact ⟨(ne_of_none h1 h).symm, (ne_of_none h2 h).symm, (ne_of_none h3 h).symm⟩
/-- an own list may change -/
theorem Dst.mut {H : Hp} {u : Sd} {D : Addr} {k : Nat} {o : HO} (d : Dst H u k) (n : Off u D) : Dst (upd H D o) u k := by
  obtain ⟨r, t, gs, cs, h1, h2, h3, h4⟩ := d
  refine ⟨r, t, gs, cs, ?_, ?_, ?_, h4⟩
  · rw [upd_ne n.1.symm]; exact h1
  · rw [upd_ne n.2.1.symm]; exact h2
  · rw [upd_ne n.2.2.symm]; exact h3
theorem Kp.mut {u : Sd} {H H' : Hp} {D : Addr} {o : HO} (e : Kp u H H') (h : H D = none) : Kp u H (upd H' D o) := fun a p h1 h2 ha => by
  rw [upd_ne (ne_of_none ha h)]
  exact e a p h1 h2 ha
section
variable {P : Program} {w : World} {K : PySem.W.Frag} {mg : Str → Option Value} {base : Heap}
/-! ### _law_blended -/
@[irreducible] def spBlended : Sp := fun vs H Q _ => ∃ (u : Sd) (k : Nat), vs = [.ref u.s] ∧ Dst H u (k + 1) ∧ ∀ (i : Int) H', Kp u H H' → Dst H' u k → H' u.g = H u.g → Q (.int i) H'
theorem spBlended_i {H : Hp} {u : Sd} {k : Nat} {Q : VK} {E : XK} (h : Dst H u (k + 1)) (q : ∀ (i : Int) H', Kp u H H' → Dst H' u k → H' u.g = H u.g → Q (.int i) H') : spBlended [.ref u.s] H Q E := by
  unfold spBlended
  exact ⟨u, k, rfl, h, q⟩
theorem ok_blended (B : Bt mg) (F : Fd K mg "_law_blended" s_l_blended) : Df P w K mg base CX0 1 "_law_blended" ["_law_state"] spBlended := by
  refine .mk' F sc_l_blended (fun _ _ _ _ _ _ us hl => match us, hl with | [_], _ => rfl) (fun vs H Q E h => ?_) (fun f cdv A outer s H vs Q E hr h => ?_)
  · unfold spBlended at h
    obtain ⟨u, k, rfl, _⟩ := h
    rfl
  · unfold spBlended at h
    obtain ⟨⟨sd, g, c⟩, k, rfl, ⟨r, t, gs, cs, h1, h2, h3, hcg, h4, h5, h6⟩, q⟩ := h
    simp only at h1 h2 h3 hcg
    have nd := sc_l_blended.nd
    refine ⟨_, PSs.nox (pss_cons (ps_par (i := 1) (j := 2) (by rfl) nd rfl rfl (by decide) rfl rfl (pa_cons (pe_op op_add (pe_dget (hu_of hr) (pv 0) (pe_str) (fun _ _ => rfl)) (pe_int)) (pa_cons (pe_int) pa_nil)) (by rfl))
      (pss_cons (ps_dput (hu_of hr) (pv 0) (pe_str) (pv 1) rfl)
      (pss_cons (ps_for PassesOwn.never rfl (pi_list (pe_lst (pa_cons (pe_int) (pa_cons (pe_int) (pa_cons (pe_int) pa_nil))))) (pg_name (i := 3) nd rfl (Or.inl rfl))
      (pss_cons (ps_set (i := 4) nd rfl (Or.inl rfl) (pe_op op_add (pe_op op_mul (pe_int) (pv 1)) (pe_op op_fdiv (pv 3) (pe_int))))
      (pss_cons (ps_for PassesOwn.never rfl (pi_list (pe_dget (hu_of hr) (pv 0) (pe_str) (fun _ _ => rfl))) (pg_name (i := 5) nd rfl (Or.inl rfl))
      (pss_one (ps_set (i := 4) nd rfl (Or.inl rfl) (pe_op op_mod (pe_callTy call_int1 (by rfl) B.int (by decide +kernel) (pa_cons (pe_op op_add (pe_op op_add (pe_op op_mul (pv 4) (pe_int)) (pv 5)) (pv 1)) pa_nil)) (pv 3)))))
      (pss_one (ps_set (i := 2) nd rfl (Or.inl rfl) (pe_op op_add (pe_op op_mul (pv 2) (pe_int)) (pe_op op_mod (pe_callTy call_int1 (by rfl) B.int (by decide +kernel) (pa_cons (pe_op op_pow (pv 4) (pe_int)) pa_nil)) (pv 3))))))))
      (pss_one (ps_ret (pv 2)))))), ?_⟩
    refine ⟨_, rfl, sd, _, rfl, DGet.k (k := Sum.inr "turn") h1, _, _, rfl, rfl, _, _, rfl, ?_⟩
    refine ⟨_, rfl, _, rfl, sd, _, rfl, DPut.k (k := Sum.inr "turn") h1 (by rw [PySem.sizeLine_eq]; show (4 : Nat) < _; decide), ?_⟩
    have hsg : sd ≠ g := fun z => by rw [z, h2] at h1; cases h1
    have hsc : sd ≠ c := fun z => by rw [z, h3] at h1; cases h1
    generalize hH1 : upd H sd (.dK (putK (stK g c r t) (Sum.inr "turn") (.int (t + 1)))) = H1
    have a1 : H1 sd = some (.dK (stK g c r (t + 1))) := by rw [← hH1, upd_same]; rfl
    have a2 : H1 g = some (.lst (iV gs)) := by rw [← hH1, upd_ne hsg.symm]; exact h2
    have a3 : H1 c = some (.lst (iV cs)) := by rw [← hH1, upd_ne hsc.symm]; exact h3
    have kp : Kp ⟨sd, g, c⟩ H H1 := fun a o n1 n2 ha => by rw [← hH1, upd_ne n1]; exact ha
    refine ⟨by rw [PySem.sizeLine_eq]; simp, fun L hL => ⟨L, rfl, ⟨_, SqL.of upd_same⟩, ?_⟩⟩
    have s1 : Same H1 (upd H1 L (.lst [.int 2147483579, .int 2147483629, .int 2147483563])) := Same.new hL
    refine for_wk (wk_list (K := K) (H1 := upd H1 L (.lst (iV [2147483579, 2147483629, 2147483563]))) (SqL.of upd_same)) (fun i σ H' => ∃ (fo : Int) (x3 x4 x5 : Option V), σ = [some (.ref sd), some (.int (t + 1)), some (.int fo), x3, x4, x5] ∧ Same (upd H1 L (.lst (iV [2147483579, 2147483629, 2147483563]))) H') ⟨0, _, _, _, rfl, Same.refl _⟩ (fun i σ H' h => by obtain ⟨_, _, _, _, _, h⟩ := h; exact h) ?_ ?_
    · rintro i σ H2 hi ⟨fo, x3, x4, x5, rfl, s2⟩
      have hp : ∃ p : Int, (iV [2147483579, 2147483629, 2147483563]).getD i .non = .int p ∧ 2147483563 ≤ p ∧ p ≤ 2147483629 := by
        have hi : i < 3 := hi
        match i, hi with
        | 0, _ => exact ⟨_, rfl, by decide, by decide⟩
        | 1, _ => exact ⟨_, rfl, by decide, by decide⟩
        | 2, _ => exact ⟨_, rfl, by decide, by decide⟩
      obtain ⟨p, ep, p1, p2⟩ := hp
      rw [ep]
      have s12 := s1.trans s2
      refine ⟨_, rfl, _, _, rfl, rfl, .inl ⟨by decide, by decide⟩, _, rfl, _, _, rfl, rfl, ⟨by decide, by decide⟩, _, _, rfl, rfl, ?_⟩
      refine ⟨_, rfl, sd, _, rfl, DGet.k (k := Sum.inr "cells") (s12 _ _ a1), c, rfl, ⟨_, SqL.of (s12 _ _ a3)⟩, ?_⟩
      have hb0 : (48271 * (t + 1) + p / 53).natAbs < 2 ^ 64 := by omega
      refine for_wk (wk_list (K := K) (H1 := H2) (SqL.of (s12 _ _ a3))) (fun j σ H' => ∃ (b : Int) (x5 : Option V), σ = [some (.ref sd), some (.int (t + 1)), some (.int fo), some (.int p), some (.int b), x5] ∧ H' = H2 ∧ b.natAbs < 2 ^ 64) ⟨_, _, rfl, rfl, hb0⟩ (fun i σ H' h => by obtain ⟨_, _, _, rfl, _⟩ := h; exact Same.refl _) ?_ ?_
      · rintro j σ H3 hj ⟨b, x5, rfl, rfl, hb⟩
        simp only [iV, List.length_map] at hj
        rw [iV_getD hj]
        refine ⟨_, rfl, _, _, rfl, rfl, .inr ⟨by decide, by decide⟩, _, rfl, _, _, rfl, rfl, _, rfl, _, _, rfl, rfl, .inl ⟨_, rfl, _, rfl, _, _, rfl, rfl, by omega, ?_⟩⟩
        refine ⟨_, _, rfl, rfl, ?_⟩
        have h1 := Int.emod_nonneg (b * 69621 + cs.getD j 0 + (t + 1)) (show p ≠ 0 by omega)
        have h2 := Int.emod_lt_of_pos (b * 69621 + cs.getD j 0 + (t + 1)) (show 0 < p by omega)
        omega
      · rintro σ H3 ⟨b, x5, rfl, rfl, hb⟩
        refine ⟨_, rfl, _, _, rfl, rfl, .inr ⟨by decide, by decide⟩, _, rfl, _, _, rfl, rfl, ⟨by decide, by decide, hb⟩, .inl ⟨_, rfl, _, rfl, _, _, rfl, rfl, by omega, _, _, rfl, rfl, ?_⟩⟩
        exact ⟨_, _, _, _, rfl, s2⟩
    · rintro σ H2 ⟨fo, x3, x4, x5, rfl, s2⟩
      have s12 := s1.trans s2
      refine ⟨_, rfl, q fo H2 (kp.trans (Kp.of s12)) ⟨r, t + 1, gs, cs, s12 _ _ a1, s12 _ _ a2, s12 _ _ a3, hcg, h4, by omega, by omega⟩ ?_⟩
      rw [h2]
      exact s12 _ _ a2
/-! ### _law_draw -/
@[irreducible] def spDraw : Sp := fun vs H Q _ => ∃ (u : Sd) (k : Nat) (room : Int), vs = [.ref u.s, .int room] ∧ 1 ≤ room ∧ room < 1000000000 ∧ Dst H u (k + 1) ∧ ∀ (d : Int) H', 0 ≤ d → d < room → Kp u H H' → Dst H' u k → Q (.int d) H'
theorem spDraw_i {H : Hp} {u : Sd} {k : Nat} {room : Int} {Q : VK} {E : XK} (h1 : 1 ≤ room) (h2 : room < 1000000000) (h : Dst H u (k + 1)) (q : ∀ (d : Int) H', 0 ≤ d → d < room → Kp u H H' → Dst H' u k → Q (.int d) H') : spDraw [.ref u.s, .int room] H Q E := by
  unfold spDraw
  exact ⟨u, k, room, rfl, h1, h2, h, q⟩
theorem ok_draw (B : Bt mg) (F : Fd K mg "_law_draw" s_l_draw) (D_l_blended : Df P w K mg base CX0 1 "_law_blended" ["_law_state"] spBlended) : Df P w K mg base CX0 2 "_law_draw" ["_law_state", "_law_room"] spDraw := by
  refine .mk' F sc_l_draw (fun _ _ _ _ _ _ us hl => match us, hl with | [_, _], _ => rfl) (fun vs H Q E h => ?_) (fun f cdv A outer s H vs Q E hr h => ?_)
  · unfold spDraw at h
    obtain ⟨u, k, room, rfl, _⟩ := h
    rfl
  · unfold spDraw at h
    obtain ⟨⟨sd, g, c⟩, k, room, rfl, hr1, hr2, hd, q⟩ := h
    have nd := sc_l_draw.nd
    refine ⟨_, PSs.nox (C8.pss_cut (ps_if (pt_cmpR op_eq (pe_dget (hu_of hr) (pv 0) (pe_str) (fun _ _ => rfl)) (pe_int) (nomark _))
      (pss_one (ps_dput (hu_of hr) (pv 0) (pe_str) (pe_ifExp (pt_cmpR (op_neD hr.units) (pe_dget (hu_of hr) (pv 0) (pe_str) (fun _ _ => rfl)) (pe_lst pa_nil) (nomark _)) (pe_bm PySem.F.plainAttrs_list PySem.F.slot_list_pop PySem.F.type_list_pop mt_popAt (pe_dget (hu_of hr) (pv 0) (pe_str) (fun _ _ => rfl)) (pa_cons (pe_int) pa_nil)) (pe_df (D_l_blended.mono (by decide)) hr rfl pass0 (pa_cons (pv 0) pa_nil))) rfl)) (pss_nil))
      (pss_cons (ps_set (i := 2) nd rfl (Or.inl rfl) (pe_op op_mod (pe_callTy call_int1 (by rfl) B.int (by decide +kernel) (pa_cons (pe_dget (hu_of hr) (pv 0) (pe_str) (fun _ _ => rfl)) pa_nil)) (pv 1)))
      (pss_cons (ps_dput (hu_of hr) (pv 0) (pe_str) (pe_op op_fdiv (pe_dget (hu_of hr) (pv 0) (pe_str) (fun _ _ => rfl)) (pv 1)) rfl)
      (pss_one (ps_ret (pv 2)))))), ?_⟩
    obtain ⟨r, t, gs, cs, h1, h2, h3, hcg, h4, h5, h6⟩ := id hd
    simp only at h1 h2 h3 hcg
    have hsg : sd ≠ g := fun z => by rw [z, h2] at h1; cases h1
    have hsc : sd ≠ c := fun z => by rw [z, h3] at h1; cases h1
    refine ⟨fun σ' H' => ∃ x2, σ' = [some (.ref sd), some (.int room), x2] ∧ Kp ⟨sd, g, c⟩ H H' ∧ Dst H' ⟨sd, g, c⟩ k, ?_, ?_⟩
    · refine ⟨_, rfl, sd, _, rfl, DGet.k (k := Sum.inr "rest") h1, rfl, _, rfl, ?_⟩
      refine ite_of (fun h => ?_) (fun h => ?_)
      · -- what is put
        refine ⟨_, rfl, sd, _, rfl, DGet.k (k := Sum.inr "great") h1, Nat.zero_le _, fun l hl => neD_int (t := false) (xs := gs) (ys := []) (.lst (SqL.of (by rw [upd_ne (ne_of_none h2 hl)]; exact h2))) (.lst (SqL.of upd_same)) ⟨_, rfl, ?_⟩⟩
        have s1 : Same H (upd H l (.lst [])) := Same.new hl
        have hd1 := hd.same s1
        have put : ∀ (i : Int) (H' : Hp), Kp ⟨sd, g, c⟩ H H' → Dst H' ⟨sd, g, c⟩ k → ∃ kvs, H' sd = some (.dK kvs) ∧ kvs.length < sizeLine ∧ Kp ⟨sd, g, c⟩ H (upd H' sd (.dK (putK kvs (Sum.inr "rest") (.int i)))) ∧ Dst (upd H' sd (.dK (putK kvs (Sum.inr "rest") (.int i)))) ⟨sd, g, c⟩ k := fun i H' kp ds => by
          obtain ⟨r', t', gs', cs', g1, g2, g3, g4⟩ := ds
          refine ⟨_, g1, by rw [PySem.sizeLine_eq]; show (4 : Nat) < _; decide, fun a o n1 n2 ha => ?_, i, t', gs', cs', ?_, ?_, ?_, g4⟩
          · rw [upd_ne n1]
            exact kp a o n1 n2 ha
          · rw [upd_same]
            rfl
          · rw [upd_ne hsg.symm]
            exact g2
          · rw [upd_ne hsc.symm]
            exact g3
        refine ite_of (fun hg => ?_) (fun hg => ?_)
        · obtain ⟨x, gr, rfl⟩ : ∃ x gr, gs = x :: gr := by
            cases gs with
            | nil => simp at hg
            | cons x gr => exact ⟨x, gr, rfl⟩
          have h2' := s1 _ _ h2
          refine ⟨_, rfl, sd, _, rfl, DGet.k (k := Sum.inr "great") (s1 _ _ h1), .inl ⟨rfl, _, SqL.of h2'⟩, g, _, _, 0, .int x, rfl, rfl, h2', by omega, by omega, by simp [iV, seqIndex?], rfl, ?_⟩
          obtain ⟨kvs, p1, p2, p3, p4⟩ := put x (upd (upd H l (.lst [])) g (.lst ((iV (x :: gr)).eraseIdx 0))) (fun a o n1 n2 ha => by rw [upd_ne n2]; exact s1 _ _ ha) ⟨r, t, gr, cs, by show upd _ g _ sd = _; rw [upd_ne hsg]; exact s1 _ _ h1, upd_same, by show upd _ g _ c = _; rw [upd_ne hcg]; exact s1 _ _ h3, hcg, by simp at h4; omega, h5, by omega⟩
          exact ⟨_, rfl, sd, _, rfl, DPut.k (k := Sum.inr "rest") p1 p2, _, rfl, p3, p4⟩
        · refine ⟨_, rfl, spBlended_i hd1 fun i H' kp ds _ => ?_⟩
          obtain ⟨kvs, p1, p2, p3, p4⟩ := put i H' ((Kp.of s1).trans kp) ds
          exact ⟨_, rfl, sd, _, rfl, DPut.k (k := Sum.inr "rest") p1 p2, _, rfl, p3, p4⟩
      · exact ⟨_, rfl, Kp.refl _ _, hd.le (by omega)⟩
    · rintro σ' H' ⟨x2, rfl, kp, ds⟩
      obtain ⟨r', t', gs', cs', g1, g2, g3, g4, g5, g6, g7⟩ := ds
      simp only at g1 g2 g3 g4
      refine ⟨_, rfl, sd, _, rfl, DGet.k (k := Sum.inr "rest") g1, .inl ⟨_, rfl, _, rfl, _, _, rfl, rfl, by omega, ?_⟩⟩
      refine ⟨_, rfl, sd, _, rfl, DGet.k (k := Sum.inr "rest") g1, _, rfl, _, _, rfl, rfl, ⟨by omega, by omega⟩, _, rfl, sd, _, rfl, DPut.k (k := Sum.inr "rest") g1 (by rw [PySem.sizeLine_eq]; show (4 : Nat) < _; decide), ?_⟩
      refine ⟨_, rfl, q _ _ (Int.emod_nonneg _ (by omega)) (Int.emod_lt_of_pos _ (by omega)) (fun a o n1 n2 ha => ?_) ⟨r' / room, t', gs', cs', ?_, ?_, ?_, g4, g5, g6, g7⟩⟩
      · rw [upd_ne n1]
        exact kp a o n1 n2 ha
      · rw [upd_same]
        rfl
      · rw [upd_ne hsg.symm]
        exact g2
      · rw [upd_ne hsc.symm]
        exact g3
end
end My
namespace My
open PySem PySem.Spec PyProof.Rows L2 SX
theorem Kp.seq {K : PySem.W.Frag} {u : Sd} {H H' : Hp} {a : Addr} {xs : List V} (e : Kp u H H') (n1 : a ≠ u.s) (n2 : a ≠ u.g) (h : SqL K H a xs) : SqL K H' a xs := by
  rcases h with (h | ⟨o, h⟩) | h
  · exact .inl (.inl (e _ _ n1 n2 h))
  · exact .inl (.inr ⟨o, e _ _ n1 n2 h⟩)
  · exact .inr h
section
variable {P : Program} {w : World} {K : PySem.W.Frag} {mg : Str → Option Value} {base : Heap}
/-! ### _law_pick -/
@[irreducible] def spPick (K : PySem.W.Frag) : Sp := fun vs H Q _ => ∃ (u : Sd) (k : Nat) (a : Addr) (xs : List V), vs = [.ref u.s, .ref a] ∧ a ≠ u.s ∧ a ≠ u.g ∧ SqL K H a xs ∧ xs ≠ [] ∧ xs.length < 1000000 ∧ Dst H u (k + 1) ∧ ∀ (i : Nat) (v : V) H', xs[i]? = some v → Kp u H H' → Dst H' u k → Q v H'
theorem spPick_i {H : Hp} {u : Sd} {k : Nat} {a : Addr} {xs : List V} {Q : VK} {E : XK} (n1 : a ≠ u.s) (n2 : a ≠ u.g) (h1 : SqL K H a xs) (h2 : xs ≠ []) (h3 : xs.length < 1000000) (h : Dst H u (k + 1)) (q : ∀ (i : Nat) (v : V) H', xs[i]? = some v → Kp u H H' → Dst H' u k → Q v H') : spPick K [.ref u.s, .ref a] H Q E := by
  unfold spPick
  exact ⟨u, k, a, xs, rfl, n1, n2, h1, h2, h3, h, q⟩
theorem ok_pick (B : Bt mg) (F : Fd K mg "_law_pick" s_l_pick) (D_l_draw : Df P w K mg base CX0 2 "_law_draw" ["_law_state", "_law_room"] spDraw) : Df P w K mg base CX0 3 "_law_pick" ["_law_state", "_law_some"] (spPick K) := by
  refine .mk' F sc_l_pick (fun _ _ _ _ _ _ us hl => match us, hl with | [_, _], _ => rfl) (fun vs H Q E h => ?_) (fun f cdv A outer s H vs Q E hr h => ?_)
  · unfold spPick at h
    obtain ⟨u, k, a, xs, rfl, _⟩ := h
    rfl
  · unfold spPick at h
    obtain ⟨u, k, a, xs, rfl, n1, n2, hs, hne, hl, hd, q⟩ := h
    have nd := sc_l_pick.nd
    refine ⟨_, PSs.nox (pss_one (ps_ret (pe_ix ix_list (pv 1) (pe_df (D_l_draw.mono (by decide)) hr rfl pass0 (pa_cons (pv 0) (pa_cons (pe_callB call_lenK (by rfl) B.len boot_len (pa_cons (pv 1) pa_nil)) pa_nil))) (fun _ _ => rfl)))), ?_⟩
    have h0 : 0 < xs.length := List.length_pos_iff.mpr hne
    refine ⟨_, rfl, _, rfl, _, rfl, a, xs, rfl, .inl hs, spDraw_i (by omega) (by omega) hd fun d H' d0 d1 kp ds => ?_⟩
    obtain ⟨j, rfl⟩ : ∃ j : Nat, d = j := ⟨d.toNat, by omega⟩
    have hj : j < xs.length := by omega
    exact ⟨a, xs, _, xs[j], rfl, rfl, kp.seq n1 n2 hs, atI_nat (List.getElem?_eq_getElem hj), q j _ H' (List.getElem?_eq_getElem hj) kp ds⟩
/-! ### _law_begun -/
@[irreducible] def spBegun (K : PySem.W.Frag) : Sp := fun vs H Q _ => ∃ (a : Addr) (cs : List Int), vs = [.ref a] ∧ SqL K H a (iV cs) ∧ cs.length < 1000000 ∧ ∀ (u : Sd) H', Same H H' → Dst H' u (2 ^ 39) → Q (.ref u.s) H'
theorem spBegun_i {H : Hp} {a : Addr} {cs : List Int} {Q : VK} {E : XK} (h1 : SqL K H a (iV cs)) (h2 : cs.length < 1000000) (q : ∀ (u : Sd) H', Same H H' → Dst H' u (2 ^ 39) → Q (.ref u.s) H') : spBegun K [.ref a] H Q E := by
  unfold spBegun
  exact ⟨a, cs, rfl, h1, h2, q⟩
theorem iV_of2 {f : Nat → Int} : ∀ {ys : List V} {l : List Nat}, ys.length = l.length → (∀ (k : Nat) (v : V) (i : Nat), ys[k]? = some v → l[k]? = some i → v = .int (f i)) → ys = iV (l.map f)
  | [], [], _, _ => rfl
  | [], _ :: _, h, _ => absurd h (by simp)
  | _ :: _, [], h, _ => absurd h (by simp)
  | y :: ys, i :: l, h, g => by
    have e := iV_of2 (f := f) (ys := ys) (l := l) (by simpa using h) fun k v j h1 h2 => g (k + 1) v j (by simpa using h1) (by simpa using h2)
    rw [g 0 y i rfl rfl, e]
    rfl
theorem ok_begun (B : Bt mg) (F : Fd K mg "_law_begun" s_l_begun) : Df P w K mg base CX0 1 "_law_begun" ["_law_script"] (spBegun K) := by
  refine .mk' F sc_l_begun (fun _ _ _ _ _ _ us hl => match us, hl with | [_], _ => rfl) (fun vs H Q E h => ?_) (fun f cdv A outer s H vs Q E hr h => ?_)
  · unfold spBegun at h
    obtain ⟨a, cs, rfl, _⟩ := h
    rfl
  · unfold spBegun at h
    obtain ⟨a, cs, rfl, hs, hl, q⟩ := h
    have nd := sc_l_begun.nd
    refine ⟨_, PSs.nox (pss_cons (ps_setLc (i := 1) (own := [("_law_cell", 2)]) (g := gName 2) rfl nd rfl rfl (sw_true rfl rfl rfl (by decide +kernel)) (pi_list (pv 0)) (blkOk_by (own := [("_law_cell", 2)]) (N := ["_law_script", "_law_great", "_law_cell"]) (sc := defScope s_l_begun) (by decide +kernel))
        (fun _ _ _ _ _ => pg_name (i := 2) nd rfl (Or.inl rfl)) (fun _ _ _ _ _ => pts_one (pt_cmpR op_ge (pe_callB call_abs (by rfl) B.abs (by decide +kernel) (pa_cons (pv 2) pa_nil)) (pe_op op_pow (pe_int) (pe_int)) (nomark _))) (fun _ _ _ _ _ => pe_op op_sub (pe_callB call_abs (by rfl) B.abs (by decide +kernel) (pa_cons (pv 2) pa_nil)) (pe_op op_pow (pe_int) (pe_int))))
      (pss_one (ps_ret (pe_disp (pps_cons (pe_str) (pv 1) (pps_cons (pe_str) (pe_lc (own := [("_law_cell", 2)]) (g := gName 2) rfl nd (pi_list (pv 0)) (blkOk_by (own := [("_law_cell", 2)]) (N := ["_law_script", "_law_great", "_law_cell"]) (sc := defScope s_l_begun) (by decide +kernel))
        (fun _ _ _ _ _ => pg_name (i := 2) nd rfl (Or.inl rfl)) (fun _ _ _ _ _ => pts_nil) (fun _ _ _ _ _ => pe_callB call_abs (by rfl) B.abs (by decide +kernel) (pa_cons (pv 2) pa_nil))) (pps_cons (pe_str) (pe_int) (pps_cons (pe_str) (pe_int) pps_nil)))) (by rfl) (by rfl) (fun z => by cases z) (by decide))))), ?_⟩
    refine ⟨_, rfl, a, rfl, ⟨_, hs⟩, fun D hD => ?_⟩
    have hx (i : Nat) (hi : i < (iV cs).length) : (iV cs).getD i .non = .int (cs.getD i 0) := iV_getD (by simpa [iV] using hi)
    refine lc_sel (fun i => decide (10 ^ 18 ≤ absI (cs.getD i 0))) (fun i v _ => v = .int (absI (cs.getD i 0) - 10 ^ 18)) (wk_list hs) hD (by rw [PySem.sizeLine_eq]; simp [iV]; omega) (fun _ => rfl) (fun _ _ _ _ _ h => h) (fun i H3 hi s3 Q' q' => ?_) (fun i H3 hi hk s3 Q' q' => ?_) (fun H3 ys s3 g1 g2 g3 => ?_)
    · rw [hx i hi]
      exact ⟨_, rfl, _, rfl, _, _, rfl, rfl, ⟨by decide, by decide, by decide⟩, _, _, rfl, rfl, _, rfl, q' _ (Same.refl _)⟩
    · rw [hx i hi]
      exact ⟨_, rfl, _, rfl, _, _, rfl, rfl, ⟨by decide, by decide, by decide⟩, _, _, rfl, rfl, q' _ _ (Same.refl _) rfl⟩
    · have ey := iV_of2 g2 g3
      rw [ey] at g1
      have gl := sel_len (fun i => decide (10 ^ 18 ≤ absI (cs.getD i 0))) (iV cs).length
      simp only [iV, List.length_map] at gl
      have gl2 : ((sel (fun i => decide (10 ^ 18 ≤ absI (cs.getD i 0))) (iV cs).length).map fun i => absI (cs.getD i 0) - 10 ^ 18).length < 1000000 := by
        simp only [iV, List.length_map]
        omega
      generalize ((sel (fun i => decide (10 ^ 18 ≤ absI (cs.getD i 0))) (iV cs).length).map fun i => absI (cs.getD i 0) - 10 ^ 18) = gs at g1 gl2
      intro p hp
      have s4 : Same H3 (upd H3 p (.dK [])) := Same.new hp
      have hs4 : SqL K (upd H3 p (.dK [])) a (iV cs) := (s3.trans s4).seq hs
      refine ⟨_, rfl, _, rfl, a, rfl, ⟨_, hs4⟩, fun D2 hD2 => ?_⟩
      refine lc_map (fun k v _ => v = .int (absI (cs.getD k 0))) (wk_list hs4) hD2 (by rw [PySem.sizeLine_eq]; simp [iV]; omega) (fun _ => rfl) (fun _ _ _ _ _ h => h) (fun i H5 hi s5 Q' q' => ?_) (fun H5 zs s5 f1 f2 f3 => ?_)
      · rw [hx i hi]
        exact ⟨_, rfl, _, rfl, q' _ _ (Same.refl _) rfl⟩
      · have ez := iV_of f2 f3
        have hp5 := s5 p (.dK []) upd_same
        refine ⟨hp5, stK D D2 0 0, rfl, by show (4 : Nat) ≤ 15; decide, ?_⟩
        have hpD : D ≠ p := fun z => by rw [z, hp] at g1; cases g1
        have hpD2 : D2 ≠ p := fun z => by rw [z, hp5] at f1; cases f1
        have hDD : D2 ≠ D := fun z => by rw [z, s4 _ _ g1] at hD2; cases hD2
        refine q ⟨p, D, D2⟩ _ ?_ ⟨0, 0, gs, _, upd_same, by show upd H5 p _ D = _; rw [upd_ne hpD]; exact s5 _ _ (s4 _ _ g1), by show upd H5 p _ D2 = _; rw [upd_ne hpD2, f1, ez], hDD, gl2, by omega, by omega⟩
        have hp0 : H p = none := by
          cases e : H p with
          | none => rfl
          | some o => rw [s3 _ _ e] at hp; cases hp
        exact Same.mut (s3.trans (s4.trans s5)) hp0
end
end My
namespace My
open PySem PySem.Spec PyProof.Rows L2 SX
section
variable {P : Program} {w : World} {K : PySem.W.Frag} {mg : Str → Option Value} {base : Heap}
theorem ok_mk_plain (B : Bt mg) (F : Fd K mg "_law_mk_plain" s_l_mk_plain) : Df P w K mg base CX0 1 "_law_mk_plain" ["_law_letters"] (spPlain K) := by
  refine .mk' F sc_l_mk_plain (fun _ _ _ _ _ _ us hl => match us, hl with | [_], _ => rfl) (fun vs H Q E h => ?_) (fun f cdv A outer s H vs Q E hr h => ?_)
  · unfold spPlain at h
    obtain ⟨a, xs, rfl, _⟩ := h
    rfl
  · unfold spPlain at h
    obtain ⟨a, xs, rfl, hs, hl, q⟩ := h
    have nd := sc_l_mk_plain.nd
    obtain ⟨wi, pi, hpi⟩ := pi_pick hs
    refine ⟨_, PSs.nox (pss_cons (ps_set (i := 1) nd rfl (Or.inl rfl) (pe_lst pa_nil))
      (pss_cons (ps_for PassesOwn.never rfl (pi rfl (pv 0)) (pg_name (i := 2) nd rfl (Or.inl rfl))
      (pss_one (ps_if (PW.pt (pw_and (pt_cmpR (op_neD hr.units) (pv 1) (pe_lst pa_nil) (nomark _)) (pw_and1 (pt_cmpR op_eq (pe_ix ix_list (pv 1) (pe_un un_neg (pe_int)) (fun _ _ => rfl)) (pe_op op_sub (pe_int) (pv 2)) (nomark _)))))
      (pss_one (ps_expr (pe_bm0 PySem.F.plainAttrs_list PySem.F.slot_list_pop PySem.F.type_list_pop mt_pop (pv 1)))) (pss_one (ps_expr (pe_bm PySem.F.plainAttrs_list PySem.F.slot_list_append PySem.F.type_list_append mt_append (pv 1) (pa_cons (pv 2) pa_nil)))))))
      (pss_one (ps_ret (pe_callTy call_tuple_of (by rfl) B.tuple (by decide +kernel) (pa_cons (pv 1) pa_nil)))))), ?_⟩
    refine ⟨Nat.zero_le _, fun D hD => ?_⟩
    refine hpi _ _ _ _ (Same.new hD) (fun Q q => ⟨_, rfl, q⟩) fun J hJ => ?_
    refine for_wk hJ (fun i σ H' => ∃ x, σ = [some (.ref a), some (.ref D), x] ∧ Same H H' ∧ H' D = some (.lst (iV (plain (xs.take i))))) ?_ ?_ ?_ ?_
    · exact ⟨_, rfl, Same.new hD, upd_same⟩
    · rintro i σ H ⟨x, _, h, _⟩
      exact h
    · rintro i σ H' hi ⟨x, rfl, h4, h5⟩
      simp only [iV, List.length_map] at hi
      have hx : (iV xs).getD i .non = .int (xs.getD i 0) := iV_getD hi
      have ep : plain (xs.take (i + 1)) = plainStep (plain (xs.take i)) (xs.getD i 0) := by rw [take_get_succ hi, plain_snoc]
      have hlen : (plain (xs.take i)).length ≤ i := by
        have h1 := plain_len (xs.take i)
        rw [List.length_take] at h1
        omega
      rw [hx]
      generalize plain (xs.take i) = r at h5 ep hlen
      generalize xs.getD i 0 = y at ep
      refine ⟨_, rfl, Nat.zero_le _, fun l hl => neD_int (t := false) (xs := r) (ys := []) (.lst (SqL.of (by rw [upd_ne (ne_of_none h5 hl)]; exact h5))) (.lst (SqL.of upd_same)) ⟨_, rfl, ?_⟩⟩
      have h5l : upd H' l (.lst []) D = some (.lst (iV r)) := by rw [upd_ne (ne_of_none h5 hl)]; exact h5
      have h4l : Same H (upd H' l (.lst [])) := h4.trans (Same.new hl)
      have app : plainStep r y = r ++ [y] → ∃ l2 xs2 y2, V.ref D = .ref l2 ∧ [V.int y] = [y2] ∧ upd H' l (.lst []) l2 = some (.lst xs2) ∧ xs2.length < sizeLine ∧ ∃ x, [some (V.ref a), some (V.ref D), some (.int y)] = [some (.ref a), some (.ref D), x] ∧ Same H (upd (upd H' l (.lst [])) l2 (.lst (xs2 ++ [y2]))) ∧ upd (upd H' l (.lst [])) l2 (.lst (xs2 ++ [y2])) D = some (.lst (iV (plain (xs.take (i + 1))))) := fun e =>
        ⟨D, iV r, .int y, rfl, rfl, h5l, by rw [PySem.sizeLine_eq]; simp [iV]; omega, some (.int y), rfl, Same.mut h4l hD, by rw [upd_same, ep, e]; simp [iV]⟩
      have hr' : r = [] ∨ ∃ r' z, r = r' ++ [z] := by
        rcases List.eq_nil_or_concat r with h | ⟨r', z, h⟩
        · exact .inl h
        · exact .inr ⟨r', z, by rw [h, List.concat_eq_append]⟩
      rcases hr' with rfl | ⟨r', z, rfl⟩
      · exact iteF ⟨_, rfl, .inl ⟨rfl, _, SqL.of h5l⟩, _, rfl, app rfl⟩
      · refine iteT_of (by simp) ⟨_, rfl, 1, rfl, D, _, _, _, rfl, rfl, SqL.of h5l, by rw [iV, List.map_append]; exact atI_last _ _, _, rfl, _, _, rfl, rfl, rfl, _, rfl, ?_⟩
        have es : plainStep (r' ++ [z]) y = if z = 0 - y then r' else r' ++ [z] ++ [y] := by
          unfold plainStep
          rw [List.getLast?_append]
          simp
        by_cases hz : z = 0 - y
        · rw [if_pos hz] at es
          exact iteT_of (by rw [decI]; exact decide_eq_true hz) ⟨_, rfl, .inl ⟨rfl, _, SqL.of h5l⟩, D, _, .int z, rfl, rfl, h5l, by simp [iV], _, rfl, Same.mut h4l hD, by rw [upd_same, ep, es]; simp [iV]⟩
        · rw [if_neg hz] at es
          exact iteF_of (by rw [decI]; exact decide_eq_false hz) ⟨_, rfl, .inl ⟨rfl, _, SqL.of h5l⟩, _, rfl, app es⟩
    · rintro σ H' ⟨x, rfl, h4, h5⟩
      rw [List.take_of_length_le (by simp [iV])] at h5
      refine ⟨_, rfl, D, _, rfl, .inl ⟨SqL.of h5, fun l hl => ?_⟩⟩
      exact q _ _ (h4.trans (Same.new hl)) ⟨l, rfl, upd_same⟩
theorem ok_mk_undone (B : Bt mg) (F : Fd K mg "_law_mk_undone" s_l_mk_undone) : Df P w K mg base CX0 1 "_law_mk_undone" ["_law_row"] spUndone := by
  refine .mk' F sc_l_mk_undone (fun _ _ _ _ _ _ us hl => match us, hl with | [_], _ => rfl) (fun vs H Q E h => ?_) (fun f cdv A outer s H vs Q E hr h => ?_)
  · unfold spUndone at h
    obtain ⟨a, xs, rfl, _⟩ := h
    rfl
  · unfold spUndone at h
    obtain ⟨v, xs, rfl, ⟨a, rfl, hs⟩, hl, q⟩ := h
    have nd := sc_l_mk_undone.nd
    refine ⟨_, PSs.nox (pss_one (ps_ret (pe_callTy call_tuple_of (by rfl) B.tuple (by decide +kernel) (pa_cons (pe_lc (own := [("_law_letter", 1)]) (g := gName 1) rfl nd (pi_tup (pe_revT (pv 0))) (blkOk_by (own := [("_law_letter", 1)]) (N := ["_law_row", "_law_letter"]) (sc := defScope s_l_mk_undone) (by decide +kernel))
        (fun _ _ _ _ _ => pg_name (i := 1) nd rfl (Or.inl rfl)) (fun _ _ _ _ _ => pts_nil) (fun _ _ _ _ _ => pe_op op_sub (pe_int) (pv 1))) pa_nil)))), ?_⟩
    refine ⟨_, rfl, a, iV xs, rfl, .inl (.inl hs), fun p hp => ⟨p, rfl, ⟨_, .inl (.inl upd_same)⟩, fun D hD => ?_⟩⟩
    have s1 : Same H (upd H p (.tup (iV xs).reverse)) := Same.new hp
    refine lc_map (fun k v _ => v = .int (0 - xs.reverse.getD k 0)) (wk_tup (K := K) (.inl (.inl upd_same))) hD (by rw [PySem.sizeLine_eq]; simp [iV]; omega) (fun _ => rfl) (fun _ _ _ _ _ h => h) (fun i H' hi e Q' q' => ?_) (fun H' ys e h3 h4 h5 => ?_)
    · have hx : (iV xs).reverse.getD i .non = .int (xs.reverse.getD i 0) := by
        have h : i < xs.reverse.length := by simpa [iV] using hi
        rw [← List.map_reverse]
        exact iV_getD h
      rw [hx]
      exact ⟨_, rfl, _, _, rfl, rfl, q' _ _ (Same.refl _) rfl⟩
    · have ey := iV_of (n := xs.length) (by simpa [iV] using h4) h5
      rw [undone_range] at ey
      subst ey
      exact ⟨D, _, rfl, .inl ⟨SqL.of h3, fun l hl => q _ _ ((s1.trans e).trans (Same.new hl)) ⟨l, rfl, upd_same⟩⟩⟩
/-! ### _law_mk_letters -/
def allLetters (n : Int) : List Int := upTo n ++ (upTo n).map fun x => 0 - x
@[irreducible] def spLetters : Sp := fun vs H Q _ => ∃ n : Int, vs = [.int n] ∧ 0 ≤ n ∧ n ≤ 4 ∧ ∀ p H', Same H H' → H p = none → H' p = some (.lst (iV (allLetters n))) → Q (.ref p) H'
theorem spLetters_i {H : Hp} {n : Int} {Q : VK} {E : XK} (h0 : 0 ≤ n) (h1 : n ≤ 4) (q : ∀ p H', Same H H' → H p = none → H' p = some (.lst (iV (allLetters n))) → Q (.ref p) H') : spLetters [.int n] H Q E := by
  unfold spLetters
  exact ⟨n, rfl, h0, h1, q⟩
theorem upTo_len (n : Int) : (upTo n).length = n.toNat := by
  unfold upTo
  simp
theorem ok_mk_letters (B : Bt mg) (F : Fd K mg "_law_mk_letters" s_l_mk_letters) : Df P w K mg base CX0 1 "_law_mk_letters" ["_law_deeds"] spLetters := by
  refine .mk' F sc_l_mk_letters (fun _ _ _ _ _ _ us hl => match us, hl with | [_], _ => rfl) (fun vs H Q E h => ?_) (fun f cdv A outer s H vs Q E hr h => ?_)
  · unfold spLetters at h
    obtain ⟨n, rfl, _⟩ := h
    rfl
  · unfold spLetters at h
    obtain ⟨n, rfl, h0, h1, q⟩ := h
    have nd := sc_l_mk_letters.nd
    refine ⟨_, PSs.nox (pss_one (ps_ret (pe_op op_cat (pe_listRg rfl (by rfl) B.list (prg_2 (by rfl) B.range (pe_int) (pe_op op_add (pv 0) (pe_int)))) (pe_lc (own := [("_law_deed", 1)]) (g := gName 1) rfl nd (pi_range2 (by rfl) B.range (pa_cons (pe_int) (pa_cons (pe_op op_add (pv 0) (pe_int)) pa_nil))) (blkOk_by (own := [("_law_deed", 1)]) (N := ["_law_deeds", "_law_deed"]) (sc := defScope s_l_mk_letters) (by decide +kernel))
        (fun _ _ _ _ _ => pg_name (i := 1) nd rfl (Or.inl rfl)) (fun _ _ _ _ _ => pts_nil) (fun _ _ _ _ _ => pe_op op_sub (pe_int) (pv 1)))))), ?_⟩
    refine ⟨_, rfl, _, _, rfl, rfl, _, _, rfl, rfl, ⟨by omega, by omega, by omega, by omega, by omega⟩, fun a ha => ?_⟩
    have er : rgV 1 (n + 1) = iV (upTo n) := by
      unfold rgV upTo iV
      rw [List.map_map]
      rfl
    have s1 : Same H (upd H a (.lst (rgV 1 (n + 1)))) := Same.new ha
    refine ⟨_, rfl, _, _, rfl, rfl, _, _, rfl, ⟨by omega, by omega, by omega, by omega⟩, fun D hD => ?_⟩
    refine lc_map (fun k v _ => v = .int (0 - (1 + (k : Int)))) (wk_range (H1 := upd H a (.lst (rgV 1 (n + 1))))) hD (by rw [PySem.sizeLine_eq]; omega) (fun _ => rfl) (fun _ _ _ _ _ h => h) (fun i H' hi e Q' q' => ⟨_, rfl, _, _, rfl, rfl, q' _ _ (Same.refl _) rfl⟩) (fun H' ys e h3 h4 h5 => ?_)
    have ey := iV_of h4 h5
    have ez : (List.range (n + 1 - 1).toNat).map (fun (k : Nat) => 0 - (1 + (k : Int))) = (upTo n).map fun x => 0 - x := by
      unfold upTo
      rw [List.map_map]
      rfl
    rw [ez] at ey
    subst ey
    have ha' := e _ _ (upd_same (H := H) (a := a) (o := .lst (rgV 1 (n + 1))))
    refine ⟨a, D, _, _, rfl, rfl, ha', h3, by rw [er, PySem.sizeLine_eq]; simp only [iV, List.length_map, upTo_len]; omega, fun p hp => ?_⟩
    have hp0 : H p = none := by
      cases z : H p with
      | none => rfl
      | some o => rw [e _ _ (s1 _ _ z)] at hp; cases hp
    refine q p _ ((s1.trans e).trans (Same.new hp)) hp0 ?_
    rw [upd_same, er]
    simp [iV, allLetters]
end
end My
namespace My
open PySem PySem.Spec PyProof.Rows L2 SX
def noHp : Hp := fun _ => none
theorem Same.nil (H : Hp) : Same noHp H := fun a o h => by cases h
theorem mem_upTo {n x : Int} : x ∈ upTo n ↔ 1 ≤ x ∧ x ≤ n := by
  unfold upTo
  rw [List.mem_map]
  constructor
  · rintro ⟨k, hk, rfl⟩
    have := List.mem_range.mp hk
    omega
  · intro h
    exact ⟨(x - 1).toNat, List.mem_range.mpr (by omega), by omega⟩
theorem mem_letters {n x : Int} : x ∈ allLetters n ↔ (0 - n ≤ x ∧ x ≤ n ∧ x ≠ 0) := by
  unfold allLetters
  rw [List.mem_append, mem_upTo, List.mem_map]
  constructor
  · rintro (h | ⟨y, hy, rfl⟩)
    · omega
    · rw [mem_upTo] at hy
      omega
  · intro h
    by_cases hx : 0 < x
    · exact .inl (by omega)
    · exact .inr ⟨0 - x, mem_upTo.mpr (by omega), by omega⟩
theorem letters_len (n : Int) : (allLetters n).length = 2 * n.toNat := by
  unfold allLetters
  rw [List.length_append, List.length_map, upTo_len]
  omega
theorem plainRow_snoc {n : Int} {r : List Int} {x : Int} (h : PlainRow n r) (hx : 0 - n ≤ x ∧ x ≤ n ∧ x ≠ 0) (hl : r = [] ∨ x ≠ 0 - r.getD (r.length - 1) 0) : PlainRow n (r ++ [x]) := by
  refine ⟨fun y hy => ?_, ?_⟩
  · rcases List.mem_append.mp hy with hy | hy
    · exact h.1 y hy
    · rw [List.mem_singleton.mp hy]
      exact hx
  · rw [adj_iff]
    intro k hk
    rw [List.length_append, List.length_singleton] at hk
    have h2 := (adj_iff r).mp h.2
    by_cases hk2 : k + 1 < r.length
    · rw [getD_snoc_lt (by omega), getD_snoc_lt hk2]
      exact h2 k hk2
    · have e : k + 1 = r.length := by omega
      rw [getD_snoc_lt (by omega), e, getD_snoc_eq]
      rcases hl with rfl | hl
      · simp at e
      · rw [show k = r.length - 1 by omega]
        omega
def keepL (n : Int) (r : List Int) (i : Nat) : Bool := decide (r = []) || !decide ((allLetters n).getD i 0 = 0 - r.getD (r.length - 1) 0)
theorem keep_some {n : Int} (hn : 1 ≤ n) (r : List Int) : (sel (keepL n r) (allLetters n).length) ≠ [] := by
  have key : ∃ x ∈ allLetters n, r = [] ∨ x ≠ 0 - r.getD (r.length - 1) 0 := by
    by_cases h : (1 : Int) = 0 - r.getD (r.length - 1) 0
    · exact ⟨-1, mem_letters.mpr (by omega), .inr (by omega)⟩
    · exact ⟨1, mem_letters.mpr (by omega), .inr h⟩
  obtain ⟨x, hx, hk⟩ := key
  obtain ⟨i, hi, rfl⟩ := List.mem_iff_getElem.mp hx
  have hm : i ∈ sel (keepL n r) (allLetters n).length := by
    unfold sel
    rw [List.mem_filter]
    refine ⟨List.mem_range.mpr hi, ?_⟩
    have e : (allLetters n).getD i 0 = (allLetters n)[i] := by rw [List.getD_eq_getElem?_getD, List.getElem?_eq_getElem hi]; rfl
    unfold keepL
    rw [e]
    rcases hk with hk | hk
    · simp [hk]
    · simp only [Bool.or_eq_true, Bool.not_eq_true', decide_eq_false_iff_not]
      exact .inr hk
  intro h
  rw [h] at hm
  cases hm
section
variable {P : Program} {w : World} {K : PySem.W.Frag} {mg : Str → Option Value} {base : Heap}
/-! ### _law_mk_row -/
@[irreducible] def spMkRow : Sp := fun vs H Q _ => ∃ (u : Sd) (k : Nat) (n least most : Int), vs = [.ref u.s, .int n, .int least, .int most] ∧ 1 ≤ n ∧ n ≤ 4 ∧ 0 ≤ least ∧ least ≤ most ∧ most ≤ 50 ∧ Dst H u (k + 100) ∧ ∀ (xs : List Int) (v : V) H', Kp u H H' → Dst H' u k → Row H' v xs → PlainRow n xs → least ≤ xs.length → xs.length ≤ most → Q v H'
theorem spMkRow_i {H : Hp} {u : Sd} {k : Nat} {n least most : Int} {Q : VK} {E : XK} (h1 : 1 ≤ n) (h2 : n ≤ 4) (h3 : 0 ≤ least) (h4 : least ≤ most) (h5 : most ≤ 50) (h : Dst H u (k + 100)) (q : ∀ (xs : List Int) (v : V) H', Kp u H H' → Dst H' u k → Row H' v xs → PlainRow n xs → least ≤ xs.length → xs.length ≤ most → Q v H') : spMkRow [.ref u.s, .int n, .int least, .int most] H Q E := by
  unfold spMkRow
  exact ⟨u, k, n, least, most, rfl, h1, h2, h3, h4, h5, h, q⟩
theorem ok_mk_row (B : Bt mg) (F : Fd K mg "_law_mk_row" s_l_mk_row) (D_l_draw : Df P w K mg base CX0 2 "_law_draw" ["_law_state", "_law_room"] spDraw) (D_l_pick : Df P w K mg base CX0 3 "_law_pick" ["_law_state", "_law_some"] (spPick K)) (D_l_mk_letters : Df P w K mg base CX0 1 "_law_mk_letters" ["_law_deeds"] spLetters) :
    Df P w K mg base CX0 4 "_law_mk_row" ["_law_state", "_law_deeds", "_law_least", "_law_most"] spMkRow := by
  refine .mk' F sc_l_mk_row (fun _ _ _ _ _ _ us hl => match us, hl with | [_, _, _, _], _ => rfl) (fun vs H Q E h => ?_) (fun f cdv A outer s H vs Q E hr h => ?_)
  · unfold spMkRow at h
    obtain ⟨u, k, n, least, most, rfl, _⟩ := h
    rfl
  · unfold spMkRow at h
    obtain ⟨u, k, n, least, most, rfl, n1, n2, l0, l1, l2, hd, q⟩ := h
    have nd := sc_l_mk_row.nd
    refine ⟨_, PSs.nox (pss_cons (ps_set (i := 4) nd rfl (Or.inr rfl) (pe_lst pa_nil))
      (pss_cons (ps_for PassesOwn.never rfl (pi_range1 (by rfl) B.range (pa_cons (pe_op op_add (pv 2) (pe_df (D_l_draw.mono (by decide)) hr rfl pass0 (pa_cons (pv 0) (pa_cons (pe_op op_add (pe_op op_sub (pv 3) (pv 2)) (pe_int)) pa_nil)))) pa_nil)) (pg_name (i := 5) nd rfl (Or.inl rfl))
      (pss_cons (ps_setLc (i := 6) (own := [("_law_letter", 7)]) (g := gName 7) rfl nd rfl rfl (sw_true rfl rfl rfl (by decide +kernel)) (pi_list (pe_df (D_l_mk_letters.mono (by decide)) hr rfl pass0 (pa_cons (pv 1) pa_nil))) (blkOk_by (own := [("_law_letter", 7)]) (N := ["_law_state", "_law_deeds", "_law_least", "_law_most", "_law_found", "_law_lap", "_law_some", "_law_letter"]) (sc := defScope s_l_mk_row) (by decide +kernel))
        (fun _ _ _ _ _ => pg_name (i := 7) nd rfl (Or.inl rfl)) (fun _ _ _ _ _ => pts_one (PW.pt (pw_or (pt_cmpR (r := rEqD K) (op_eqD hr.units) (pv 4) (pe_lst pa_nil) (nomark _)) (pw_or1 (pt_cmpR op_ne (pv 7) (pe_op op_sub (pe_int) (pe_ix (r := rIxL K) ix_list (pv 4) (pe_un un_neg (pe_int)) (fun _ _ => rfl))) (nomark _)))))) (fun _ _ _ _ _ => pv 7))
      (pss_one (ps_expr (pe_bm PySem.F.plainAttrs_list PySem.F.slot_list_append PySem.F.type_list_append mt_append (pv 4) (pa_cons (pe_df (D_l_pick.mono (by decide)) hr rfl pass0 (pa_cons (pv 0) (pa_cons (pv 6) pa_nil))) pa_nil))))))
      (pss_one (ps_ret (pe_callTy call_tuple_of (by rfl) B.tuple (by decide +kernel) (pa_cons (pv 4) pa_nil)))))), ?_⟩
    refine ⟨Nat.zero_le _, fun D hD => ?_⟩
    have off := hd.off hD
    have hd1 := hd.mut (o := .lst []) off
    refine ⟨_, rfl, _, rfl, _, rfl, _, rfl, _, _, rfl, rfl, _, _, rfl, rfl, spDraw_i (by omega) (by omega) hd1 fun d H1 d0 d1 kp1 ds1 => ?_⟩
    refine ⟨_, _, rfl, rfl, _, rfl, by omega, by omega, ?_⟩
    have e1 : H1 D = some (.lst (iV [])) := kp1 D _ off.1 off.2.1 upd_same
    have kp01 : Kp u H H1 := (Kp.of (Same.new hD)).trans kp1
    refine for_wk (wk_range (H1 := noHp)) (fun i σ H' => ∃ (x5 x6 x7 : Option V) (r : List Int), σ = [some (.ref u.s), some (.int n), some (.int least), some (.int most), some (.ref D), x5, x6, x7] ∧ Kp u H H' ∧ H' D = some (.lst (iV r)) ∧ PlainRow n r ∧ r.length = i ∧ i ≤ 50 ∧ Dst H' u (k + 99 - i)) ⟨_, _, _, [], rfl, kp01, e1, ⟨by simp, rfl⟩, rfl, by omega, ds1⟩ (fun i σ H' _ => Same.nil H') ?_ ?_
    · rintro i σ H2 hi ⟨x5, x6, x7, r, rfl, kp2, e2, pr, hr2, hi2, ds2⟩
      refine ⟨_, rfl, spLetters_i (by omega) n2 fun p H3 s3 hp e3 => ⟨p, rfl, ⟨_, SqL.of e3⟩, fun D2 hD2 => ?_⟩⟩
      have lens := letters_len n
      have hx (j : Nat) (hj : j < (iV (allLetters n)).length) : (iV (allLetters n)).getD j .non = .int ((allLetters n).getD j 0) := iV_getD (by simpa [iV] using hj)
      refine lc_sel (keepL n r) (fun j v _ => v = .int ((allLetters n).getD j 0)) (wk_list (SqL.of e3)) hD2 (by rw [PySem.sizeLine_eq]; simp only [iV, List.length_map, lens]; omega) (fun _ => rfl) (fun _ _ _ _ _ h => h) (fun j H4 hj s4 Q' q' => ?_) (fun j H4 hj hk s4 Q' q' => ?_) (fun H4 ys s4 g1 g2 g3 => ?_)
      · rw [hx j hj]
        have eD := s4 _ _ (s3 _ _ e2)
        refine ⟨_, rfl, Nat.zero_le _, fun l hl => eqD_int (t := false) (xs := r) (ys := []) (.lst (SqL.of (by rw [upd_ne (ne_of_none eD hl)]; exact eD))) (.lst (SqL.of upd_same)) ⟨_, rfl, ?_⟩⟩
        have s5 : Same H4 (upd H4 l (.lst [])) := Same.new hl
        have qq := q' _ s5
        unfold keepL at qq
        refine ite_of (fun h => ?_) (fun h => ?_)
        · rw [h] at qq
          exact qq
        · have hne : r ≠ [] := of_decide_eq_false h
          rw [h] at qq
          have hr' : ∃ r' z, r = r' ++ [z] := by
            rcases List.eq_nil_or_concat r with h | ⟨r', z, h⟩
            · exact absurd h hne
            · exact ⟨r', z, by rw [h, List.concat_eq_append]⟩
          obtain ⟨r', z, rfl⟩ := hr'
          have ez : (r' ++ [z]).getD ((r' ++ [z]).length - 1) 0 = z := by
            rw [List.length_append, List.length_singleton, Nat.add_sub_cancel]
            exact getD_snoc_eq
          rw [ez] at qq
          refine ⟨_, rfl, _, rfl, 1, rfl, D, _, _, _, rfl, rfl, SqL.of (s5 _ _ eD), by rw [iV, List.map_append]; exact atI_last _ _, _, _, rfl, rfl, rfl, _, rfl, ?_⟩
          rw [decI]
          simpa using qq
      · rw [hx j hj]
        exact ⟨_, rfl, q' _ _ (Same.refl _) rfl⟩
      · have ey := iV_of2 g2 g3
        rw [ey] at g1
        have s04 := s3.trans s4
        have eD := s04 _ _ e2
        have ds4 : Dst H4 u ((k + 98 - i) + 1) := (ds2.le (by omega)).same s04
        have kp4 : Kp u H H4 := kp2.trans (Kp.of s04)
        have off2 : Off u D2 := (ds2.same s3).off hD2
        have sl := sel_len (keepL n r) (iV (allLetters n)).length
        simp only [iV, List.length_map] at sl g1
        have hne : ((sel (keepL n r) (allLetters n).length).map fun j => (allLetters n).getD j 0).map V.int ≠ [] := by
          rw [Ne, List.map_eq_nil_iff, List.map_eq_nil_iff]
          exact keep_some n1 r
        refine ⟨_, rfl, .inl ⟨rfl, _, SqL.of eD⟩, _, rfl, _, rfl, spPick_i off2.1 off2.2.1 (SqL.of g1) hne (by simp only [List.length_map]; omega) ds4 fun j v H5 hv kp5 ds5 => ?_⟩
        have e5 := kp5 D _ off.1 off.2.1 eD
        rw [List.getElem?_map, List.getElem?_map] at hv
        obtain ⟨m, hm, rfl⟩ := Option.map_eq_some_iff.mp (by
          rw [Option.map_map] at hv
          exact hv)
        have hm' : m ∈ sel (keepL n r) (allLetters n).length := List.mem_of_getElem? hm
        unfold sel at hm'
        rw [List.mem_filter] at hm'
        obtain ⟨hm1, hm2⟩ := hm'
        have hm1 := List.mem_range.mp hm1
        have hmem : (allLetters n).getD m 0 ∈ allLetters n := by
          rw [List.getD_eq_getElem?_getD, List.getElem?_eq_getElem hm1]
          exact List.getElem_mem hm1
        refine ⟨D, _, _, rfl, rfl, e5, by rw [PySem.sizeLine_eq]; simp only [iV, List.length_map]; omega, _, _, _, r ++ [(allLetters n).getD m 0], rfl, Kp.mut (kp4.trans kp5) hD, ?_, ?_, by simp [hr2], by omega, (ds5.le (by omega)).mut off⟩
        · rw [upd_same, iV_snoc]
          rfl
        · refine plainRow_snoc pr (mem_letters.mp hmem) ?_
          unfold keepL at hm2
          simpa using hm2
    · rintro σ H2 ⟨x5, x6, x7, r, rfl, kp2, e2, pr, hr2, hi2, ds2⟩
      refine ⟨_, rfl, D, _, rfl, .inl ⟨SqL.of e2, fun t ht => ?_⟩⟩
      exact q r _ _ (kp2.trans (Kp.of (Same.new ht))) ((ds2.le (by omega)).same (Same.new ht)) ⟨t, rfl, upd_same⟩ pr (by omega) (by omega)
end
end My
namespace My
open PySem PySem.Spec PyProof.Rows L2 SX
/-- so many letters of so many deeds -/
def Lets (n : Int) (xs : List Int) : Prop := ∀ x ∈ xs, 0 - n ≤ x ∧ x ≤ n ∧ x ≠ 0
theorem plain_foldl (a b : List Int) : plain (a ++ b) = b.foldl plainStep (plain a) := by
  unfold plain
  rw [List.foldl_append]
theorem step_back {acc : List Int} (h : adjOk acc = true) (x : Int) : plainStep (plainStep acc x) (0 - x) = acc := by
  have hr : acc = [] ∨ ∃ r z, acc = r ++ [z] := by
    rcases List.eq_nil_or_concat acc with h | ⟨r, z, h⟩
    · exact .inl h
    · exact .inr ⟨r, z, by rw [h, List.concat_eq_append]⟩
  have es (r : List Int) (z x : Int) : plainStep (r ++ [z]) x = if z = 0 - x then r else r ++ [z] ++ [x] := by
    unfold plainStep
    rw [List.getLast?_append]
    simp
  rcases hr with rfl | ⟨r, z, rfl⟩
  · have e : plainStep [] x = [] ++ [x] := rfl
    rw [e, es, if_pos (by omega)]
  · rw [es]
    by_cases hz : z = 0 - x
    · rw [if_pos hz]
      rcases List.eq_nil_or_concat r with h2 | ⟨r', y, h2⟩
      · subst h2
        show [] ++ [0 - x] = [] ++ [z]
        rw [hz]
      · rw [List.concat_eq_append] at h2
        subst h2
        have := (adj_iff _).mp h r'.length (by simp)
        have e1 : (r' ++ [y] ++ [z]).getD r'.length 0 = y := by rw [getD_snoc_lt (by simp), getD_snoc_eq]
        have e2 : (r' ++ [y] ++ [z]).getD (r'.length + 1) 0 = z := by
          rw [show r'.length + 1 = (r' ++ [y]).length by simp, getD_snoc_eq]
        rw [e1, e2] at this
        rw [es, if_neg (by omega), hz]
    · rw [if_neg hz, es, if_pos (by omega)]
theorem plain_pair (a b : List Int) (x : Int) : plain (a ++ [x, 0 - x] ++ b) = plain (a ++ b) := by
  rw [plain_foldl, plain_foldl, plain_foldl]
  show b.foldl plainStep (plainStep (plainStep (plain a) x) (0 - x)) = _
  rw [step_back (plain_adj a)]
section
variable {P : Program} {w : World} {K : PySem.W.Frag} {mg : Str → Option Value} {base : Heap}
/-! ### _law_mr_times -/
@[irreducible] def spTimes : Sp := fun vs H Q _ => ∃ (v : V) (xs : List Int) (m : Int), vs = [v, .int m] ∧ Row H v xs ∧ xs ≠ [] ∧ xs.length ≤ 900 ∧ 2 ≤ m ∧ m ≤ 1000 ∧ ∀ v' H', Same H H' → Row H' v' (plain (List.replicate m.toNat xs).flatten) → Q v' H'
theorem rep_iV (m : Nat) (xs : List Int) : (List.replicate m (iV xs)).flatten = iV (List.replicate m xs).flatten := by
  unfold iV
  rw [List.map_flatten, List.map_replicate]
theorem rep_len (m : Nat) (xs : List Int) : (List.replicate m xs).flatten.length = m * xs.length := by
  rw [List.length_flatten, List.map_replicate, List.sum_replicate_nat]
theorem ok_times (B : Bt mg) (F : Fd K mg "_law_mr_times" s_l_mr_times) (D_l_mk_undone : Df P w K mg base CX0 1 "_law_mk_undone" ["_law_row"] spUndone) (D_l_mk_plain : Df P w K mg base CX0 1 "_law_mk_plain" ["_law_letters"] (spPlain K)) : Df P w K mg base CX0 2 "_law_mr_times" ["_law_row", "_law_many"] spTimes := by
  refine .mk' F sc_l_mr_times (fun _ _ _ _ _ _ us hl => match us, hl with | [_, _], _ => rfl) (fun vs H Q E h => ?_) (fun f cdv A outer s H vs Q E hr h => ?_)
  · unfold spTimes at h
    obtain ⟨v, xs, m, rfl, _⟩ := h
    rfl
  · unfold spTimes at h
    obtain ⟨v, xs, m, rfl, ⟨a, rfl, ha⟩, hne, hl, m1, m2, q⟩ := h
    have nd := sc_l_mr_times.nd
    refine ⟨_, PSs.nox (pss_cons (ps_set (i := 2) nd rfl (Or.inl rfl) (pe_ifExp (pt_cmpR op_ge (pv 1) (pe_int) (nomark _)) (pv 0) (pe_df (D_l_mk_undone.mono (by decide)) hr rfl pass0 (pa_cons (pv 0) pa_nil))))
      (pss_one (ps_ret (pe_df (D_l_mk_plain.mono (by decide)) hr rfl pass0 (pa_cons (pe_op op_repT (pv 2) (pe_callB call_abs (by rfl) B.abs (by decide +kernel) (pa_cons (pv 1) pa_nil))) pa_nil))))), ?_⟩
    refine ⟨_, rfl, _, _, rfl, rfl, _, rfl, iteT_of (decide_eq_true (by omega)) ⟨_, rfl, ?_⟩⟩
    refine ⟨_, rfl, _, rfl, _, rfl, a, _, iV xs, rfl, rfl, .inl (.inl ha), by simpa [iV] using hne, ?_, ?_, by simp only [iV, List.length_map]; omega, fun p hp => ?_⟩
    · rw [if_neg (by omega)]; exact m1
    · rw [if_neg (by omega)]; exact m2
    · rw [if_neg (by omega), rep_iV]
      have lr := rep_len m.toNat xs
      have : m.toNat * xs.length ≤ 1000 * 900 := Nat.mul_le_mul (by omega) hl
      exact spPlain_i (.inr (.inl (.inl upd_same))) (by omega) fun v' H' s r => q v' H' ((Same.new hp).trans s) r
/-! ### _law_mr_turned -/
@[irreducible] def spTurned : Sp := fun vs H Q _ => ∃ (v u : V) (xs ys : List Int), vs = [v, u] ∧ Row H v xs ∧ Row H u ys ∧ xs.length ≤ 1000 ∧ ys.length ≤ 1000 ∧ ∀ v' H', Same H H' → Row H' v' (plain (ys ++ xs ++ undone ys)) → Q v' H'
theorem spTurned_i {H : Hp} {v u : V} {xs ys : List Int} {Q : VK} {E : XK} (h : Row H v xs) (h' : Row H u ys) (h1 : xs.length ≤ 1000) (h2 : ys.length ≤ 1000) (q : ∀ v' H', Same H H' → Row H' v' (plain (ys ++ xs ++ undone ys)) → Q v' H') : spTurned [v, u] H Q E := by
  unfold spTurned
  exact ⟨v, u, xs, ys, rfl, h, h', h1, h2, q⟩
theorem ok_turned (F : Fd K mg "_law_mr_turned" s_l_mr_turned) (D_l_mk_undone : Df P w K mg base CX0 1 "_law_mk_undone" ["_law_row"] spUndone) (D_l_mk_plain : Df P w K mg base CX0 1 "_law_mk_plain" ["_law_letters"] (spPlain K)) : Df P w K mg base CX0 2 "_law_mr_turned" ["_law_row", "_law_by"] spTurned := by
  refine .mk' F sc_l_mr_turned (fun _ _ _ _ _ _ us hl => match us, hl with | [_, _], _ => rfl) (fun vs H Q E h => ?_) (fun f cdv A outer s H vs Q E hr h => ?_)
  · unfold spTurned at h
    obtain ⟨v, u, xs, ys, rfl, _⟩ := h
    rfl
  · unfold spTurned at h
    obtain ⟨v, u, xs, ys, rfl, h1, h2, l1, l2, q⟩ := h
    have nd := sc_l_mr_turned.nd
    refine ⟨_, PSs.nox (pss_one (ps_ret (pe_df (D_l_mk_plain.mono (by decide)) hr rfl pass0 (pa_cons (pe_op op_catA (pe_op op_catA (pv 1) (pv 0)) (pe_df (D_l_mk_undone.mono (by decide)) hr rfl pass0 (pa_cons (pv 1) pa_nil))) pa_nil)))), ?_⟩
    refine ⟨_, rfl, _, rfl, catA_row h2 h1 (by rw [PySem.sizeLine_eq]; omega) fun v1 H1 s1 r1 => ?_⟩
    refine ⟨_, rfl, spUndone_i (h2.same s1) (by omega) fun v2 H2 s2 r2 => ?_⟩
    have ul := undone_len ys
    refine catA_row (r1.same s2) r2 (by rw [PySem.sizeLine_eq, List.length_append]; omega) fun v3 H3 s3 r3 => ?_
    exact spPlain_row r3 (by rw [List.length_append, List.length_append]; omega) fun v4 H4 s4 r4 => q v4 H4 (((s1.trans s2).trans s3).trans s4) r4
/-! ### _law_mk_raw -/
end
end My
namespace My
open PySem PySem.Spec PyProof.Rows L2 SX
theorem Lets.plain {n : Int} {xs : List Int} (h : Lets n xs) : Lets n (My.plain xs) := fun x hx => h x (plain_mem hx)
theorem Lets.app {n : Int} {xs ys : List Int} (h : Lets n xs) (h' : Lets n ys) : Lets n (xs ++ ys) := fun x hx => (List.mem_append.mp hx).elim (h x) (h' x)
theorem Lets.undone {n : Int} {xs : List Int} (h : Lets n xs) : Lets n (My.undone xs) := fun x hx => by
  unfold My.undone at hx
  obtain ⟨y, hy, rfl⟩ := List.mem_map.mp hx
  have := h y (List.mem_reverse.mp hy)
  omega
section
variable {P : Program} {w : World} {K : PySem.W.Frag} {mg : Str → Option Value} {base : Heap}
/-! ### _law_mr_row -/
/-! ### _law_mr_whole, _law_mr_same -/
theorem ok_lwhole (B : Bt mg) (F : Fd K mg "_law_mr_whole" s_l_mr_whole) : Df P w K mg base CX0 1 "_law_mr_whole" ["_law_thing"] spWhole := by
  refine .mk' F sc_l_mr_whole (fun _ _ _ _ _ _ us hl => match us, hl with | [_], _ => rfl) (fun vs H Q E h => ?_) (fun f cdv A outer s H vs Q E hr h => ?_)
  · unfold spWhole at h
    obtain ⟨v, d, rfl, _⟩ := h
    rfl
  · unfold spWhole at h
    obtain ⟨v, d, rfl, hv, q⟩ := h
    refine ⟨_, PSs.nox (pss_one (ps_ret (pe_and (pe_callB call_is (by rfl) B.isinstance boot_isinstance (pa_cons (pv 0) (pa_cons (pe_cls (n := "int") rfl B.int (by decide +kernel)) pa_nil))) (pe_one (pe_not (pe_callB call_is (by rfl) B.isinstance boot_isinstance (pa_cons (pv 0) (pa_cons (pe_cls (n := "bool") rfl B.bool (by decide +kernel)) pa_nil)))))))), ?_⟩
    refine ⟨_, rfl, isi_dv hv (kit_int d) ⟨_, rfl, ?_⟩⟩
    cases d with
    | int i => exact iteT ⟨_, rfl, isi_dv hv (kit_bool _) ⟨_, rfl, q⟩⟩
    | bl b => exact iteT ⟨_, rfl, isi_dv hv (kit_bool _) ⟨_, rfl, q⟩⟩
    | _ => exact iteF q
end
end My
namespace My
open PySem PySem.Spec PyProof.Rows L2 SX
section
variable {P : Program} {w : World} {K : PySem.W.Frag} {mg : Str → Option Value} {base : Heap}
/-! ### _law_mk_bad_deeds -/
/-! ### _law_mk_bad_row -/
end
end My
namespace My
open PySem PySem.Spec PyProof.Rows L2 SX
/-! ### lists of texts, and the empty one -/
section
variable {P : Program} {w : World} {K : PySem.W.Frag} {mg : Str → Option Value} {base : Heap}
/-! ### _law_mr_text -/
/-! ### _law_mr_letter -/
end
end My
namespace My
open PySem PySem.Spec PyProof.Rows L2 SX
section
variable {P : Program} {w : World} {K : PySem.W.Frag} {mg : Str → Option Value} {base : Heap}
/-! ### _law_mr_images_text -/
/-! ### _law_mr_read_row -/
end
end My
namespace My
open PySem PySem.Spec PyProof.Rows L2 SX
section
variable {P : Program} {w : World} {K : PySem.W.Frag} {mg : Str → Option Value} {base : Heap}
end
end My
namespace My
open PySem PySem.Spec PyProof.Rows L2 SX
/-! ### the law's reading of images, sign by sign -/
end My
namespace My
open PySem PySem.Spec PyProof.Rows L2 SX
section
variable {P : Program} {w : World} {K : PySem.W.Frag} {mg : Str → Option Value} {base : Heap}
end
end My
namespace My
open PySem PySem.Spec PyProof.Rows L2 SX
/-- a row with its letters exchanged for images -/
def ren (xss : List (List Int)) (xs : List Int) : List Int := plain (xs.flatMap (img xss))
section
variable {P : Program} {w : World} {K : PySem.W.Frag} {mg : Str → Option Value} {base : Heap}
end
end My
namespace My
open PySem PySem.Spec PyProof.Rows L2 SX
theorem img_lets {n : Nat} {φ : List (List Int)} (h : ∀ xs ∈ φ, Lets n xs) (x : Int) : Lets n (img φ x) := by
  have key (j : Nat) : Lets n (φ.getD j []) := by
    rw [List.getD_eq_getElem?_getD]
    cases e : φ[j]? with
    | none => exact fun x hx => by cases hx
    | some ys => exact h ys (List.mem_of_getElem? e)
  unfold img
  split
  · exact key _
  · exact (key _).undone
section
variable {P : Program} {w : World} {K : PySem.W.Frag} {mg : Str → Option Value} {base : Heap}
end
end My
namespace My
/-! ### plain: the law's reading of images gives texts of rows -/
end My
namespace My
end My
namespace My
/-! ### plain rows: products -/
theorem snoc_or (acc : List Int) : acc = [] ∨ ∃ r z, acc = r ++ [z] := by
  rcases List.eq_nil_or_concat acc with h | ⟨r, z, h⟩
  · exact .inl h
  · exact .inr ⟨r, z, by rw [h, List.concat_eq_append]⟩
theorem step_snoc (r : List Int) (z x : Int) : plainStep (r ++ [z]) x = if z = 0 - x then r else r ++ [z] ++ [x] := by
  unfold plainStep
  rw [List.getLast?_append]
  simp
theorem adj_init {r : List Int} {z : Int} (h : adjOk (r ++ [z]) = true) : adjOk r = true := by
  rw [adj_iff] at h ⊢
  intro k hk
  have := h k (by rw [List.length_append]; omega)
  rw [getD_snoc_lt (by omega), getD_snoc_lt (by omega)] at this
  exact this
theorem plain_adj_id : ∀ (n : Nat) (xs : List Int), xs.length = n → adjOk xs = true → plain xs = xs
  | 0, xs, hn, _ => by rw [List.length_eq_zero_iff.mp hn]; rfl
  | n + 1, xs, hn, h => by
    rcases snoc_or xs with rfl | ⟨r, z, rfl⟩
    · rfl
    · have ih := plain_adj_id n r (by rw [List.length_append] at hn; simpa using hn) (adj_init h)
      rw [plain_snoc, ih]
      rcases snoc_or r with rfl | ⟨r', y, rfl⟩
      · rfl
      · have h2 := (adj_iff _).mp h r'.length (by simp)
        have e1 : (r' ++ [y] ++ [z]).getD r'.length 0 = y := by rw [getD_snoc_lt (by simp), getD_snoc_eq]
        have e2 : (r' ++ [y] ++ [z]).getD (r'.length + 1) 0 = z := by rw [show r'.length + 1 = (r' ++ [y]).length by simp, getD_snoc_eq]
        rw [e1, e2] at h2
        rw [step_snoc, if_neg h2]
theorem plain_id {xs : List Int} (h : adjOk xs = true) : plain xs = xs := plain_adj_id _ xs rfl h
theorem plain_plain (xs : List Int) : plain (plain xs) = plain xs := plain_id (plain_adj xs)
theorem plain_left (xs ys : List Int) : plain (plain xs ++ ys) = plain (xs ++ ys) := by
  rw [plain_foldl, plain_foldl, plain_plain]
theorem plain_right (xs : List Int) : ∀ (n : Nat) (ys : List Int), ys.length = n → plain (xs ++ plain ys) = plain (xs ++ ys)
  | 0, ys, hn => by rw [List.length_eq_zero_iff.mp hn]; rfl
  | n + 1, ys, hn => by
    rcases snoc_or ys with rfl | ⟨ys, y, rfl⟩
    · rfl
    · have ih := plain_right xs n ys (by rw [List.length_append] at hn; simpa using hn)
      rw [plain_snoc, ← List.append_assoc, plain_snoc, ← ih]
      rcases snoc_or (plain ys) with e | ⟨r, z, e⟩
      · rw [e, List.append_nil]
        show plain (xs ++ [y]) = _
        rw [plain_snoc]
      · rw [e, step_snoc]
        by_cases hz : z = 0 - y
        · rw [if_pos hz, ← List.append_assoc, plain_snoc, show y = 0 - z by omega, step_back (plain_adj _)]
        · rw [if_neg hz, ← List.append_assoc, plain_snoc]
theorem plain_app (xs ys : List Int) : plain (plain xs ++ plain ys) = plain (xs ++ ys) := by
  rw [plain_right _ _ _ rfl, plain_left]
theorem undone_app (xs ys : List Int) : undone (xs ++ ys) = undone ys ++ undone xs := by
  unfold undone
  rw [List.reverse_append, List.map_append]
theorem undone_undone (xs : List Int) : undone (undone xs) = xs := by
  unfold undone
  rw [← List.map_reverse, List.reverse_reverse, List.map_map]
  exact (List.map_congr_left fun x _ => by show 0 - (0 - x) = x; omega).trans (List.map_id xs)
theorem plain_undo (xs : List Int) : plain (xs ++ undone xs) = [] := by
  have key : ∀ (n : Nat) (xs : List Int), xs.length = n → plain (xs ++ undone xs) = [] := by
    intro n
    induction n with
    | zero =>
      intro xs hn
      rw [List.length_eq_zero_iff.mp hn]
      rfl
    | succ n ih =>
      intro xs hn
      rcases snoc_or xs with rfl | ⟨r, z, rfl⟩
      · rfl
      · rw [undone_app]
        have e : r ++ [z] ++ (undone [z] ++ undone r) = r ++ [z, 0 - z] ++ undone r := by
          show r ++ [z] ++ ([0 - z] ++ undone r) = _
          simp
        rw [e, plain_pair]
        exact ih r (by rw [List.length_append] at hn; simpa using hn)
  exact key _ xs rfl
/-- two words are one row -/
def Eqv (xs ys : List Int) : Prop := plain xs = plain ys
theorem Eqv.app {a b c d : List Int} (h : Eqv a b) (h' : Eqv c d) : Eqv (a ++ c) (b ++ d) := by
  unfold Eqv at *
  rw [← plain_app a c, ← plain_app b d, h, h']
theorem eqv_plain (xs : List Int) : Eqv (plain xs) xs := plain_plain xs
theorem undone_adj {xs : List Int} (h : adjOk xs = true) : adjOk (undone xs) = true := by
  rw [adj_iff] at h ⊢
  intro k hk
  rw [undone_len] at hk
  have g (j : Nat) (hj : j < xs.length) : (undone xs).getD j 0 = 0 - xs.getD (xs.length - 1 - j) 0 := by
    unfold undone
    rw [List.getD_eq_getElem?_getD, List.getElem?_map, List.getElem?_reverse hj, List.getElem?_eq_getElem (by omega), List.getD_eq_getElem?_getD, List.getElem?_eq_getElem (by omega)]
    rfl
  rw [g k (by omega), g (k + 1) hk]
  have h2 := h (xs.length - 1 - (k + 1)) (by omega)
  rw [show xs.length - 1 - (k + 1) + 1 = xs.length - 1 - k by omega] at h2
  omega
end My
namespace My
/-! ### plain: what rows generate -/
theorem Eqv.refl (xs : List Int) : Eqv xs xs := rfl
theorem Eqv.symm {xs ys : List Int} (h : Eqv xs ys) : Eqv ys xs := Eq.symm h
theorem Eqv.trans {xs ys zs : List Int} (h : Eqv xs ys) (h' : Eqv ys zs) : Eqv xs zs := Eq.trans h h'
theorem undo_left (xs : List Int) : Eqv (undone xs ++ xs) [] := by
  have := plain_undo (undone xs)
  rw [undone_undone] at this
  exact this
theorem Eqv.undone {xs ys : List Int} (h : Eqv xs ys) : Eqv (undone xs) (undone ys) := by
  have h1 : Eqv (My.undone xs ++ (ys ++ My.undone ys)) (My.undone xs) := by
    have := (Eqv.refl (My.undone xs)).app (show Eqv (ys ++ My.undone ys) [] from plain_undo ys)
    rwa [List.append_nil] at this
  have h2 : Eqv (My.undone xs ++ (ys ++ My.undone ys)) (My.undone xs ++ (xs ++ My.undone ys)) := (Eqv.refl _).app (h.symm.app (Eqv.refl _))
  have h3 : Eqv (My.undone xs ++ (xs ++ My.undone ys)) (My.undone ys) := by
    have := (undo_left xs).app (Eqv.refl (My.undone ys))
    rwa [List.nil_append, List.append_assoc] at this
  exact h1.symm.trans (h2.trans h3)
/-- words over images: the letter ±(i+1) stands for the i-th row or for it undone -/
def Gen (xss : List (List Int)) (xs : List Int) : Prop := ∃ w : List Int, Lets (xss.length : Nat) w ∧ Eqv (w.flatMap (img xss)) xs
theorem Gen.eqv {xss : List (List Int)} {xs ys : List Int} (h : Gen xss xs) (e : Eqv xs ys) : Gen xss ys := by
  obtain ⟨w, h1, h2⟩ := h
  exact ⟨w, h1, h2.trans e⟩
theorem Gen.nil (xss : List (List Int)) : Gen xss [] := ⟨[], (fun x h => by cases h), rfl⟩
theorem Gen.app {xss : List (List Int)} {xs ys : List Int} (h : Gen xss xs) (h' : Gen xss ys) : Gen xss (xs ++ ys) := by
  obtain ⟨w, h1, h2⟩ := h
  obtain ⟨v, h3, h4⟩ := h'
  exact ⟨w ++ v, h1.app h3, by rw [List.flatMap_append]; exact h2.app h4⟩
theorem img_neg {xss : List (List Int)} {x : Int} (h : x ≠ 0) : img xss (0 - x) = My.undone (img xss x) := by
  unfold img
  by_cases hx : 0 < x
  · rw [if_pos hx, if_neg (by omega)]
    rw [show 0 - (0 - x) - 1 = x - 1 by omega]
  · rw [if_neg hx, if_pos (by omega), undone_undone]
theorem flat_undone {xss : List (List Int)} : ∀ {w : List Int}, (∀ x ∈ w, x ≠ 0) → (My.undone w).flatMap (img xss) = My.undone (w.flatMap (img xss))
  | [], _ => rfl
  | x :: r, h => by
    have e : My.undone (x :: r) = My.undone r ++ [0 - x] := by
      rw [show x :: r = [x] ++ r from rfl, undone_app]
      rfl
    have h1 : [0 - x].flatMap (img xss) = img xss (0 - x) := by simp
    have h2 : (x :: r).flatMap (img xss) = img xss x ++ r.flatMap (img xss) := by simp
    rw [e, List.flatMap_append, flat_undone fun y hy => h y (by simp [hy]), h1, h2, undone_app, img_neg (h x (by simp))]
theorem Gen.undone {xss : List (List Int)} {xs : List Int} (h : Gen xss xs) : Gen xss (My.undone xs) := by
  obtain ⟨w, h1, h2⟩ := h
  exact ⟨My.undone w, h1.undone, by rw [flat_undone fun x hx => (h1 x hx).2.2]; exact h2.undone⟩
theorem Gen.one {xss : List (List Int)} {x : Int} (h : 0 - (xss.length : Int) ≤ x ∧ x ≤ xss.length ∧ x ≠ 0) : Gen xss (img xss x) :=
  ⟨[x], fun y hy => by rw [List.mem_singleton.mp hy]; exact h, by simp [Eqv]⟩
end My
namespace My
/-! ### plain: drawn renamings generate every letter -/
theorem hom_step {φ : List (List Int)} (acc : List Int) {x : Int} (hx : x ≠ 0) : Eqv ((plainStep acc x).flatMap (img φ)) ((acc ++ [x]).flatMap (img φ)) := by
  rcases snoc_or acc with rfl | ⟨r, z, rfl⟩
  · exact Eqv.refl _
  · rw [step_snoc]
    split
    · rename_i hz
      subst hz
      have h1 : (r ++ [0 - x] ++ [x]).flatMap (img φ) = r.flatMap (img φ) ++ (img φ (0 - x) ++ img φ x) := by simp [List.flatMap_append]
      rw [h1, img_neg hx]
      have := (Eqv.refl (r.flatMap (img φ))).app (undo_left (img φ x))
      rw [List.append_nil] at this
      exact this.symm
    · exact Eqv.refl _
theorem hom_plain {φ : List (List Int)} : ∀ (n : Nat) (xs : List Int), xs.length = n → (∀ x ∈ xs, x ≠ 0) → Eqv ((plain xs).flatMap (img φ)) (xs.flatMap (img φ))
  | 0, xs, hn, _ => by rw [List.length_eq_zero_iff.mp hn]; rfl
  | n + 1, xs, hn, h => by
    rcases snoc_or xs with rfl | ⟨ys, y, rfl⟩
    · rfl
    · have ih := hom_plain (φ := φ) n ys (by rw [List.length_append] at hn; simpa using hn) fun x hx => h x (by simp [hx])
      rw [plain_snoc]
      refine (hom_step (plain ys) (h y (by simp))).trans ?_
      rw [List.flatMap_append, List.flatMap_append]
      exact ih.app (Eqv.refl _)
/-- equal words have equal images -/
theorem Eqv.hom {φ : List (List Int)} {xs ys : List Int} (h : Eqv xs ys) (hx : ∀ x ∈ xs, x ≠ 0) (hy : ∀ y ∈ ys, y ≠ 0) : Eqv (xs.flatMap (img φ)) (ys.flatMap (img φ)) := by
  refine (hom_plain _ xs rfl hx).symm.trans ?_
  rw [show plain xs = plain ys from h]
  exact hom_plain _ ys rfl hy
theorem img_ren {φ xss : List (List Int)} (nx : ∀ xs ∈ xss, ∀ x ∈ xs, x ≠ 0) (y : Int) : Eqv (img (xss.map (My.ren φ)) y) ((img xss y).flatMap (img φ)) := by
  have key (j : Nat) : Eqv ((xss.map (My.ren φ)).getD j []) ((xss.getD j []).flatMap (img φ)) := by
    rw [List.getD_eq_getElem?_getD, List.getD_eq_getElem?_getD, List.getElem?_map]
    cases e : xss[j]? with
    | none => exact Eqv.refl _
    | some ys => exact plain_plain _
  have nz (j : Nat) : ∀ x ∈ xss.getD j [], x ≠ 0 := by
    rw [List.getD_eq_getElem?_getD]
    cases e : xss[j]? with
    | none => exact fun x hx => by cases hx
    | some ys => exact nx ys (List.mem_of_getElem? e)
  unfold img
  split
  · exact key _
  · have := (key (0 - y - 1).toNat).undone
    rwa [← flat_undone (nz _)] at this
theorem img_nz {xss : List (List Int)} (nx : ∀ xs ∈ xss, ∀ x ∈ xs, x ≠ 0) (y : Int) : ∀ x ∈ img xss y, x ≠ 0 := by
  have nz (j : Nat) : ∀ x ∈ xss.getD j [], x ≠ 0 := by
    rw [List.getD_eq_getElem?_getD]
    cases e : xss[j]? with
    | none => exact fun x hx => by cases hx
    | some ys => exact nx ys (List.mem_of_getElem? e)
  unfold img
  split
  · exact nz _
  · intro x hx
    unfold My.undone at hx
    obtain ⟨z, hz, rfl⟩ := List.mem_map.mp hx
    have := nz _ z (List.mem_reverse.mp hz)
    omega
theorem flat_ren {φ xss : List (List Int)} (nx : ∀ xs ∈ xss, ∀ x ∈ xs, x ≠ 0) : ∀ w : List Int, Eqv (w.flatMap (img (xss.map (My.ren φ)))) ((w.flatMap (img xss)).flatMap (img φ))
  | [] => rfl
  | y :: r => by
    rw [List.flatMap_cons, List.flatMap_cons, List.flatMap_append]
    exact (img_ren nx y).app (flat_ren nx r)
end My
namespace My
/-! ### plain: near steps keep what the rows generate -/
theorem goneR_form : ∀ r s : List Int, r.take (goneR r s) = (s.take (goneR r s)).map fun x => 0 - x
  | [], s => by simp [goneR]
  | x :: r, [] => by simp [goneR]
  | x :: r, y :: s => by
    unfold goneR
    split
    · rename_i e
      rw [List.take_succ_cons, List.take_succ_cons, List.map_cons, goneR_form r s, e]
    · rfl
theorem joined_eqv (a b : List Int) : Eqv (joined a b) (a ++ b) := by
  have h0 := gone_le a b
  have h1 : a.drop (a.length - gone a b) = undone (b.take (gone a b)) := by
    have := goneR_form a.reverse b
    rw [List.take_reverse] at this
    have h2 : a.drop (a.length - gone a b) = ((b.take (gone a b)).map fun x => 0 - x).reverse := by
      rw [← List.reverse_reverse (a.drop _)]
      exact congrArg List.reverse this
    rw [h2, ← List.map_reverse]
    rfl
  unfold joined
  have h3 : a ++ b = a.take (a.length - gone a b) ++ ((undone (b.take (gone a b)) ++ b.take (gone a b)) ++ b.drop (gone a b)) := by
    rw [← h1, List.append_assoc, List.take_append_drop, ← List.append_assoc, List.take_append_drop]
  rw [h3]
  have := (Eqv.refl (a.take (a.length - gone a b))).app ((undo_left (b.take (gone a b))).app (Eqv.refl (b.drop (gone a b))))
  rw [List.nil_append] at this
  exact this.symm
theorem near_some {xss : List (List Int)} {s : Step} {r : List Int} (h : near xss = some (s, r)) : ∃ o : Nat, s.1 < xss.length ∧ o < xss.length ∧ o ≠ s.1 ∧ (s.2.1 = (o : Int) + 1 ∨ s.2.1 = 0 - (o : Int) - 1) ∧ nearer xss s.1 s.2.1 s.2.2 = some r := by
  unfold near at h
  obtain ⟨p, hp, h⟩ := List.exists_of_findSome?_eq_some h
  unfold near1 at h
  obtain ⟨o, ho, h⟩ := List.exists_of_findSome?_eq_some h
  unfold near2 at h
  obtain ⟨x, hx, h⟩ := List.exists_of_findSome?_eq_some h
  unfold near3 at h
  obtain ⟨b, hb, h⟩ := List.exists_of_findSome?_eq_some h
  unfold near4 at h
  obtain ⟨r', hr, h⟩ := Option.map_eq_some_iff.mp h
  cases h
  unfold lettersFor at hx
  by_cases e : o = p
  · rw [if_pos e] at hx; cases hx
  · rw [if_neg e] at hx
    exact ⟨o, List.mem_range.mp hp, List.mem_range.mp ho, e, by simpa using hx, hr⟩
theorem nearer_some {xss : List (List Int)} {p : Nat} {x : Int} {b : Bool} {r : List Int} (h : nearer xss p x b = some r) : r = joined (firstOf b (img xss x) (xss.getD p [])) (firstOf b (xss.getD p []) (img xss x)) := by
  unfold nearer at h
  simp only at h
  split at h
  · cases h
  · split at h
    · cases h; rfl
    · cases h
end My
namespace My
/-! ### plain: a joined row is plain -/
theorem adjO_iff {xs : List Int} : adjOk xs = true ↔ ∀ k, k + 1 < xs.length → xs.getD k 0 ≠ 0 - xs.getD (k + 1) 0 := by
  unfold adjOk
  rw [List.all_eq_true]
  constructor
  · intro h k hk
    have := h k (List.mem_range.mpr (by omega))
    simpa using this
  · intro h k hk
    have := h k (by have := List.mem_range.mp hk; omega)
    simpa using this
theorem adj_cons2 {x y : Int} {r : List Int} : adjOk (x :: y :: r) = true ↔ x ≠ 0 - y ∧ adjOk (y :: r) = true := by
  rw [adjO_iff, adjO_iff]
  constructor
  · intro h
    refine ⟨h 0 (by simp), fun k hk => ?_⟩
    exact h (k + 1) (by simp at hk ⊢; omega)
  · rintro ⟨h1, h2⟩ k hk
    cases k with
    | zero => exact h1
    | succ k => exact h2 k (by simp at hk ⊢; omega)
theorem adj_one (x : Int) : adjOk [x] = true := adjO_iff.mpr fun k hk => by simp at hk
theorem adj_nil : adjOk [] = true := rfl
theorem adj_tail {x : Int} {r : List Int} (h : adjOk (x :: r) = true) : adjOk r = true := by
  cases r with
  | nil => rfl
  | cons y r => exact (adj_cons2.mp h).2
theorem adj_drop : ∀ (n : Nat) {xs : List Int}, adjOk xs = true → adjOk (xs.drop n) = true
  | 0, _, h => h
  | n + 1, [], h => h
  | n + 1, x :: r, h => adj_drop n (adj_tail h)
theorem adj_end : ∀ {a : List Int} {z x : Int}, adjOk (a ++ [z] ++ [x]) = true → z ≠ 0 - x
  | [], _, _, h => (adj_cons2.mp h).1
  | _ :: a, z, x, h => adj_end (a := a) (adj_tail h)
theorem adj_rev_app : ∀ (rr s : List Int), adjOk rr.reverse = true → adjOk s = true → (∀ x r y t, rr = x :: r → s = y :: t → x ≠ 0 - y) → adjOk (rr.reverse ++ s) = true
  | [], s, _, h, _ => h
  | x :: r, s, h1, h2, h3 => by
    rw [List.reverse_cons] at h1 ⊢
    rw [List.append_assoc]
    refine adj_rev_app r ([x] ++ s) (adj_init h1) ?_ ?_
    · cases s with
      | nil => exact adj_one x
      | cons y t => exact adj_cons2.mpr ⟨h3 x r y t rfl rfl, h2⟩
    · rintro z r' y t rfl e
      cases e
      rw [List.reverse_cons] at h1
      exact adj_end h1
theorem goneR_stop : ∀ (r s : List Int) (x : Int) (r' : List Int) (y : Int) (t : List Int), r.drop (goneR r s) = x :: r' → s.drop (goneR r s) = y :: t → x ≠ 0 - y
  | [], s, _, _, _, _, h, _ => by simp [goneR] at h
  | x :: r, [], _, _, _, _, _, h => by simp [goneR] at h
  | x :: r, y :: s, _, _, _, _, h1, h2 => by
    unfold goneR at h1 h2
    split at h1
    · rename_i e
      rw [if_pos e] at h2
      exact goneR_stop r s _ _ _ _ h1 h2
    · rename_i e
      rw [if_neg e] at h2
      cases h1
      cases h2
      exact e
theorem joined_adj {a b : List Int} (ha : adjOk a = true) (hb : adjOk b = true) : adjOk (joined a b) = true := by
  have e : a.take (a.length - gone a b) = (a.reverse.drop (gone a b)).reverse := by
    rw [List.drop_reverse, List.reverse_reverse]
  unfold joined
  rw [e]
  refine adj_rev_app _ _ ?_ (adj_drop _ hb) fun x r y t h1 h2 => goneR_stop a.reverse b x r y t h1 h2
  rw [← e]
  have key : ∀ (m : Nat) (xs : List Int), adjOk xs = true → adjOk (xs.take m) = true := fun m xs h => by
    rw [adjO_iff] at h ⊢
    intro k hk
    rw [List.length_take] at hk
    have := h k (by omega)
    rw [List.getD_eq_getElem?_getD, List.getD_eq_getElem?_getD] at this ⊢
    rwa [List.getElem?_take_of_lt (by omega), List.getElem?_take_of_lt (by omega)]
  exact key _ _ ha
/-- its length -/
theorem joined_length (a b : List Int) : (joined a b).length + 2 * gone a b = a.length + b.length := by
  have := gone_le a b
  unfold joined
  rw [List.length_append, List.length_take, List.length_drop]
  omega
end My
namespace My
/-! ### plain: where no near step is left -/
theorem near_none {xss : List (List Int)} (h : near xss = none) {p o : Nat} {x : Int} (b : Bool) (hp : p < xss.length) (ho : o < xss.length) (hne : o ≠ p) (hx : x = (o : Int) + 1 ∨ x = 0 - (o : Int) - 1) : nearer xss p x b = none := by
  unfold near at h
  have h := List.findSome?_eq_none_iff.mp h p (List.mem_range.mpr hp)
  unfold near1 at h
  have h := List.findSome?_eq_none_iff.mp h o (List.mem_range.mpr ho)
  unfold near2 at h
  have h := List.findSome?_eq_none_iff.mp h x (by unfold lettersFor; rw [if_neg hne]; simpa using hx)
  unfold near3 at h
  have h := List.findSome?_eq_none_iff.mp h b (by cases b <;> simp)
  unfold near4 at h
  exact Option.map_eq_none_iff.mp h
/-- N1, and what is known at half -/
theorem nearer_none {xss : List (List Int)} {p : Nat} {x : Int} {b : Bool} (h : nearer xss p x b = none) :
    2 * gone (firstOf b (img xss x) (xss.getD p [])) (firstOf b (xss.getD p []) (img xss x)) ≤ (img xss x).length ∧
    (2 * gone (firstOf b (img xss x) (xss.getD p [])) (firstOf b (xss.getD p []) (img xss x)) = (img xss x).length →
      halvesLt (halves (joined (firstOf b (img xss x) (xss.getD p [])) (firstOf b (xss.getD p []) (img xss x)))) (halves (xss.getD p [])) = false) := by
  unfold nearer at h
  simp only at h
  split at h
  · rename_i h1
    exact ⟨by omega, fun e => absurd e (by omega)⟩
  · split at h
    · cases h
    · rename_i h1 h2
      refine ⟨by omega, fun _ => ?_⟩
      cases e : halvesLt (halves (joined (firstOf b (img xss x) (xss.getD p [])) (firstOf b (xss.getD p []) (img xss x)))) (halves (xss.getD p [])) with
      | false => rfl
      | true => exact absurd (.inr e) h2
theorem undone_length (xs : List Int) : (undone xs).length = xs.length := by simp [undone]
/-- what goes between two rows goes between them undone -/
theorem goneR_comm : ∀ r s : List Int, goneR r s = goneR (s.map fun x => 0 - x) (r.map fun x => 0 - x)
  | [], s => by cases s <;> simp [goneR]
  | x :: r, [] => by simp [goneR]
  | x :: r, y :: s => by
    simp only [List.map_cons, goneR]
    rw [goneR_comm r s]
    by_cases e : x = 0 - y
    · rw [if_pos e, if_pos (by omega)]
    · rw [if_neg e, if_neg (by omega)]
theorem gone_undone (a b : List Int) : gone (undone b) (undone a) = gone a b := by
  unfold gone undone
  rw [goneR_comm a.reverse b, ← List.map_reverse, List.reverse_reverse]
end My
namespace My
/-! ### plain: N1 -/
theorem img_length {xss : List (List Int)} {x : Int} (h : x ≠ 0) : (img xss (0 - x)).length = (img xss x).length := by
  rw [img_neg h, undone_length]
theorem img_pos (xss : List (List Int)) (p : Nat) : img xss ((p : Int) + 1) = xss.getD p [] := by
  unfold img
  rw [if_pos (by omega), show ((p : Int) + 1 - 1).toNat = p by omega]
theorem letter_place {m : Nat} {x : Int} (h : 0 - (m : Int) ≤ x ∧ x ≤ m ∧ x ≠ 0) : ∃ o : Nat, o < m ∧ (x = (o : Int) + 1 ∨ x = 0 - (o : Int) - 1) := by
  by_cases hx : 0 < x
  · exact ⟨(x - 1).toNat, by omega, .inl (by omega)⟩
  · exact ⟨(0 - x - 1).toNat, by omega, .inr (by omega)⟩
/-- two letters of unlike rows: half of the first at most is gone -/
theorem n1_first {xss : List (List Int)} (h : near xss = none) {o p : Nat} {x y : Int} (ho : o < xss.length) (hp : p < xss.length) (hne : o ≠ p) (hx : x = (o : Int) + 1 ∨ x = 0 - (o : Int) - 1) (hy : y = (p : Int) + 1 ∨ y = 0 - (p : Int) - 1) : 2 * gone (img xss x) (img xss y) ≤ (img xss x).length := by
  have x0 : x ≠ 0 := by omega
  rcases hy with rfl | rfl
  · have := (nearer_none (near_none h true hp ho hne hx)).1
    simp only [firstOf, if_true] at this
    rwa [img_pos]
  · have := (nearer_none (near_none (x := 0 - x) h false hp ho hne (by omega))).1
    simp only [firstOf, Bool.false_eq_true, if_false] at this
    rw [img_length x0, img_neg x0] at this
    have e : img xss (0 - (p : Int) - 1) = undone (xss.getD p []) := by
      rw [show 0 - (p : Int) - 1 = 0 - ((p : Int) + 1) by omega, img_neg (by omega), img_pos]
    rw [e, ← gone_undone, undone_undone]
    exact this
/-- N1 -/
theorem n1 {xss : List (List Int)} (h : near xss = none) {o p : Nat} {x y : Int} (ho : o < xss.length) (hp : p < xss.length) (hne : o ≠ p) (hx : x = (o : Int) + 1 ∨ x = 0 - (o : Int) - 1) (hy : y = (p : Int) + 1 ∨ y = 0 - (p : Int) - 1) : 2 * gone (img xss x) (img xss y) ≤ (img xss x).length ∧ 2 * gone (img xss x) (img xss y) ≤ (img xss y).length := by
  have x0 : x ≠ 0 := by omega
  have y0 : y ≠ 0 := by omega
  refine ⟨n1_first h ho hp hne hx hy, ?_⟩
  have := n1_first (x := 0 - y) (y := 0 - x) h hp ho (by omega) (by omega) (by omega)
  rw [img_length y0, img_neg y0, img_neg x0, gone_undone] at this
  exact this
end My
namespace My
/-! ### plain: a row before itself -/
theorem goneR_get : ∀ (r s : List Int) (k : Nat), k < goneR r s → r.getD k 0 = 0 - s.getD k 0
  | [], s, k, h => by simp [goneR] at h
  | x :: r, [], k, h => by simp [goneR] at h
  | x :: r, y :: s, k, h => by
    unfold goneR at h
    split at h
    · rename_i e
      cases k with
      | zero => exact e
      | succ k => exact goneR_get r s k (by omega)
    · omega
theorem getD_reverse {r : List Int} {k : Nat} (h : k < r.length) : r.reverse.getD k 0 = r.getD (r.length - 1 - k) 0 := by
  rw [List.getD_eq_getElem?_getD, List.getD_eq_getElem?_getD, List.getElem?_reverse h]
theorem gone_self {r : List Int} (ha : adjOk r = true) (hz : ∀ x ∈ r, x ≠ 0) (hn : r ≠ []) : 2 * gone r r < r.length := by
  have hl : 0 < r.length := List.length_pos_iff.mpr hn
  by_cases hg : 2 * gone r r < r.length
  · exact hg
  · exfalso
    have key (k : Nat) (h1 : k < gone r r) : r.getD (r.length - 1 - k) 0 = 0 - r.getD k 0 := by
      have := gone_le r r
      rw [← getD_reverse (by omega)]
      exact goneR_get r.reverse r k h1
    rcases Nat.mod_two_eq_zero_or_one r.length with e | e
    · have h1 := key (r.length / 2 - 1) (by omega)
      have h2 := (adjO_iff.mp ha) (r.length / 2 - 1) (by omega)
      rw [show r.length - 1 - (r.length / 2 - 1) = r.length / 2 - 1 + 1 by omega] at h1
      exact h2 (by omega)
    · have h1 := key (r.length / 2) (by omega)
      rw [show r.length - 1 - r.length / 2 = r.length / 2 by omega] at h1
      have h2 : r.length / 2 < r.length := by omega
      have h3 : r.getD (r.length / 2) 0 = r[r.length / 2] := by
        rw [List.getD_eq_getElem?_getD, List.getElem?_eq_getElem h2]
        rfl
      exact hz _ (List.getElem_mem h2) (by rw [h3] at h1; omega)
theorem img_adj {xss : List (List Int)} (h : ∀ xs ∈ xss, adjOk xs = true) (y : Int) : adjOk (img xss y) = true := by
  have key (j : Nat) : adjOk (xss.getD j []) = true := by
    rw [List.getD_eq_getElem?_getD]
    cases e : xss[j]? with
    | none => rfl
    | some ys => exact h ys (List.mem_of_getElem? e)
  unfold img
  split
  · exact key _
  · exact undone_adj (key _)
/-- N1 for all pairs of letters that a plain word can hold side by side -/
theorem n1_all {xss : List (List Int)} (h : near xss = none) (ha : ∀ xs ∈ xss, adjOk xs = true) (nz : ∀ xs ∈ xss, ∀ x ∈ xs, x ≠ 0) {x y : Int} (hx : 0 - (xss.length : Int) ≤ x ∧ x ≤ xss.length ∧ x ≠ 0) (hy : 0 - (xss.length : Int) ≤ y ∧ y ≤ xss.length ∧ y ≠ 0) (hxy : x ≠ 0 - y) : 2 * gone (img xss x) (img xss y) ≤ (img xss x).length ∧ 2 * gone (img xss x) (img xss y) ≤ (img xss y).length := by
  obtain ⟨o, ho, ho'⟩ := letter_place hx
  obtain ⟨p, hp, hp'⟩ := letter_place hy
  by_cases e : o = p
  · subst e
    have : x = y := by omega
    subst this
    by_cases en : img xss x = []
    · rw [en]; simp [gone, goneR]
    · have := gone_self (img_adj ha x) (img_nz nz x) en
      omega
  · exact n1 h ho hp e ho' hp'
end My
namespace My
/-! ### plain: halves -/
theorem lt_tot (a b : List Int) : a < b ∨ a = b ∨ b < a := by
  by_cases h : a < b
  · exact .inl h
  · by_cases h' : b < a
    · exact .inr (.inr h')
    · exact .inr (.inl (List.le_antisymm (List.not_lt.mp h') (List.not_lt.mp h)))
def sorted2 (a b : List Int) : List Int × List Int := if b < a then (b, a) else (a, b)
theorem sorted2_comm (a b : List Int) : sorted2 a b = sorted2 b a := by
  unfold sorted2
  rcases lt_tot a b with h | h | h
  · rw [if_neg (List.not_lt.mpr (List.le_of_lt h)), if_pos h]
  · subst h; rfl
  · rw [if_pos h, if_neg (List.not_lt.mpr (List.le_of_lt h))]
theorem halves_sorted (r : List Int) : halves r = sorted2 (r.take ((r.length + 1) / 2)) ((undone r).take ((r.length + 1) / 2)) := rfl
theorem halves_undone (r : List Int) : halves (undone r) = halves r := by
  rw [halves_sorted, halves_sorted, undone_undone, undone_length, sorted2_comm]
/-- one half stays and the other is less: the halves are less -/
theorem sorted2_lt {a b c : List Int} (h : b < c) : halvesLt (sorted2 a b) (sorted2 a c) = true := by
  have ne : b ≠ c := fun e => by subst e; exact List.lt_irrefl _ h
  unfold sorted2 halvesLt
  by_cases h1 : b < a
  · rw [if_pos h1]
    by_cases h2 : c < a
    · rw [if_pos h2]
      simp only
      rw [if_neg ne]
      exact decide_eq_true h
    · rw [if_neg h2]
      simp only
      rw [if_neg (fun e => by subst e; exact List.lt_irrefl _ h1)]
      exact decide_eq_true h1
  · rw [if_neg h1]
    have h2 : ¬ c < a := fun h2 => h1 (List.lt_trans h h2)
    rw [if_neg h2]
    simp only [if_true]
    exact decide_eq_true h
theorem sorted2_not {a b c : List Int} (h : halvesLt (sorted2 a b) (sorted2 a c) = false) : ¬ b < c := fun h' => by
  rw [sorted2_lt h'] at h
  cases h
end My
namespace My
/-! ### plain: what is known where half is gone -/
theorem undone_take (xs : List Int) (k : Nat) (h : k ≤ xs.length) : (undone xs).take (xs.length - k) = undone (xs.drop k) := by
  have := undone_app (xs.take k) (xs.drop k)
  rw [List.take_append_drop] at this
  rw [this, List.take_append_of_le_length (by rw [undone_length, List.length_drop]; omega), List.take_of_length_le (by rw [undone_length, List.length_drop]; omega)]
theorem undone_drop (xs : List Int) (k : Nat) (h : k ≤ xs.length) : (undone xs).drop k = undone (xs.take (xs.length - k)) := by
  have := undone_app (xs.take (xs.length - k)) (xs.drop (xs.length - k))
  rw [List.take_append_drop] at this
  have l : (undone (xs.drop (xs.length - k))).length = k := by rw [undone_length, List.length_drop]; omega
  rw [this, List.drop_append_of_le_length (by omega), List.drop_of_length_le (by omega), List.nil_append]
theorem joined_undone (a b : List Int) : joined (undone b) (undone a) = undone (joined a b) := by
  have h := gone_le a b
  unfold joined
  rw [gone_undone, undone_app, undone_length, undone_take _ _ h.2, undone_drop _ _ h.1]
theorem half_first {xss : List (List Int)} (h : near xss = none) {o p : Nat} {x y : Int} (ho : o < xss.length) (hp : p < xss.length) (hne : o ≠ p) (hx : x = (o : Int) + 1 ∨ x = 0 - (o : Int) - 1) (hy : y = (p : Int) + 1 ∨ y = 0 - (p : Int) - 1) (hh : 2 * gone (img xss x) (img xss y) = (img xss y).length) : halvesLt (halves (joined (img xss x) (img xss y))) (halves (img xss x)) = false := by
  have y0 : y ≠ 0 := by omega
  rcases hx with rfl | rfl
  · have := (nearer_none (near_none h false ho hp (fun e => hne e.symm) hy)).2
    simp only [firstOf, Bool.false_eq_true, if_false] at this
    rw [img_pos] at hh ⊢
    exact this hh
  · have := (nearer_none (near_none (x := 0 - y) h true ho hp (fun e => hne e.symm) (by omega))).2
    simp only [firstOf, if_true] at this
    have e : img xss (0 - (o : Int) - 1) = undone (xss.getD o []) := by
      rw [show 0 - (o : Int) - 1 = 0 - ((o : Int) + 1) by omega, img_neg (by omega), img_pos]
    rw [img_length y0, img_neg y0] at this
    rw [e] at hh ⊢
    rw [← gone_undone, undone_undone] at hh
    have := this hh
    rw [halves_undone, ← halves_undone (joined _ _), ← joined_undone, undone_undone]
    exact this
theorem half_second {xss : List (List Int)} (h : near xss = none) {o p : Nat} {y z : Int} (ho : o < xss.length) (hp : p < xss.length) (hne : o ≠ p) (hz : z = (o : Int) + 1 ∨ z = 0 - (o : Int) - 1) (hy : y = (p : Int) + 1 ∨ y = 0 - (p : Int) - 1) (hh : 2 * gone (img xss y) (img xss z) = (img xss y).length) : halvesLt (halves (joined (img xss y) (img xss z))) (halves (img xss z)) = false := by
  have y0 : y ≠ 0 := by omega
  have z0 : z ≠ 0 := by omega
  have := half_first (x := 0 - z) (y := 0 - y) h ho hp hne (by omega) (by omega) (by rw [img_length y0, img_neg y0, img_neg z0, gone_undone]; exact hh)
  rw [img_neg y0, img_neg z0, joined_undone, halves_undone, halves_undone] at this
  exact this
end My
namespace My
/-! ### plain: N2, on lists -/
theorem lt_app : ∀ {a b : List Int} (t : List Int), a.length = b.length → a < b → a ++ t < b ++ t
  | [], [], t, _, h => absurd h (List.lt_irrefl _)
  | [], _ :: _, t, e, _ => by simp at e
  | _ :: _, [], t, e, _ => by simp at e
  | x :: a, y :: b, t, e, h => by
    rw [List.cons_append, List.cons_append]
    rcases List.cons_lt_cons_iff.mp h with h | ⟨h1, h2⟩
    · exact List.cons_lt_cons_iff.mpr (.inl h)
    · exact List.cons_lt_cons_iff.mpr (.inr ⟨h1, lt_app t (by simpa using e) h2⟩)
theorem halves_end {a v : List Int} (h : v.length ≤ a.length) : halves (a ++ v) = sorted2 (a.take ((a.length + v.length + 1) / 2)) (undone v ++ (undone a).take ((a.length + v.length + 1) / 2 - v.length)) := by
  have e : (undone v).take ((a.length + v.length + 1) / 2) = undone v := List.take_of_length_le (by rw [undone_length]; omega)
  rw [halves_sorted, undone_app, List.length_append, List.take_append_of_le_length (by omega), List.take_append, undone_length, e]
theorem n2_end {a u v : List Int} (e : u.length = v.length) (h : v.length ≤ a.length) (hh : halvesLt (halves (a ++ v)) (halves (a ++ undone u)) = false) : ¬ undone v < u := by
  intro hlt
  rw [halves_end h, halves_end (by rw [undone_length]; omega), undone_undone, undone_length, e] at hh
  exact sorted2_not hh (lt_app _ (by rw [undone_length]; omega) hlt)
theorem n2_core {a u v c : List Int} (e : u.length = v.length) (h1 : v.length ≤ a.length) (h2 : v.length ≤ c.length)
    (k1 : halvesLt (halves (a ++ v)) (halves (a ++ undone u)) = false) (k2 : halvesLt (halves (u ++ c)) (halves (undone v ++ c)) = false)
    (ha : adjOk (u ++ v) = true) : v = [] := by
  have g1 := n2_end e h1 k1
  have g2 : ¬ u < undone v := by
    rw [← halves_undone (u ++ c), ← halves_undone (undone v ++ c), undone_app, undone_app] at k2
    have := n2_end (a := undone c) (u := undone v) (v := undone u) (by rw [undone_length, undone_length]; omega) (by rw [undone_length, undone_length]; omega) k2
    rwa [undone_undone] at this
  have eu : u = undone v := by
    rcases lt_tot u (undone v) with h | h | h
    · exact absurd h g2
    · exact h
    · exact absurd h g1
  subst eu
  have h3 : plain (undone v ++ v) = plain [] := undo_left v
  rw [plain_id ha] at h3
  exact (List.append_eq_nil_iff.mp h3).2
end My
namespace My
/-! ### plain: N2 -/
theorem gone_form (a b : List Int) : a.drop (a.length - gone a b) = undone (b.take (gone a b)) := by
  have := goneR_form a.reverse b
  rw [List.take_reverse] at this
  have h2 : a.drop (a.length - gone a b) = ((b.take (gone a b)).map fun x => 0 - x).reverse := by
    rw [← List.reverse_reverse (a.drop _)]
    exact congrArg List.reverse this
  rw [h2, ← List.map_reverse]
  rfl
theorem n2_list {X Y Z : List Int} {m : Nat} (g1 : gone X Y = m) (g2 : gone Y Z = m) (hm : Y.length = 2 * m) (hX : 2 * m ≤ X.length) (hZ : 2 * m ≤ Z.length)
    (k1 : halvesLt (halves (joined X Y)) (halves X) = false) (k2 : halvesLt (halves (joined Y Z)) (halves Z) = false) (ha : adjOk Y = true) : m = 0 := by
  have f1 := gone_form X Y
  have f2 := gone_form Y Z
  rw [g1] at f1
  rw [g2, show Y.length - m = m by omega] at f2
  have eX : X = X.take (X.length - m) ++ undone (Y.take m) := by
    rw [← f1, List.take_append_drop]
  have eZ : Z = undone (Y.drop m) ++ Z.drop m := by
    rw [f2, undone_undone, List.take_append_drop]
  have j1 : joined X Y = X.take (X.length - m) ++ Y.drop m := by unfold joined; rw [g1]
  have j2 : joined Y Z = Y.take m ++ Z.drop m := by unfold joined; rw [g2, show Y.length - m = m by omega]
  have k1' : halvesLt (halves (X.take (X.length - m) ++ Y.drop m)) (halves (X.take (X.length - m) ++ undone (Y.take m))) = false := by
    rw [← eX, ← j1]; exact k1
  have k2' : halvesLt (halves (Y.take m ++ Z.drop m)) (halves (undone (Y.drop m) ++ Z.drop m)) = false := by
    rw [← eZ, ← j2]; exact k2
  have := n2_core (by rw [List.length_take, List.length_drop]; omega) (by rw [List.length_take, List.length_drop]; omega) (by rw [List.length_drop, List.length_drop]; omega) k1' k2' (by rw [List.take_append_drop]; exact ha)
  have l := congrArg List.length this
  rw [List.length_drop, List.length_nil] at l
  omega
theorem n2 {xss : List (List Int)} (h : near xss = none) (ha : ∀ xs ∈ xss, adjOk xs = true) (nz : ∀ xs ∈ xss, ∀ x ∈ xs, x ≠ 0) {x y z : Int} (hx : 0 - (xss.length : Int) ≤ x ∧ x ≤ xss.length ∧ x ≠ 0) (hy : 0 - (xss.length : Int) ≤ y ∧ y ≤ xss.length ∧ y ≠ 0) (hz : 0 - (xss.length : Int) ≤ z ∧ z ≤ xss.length ∧ z ≠ 0) (hxy : x ≠ 0 - y) (hyz : y ≠ 0 - z) (hn : img xss y ≠ []) : gone (img xss x) (img xss y) + gone (img xss y) (img xss z) < (img xss y).length := by
  have a1 := n1_all h ha nz hx hy hxy
  have a2 := n1_all h ha nz hy hz hyz
  have hl : 0 < (img xss y).length := List.length_pos_iff.mpr hn
  by_cases hg : gone (img xss x) (img xss y) + gone (img xss y) (img xss z) < (img xss y).length
  · exact hg
  · exfalso
    have s := gone_self (img_adj ha y) (img_nz nz y) hn
    obtain ⟨o, ho, ho'⟩ := letter_place hx
    obtain ⟨p, hp, hp'⟩ := letter_place hy
    obtain ⟨q, hq, hq'⟩ := letter_place hz
    have e1 : o ≠ p := fun e => by
      subst e
      have : x = y := by omega
      subst this
      omega
    have e2 : q ≠ p := fun e => by
      subst e
      have : z = y := by omega
      subst this
      omega
    have k1 := half_first h ho hp e1 ho' hp' (by omega)
    have k2 := half_second h hq hp e2 hq' hp' (by omega)
    have := n2_list (m := gone (img xss x) (img xss y)) rfl (by omega) (by omega) (by omega) (by omega) k1 k2 (img_adj ha y)
    omega
end My
namespace My
/-! ### plain: a plain word of k letters has a product of at least k letters -/
theorem goneR_app : ∀ (t s s' b : List Int), goneR (t ++ s) b < t.length → goneR (t ++ s') b = goneR (t ++ s) b
  | [], s, s', b, h => by simp at h
  | x :: t, s, s', [], h => by simp [goneR]
  | x :: t, s, s', y :: b, h => by
    simp only [List.cons_append, goneR] at h ⊢
    by_cases e : x = 0 - y
    · rw [if_pos e] at h ⊢
      rw [if_pos e, goneR_app t s s' b (by simp at h; omega)]
    · rw [if_neg e, if_neg e]
theorem gone_end {A S T b : List Int} (h : gone (S ++ T) b < T.length) : gone (A ++ T) b = gone (S ++ T) b := by
  unfold gone at h ⊢
  rw [List.reverse_append] at h ⊢
  rw [List.reverse_append]
  exact goneR_app T.reverse S.reverse A.reverse b (by rw [List.length_reverse]; exact h)
theorem long {xss : List (List Int)} (h : near xss = none) (ha : ∀ xs ∈ xss, adjOk xs = true) (nz : ∀ xs ∈ xss, ∀ x ∈ xs, x ≠ 0) :
    ∀ (r : List Int) (x : Int) (A T S : List Int), 0 - (xss.length : Int) ≤ x ∧ x ≤ xss.length ∧ x ≠ 0 → img xss x = S ++ T → adjOk (A ++ T) = true → 0 < T.length →
      (∀ y, 0 - (xss.length : Int) ≤ y ∧ y ≤ xss.length ∧ y ≠ 0 → x ≠ 0 - y → gone (img xss x) (img xss y) < T.length) →
      adjOk (x :: r) = true → Lets (xss.length : Nat) r → (∀ y ∈ r, img xss y ≠ []) →
      ∃ P, adjOk P = true ∧ Eqv P (A ++ T ++ r.flatMap (img xss)) ∧ A.length + r.length + 1 ≤ P.length
  | [], x, A, T, S, hx, e, hP, hT, hg, hr, hl, hn => ⟨A ++ T, hP, by rw [List.flatMap_nil, List.append_nil]; exact Eqv.refl _, by rw [List.length_append, List.length_nil]; omega⟩
  | y :: r, x, A, T, S, hx, e, hP, hT, hg, hr, hl, hn => by
    have hy := hl y (by simp)
    have hxy := (adj_cons2.mp hr).1
    have g1 := hg y hy hxy
    have g2 : gone (A ++ T) (img xss y) = gone (img xss x) (img xss y) := by
      rw [e] at g1 ⊢
      exact gone_end g1
    have hyn := hn y (by simp)
    have hyl : 0 < (img xss y).length := List.length_pos_iff.mpr hyn
    have a1 := (n1_all h ha nz hx hy hxy).2
    have ej : joined (A ++ T) (img xss y) = (A ++ T.take (T.length - gone (img xss x) (img xss y))) ++ (img xss y).drop (gone (img xss x) (img xss y)) := by
      unfold joined
      rw [g2, List.take_append, List.length_append, List.take_of_length_le (by omega), show A.length + T.length - gone (img xss x) (img xss y) - A.length = T.length - gone (img xss x) (img xss y) by omega]
    have jp := joined_adj hP (img_adj ha y)
    have je := joined_eqv (A ++ T) (img xss y)
    rw [ej] at jp je
    obtain ⟨P, p1, p2, p3⟩ := long h ha nz r y (A ++ T.take (T.length - gone (img xss x) (img xss y))) ((img xss y).drop (gone (img xss x) (img xss y))) ((img xss y).take (gone (img xss x) (img xss y))) hy (by rw [List.take_append_drop]) jp (by rw [List.length_drop]; omega)
      (fun z hz hyz => by rw [List.length_drop]; have := n2 h ha nz hx hy hz hxy hyz hyn; omega) (adj_cons2.mp hr).2 (fun z hz => hl z (by simp [hz])) (fun z hz => hn z (by simp [hz]))
    refine ⟨P, p1, p2.trans ?_, ?_⟩
    · rw [List.flatMap_cons, ← List.append_assoc]
      exact je.app (Eqv.refl _)
    · rw [List.length_append, List.length_take] at p3
      rw [List.length_cons]
      omega
end My
namespace My
/-! ### plain: rows that generate every letter and have no near step are single letters -/
end My
namespace My
/-! ### plain: near steps keep rows plain, over the same letters -/
theorem joined_mem {a b : List Int} {y : Int} (h : y ∈ joined a b) : y ∈ a ∨ y ∈ b := by
  unfold joined at h
  rcases List.mem_append.mp h with h | h
  · exact .inl (List.mem_of_mem_take h)
  · exact .inr (List.mem_of_mem_drop h)
theorem getD_row {C : List Int → Prop} (h0 : C []) {xss : List (List Int)} (h : ∀ xs ∈ xss, C xs) (p : Nat) : C (xss.getD p []) := by
  rw [List.getD_eq_getElem?_getD]
  cases e : xss[p]? with
  | none => exact h0
  | some ys => exact h ys (List.mem_of_getElem? e)
theorem near_row {n : Nat} {xss : List (List Int)} {s : Step} {r : List Int} (h : near xss = some (s, r)) (ha : ∀ xs ∈ xss, adjOk xs = true) (hl : ∀ xs ∈ xss, Lets n xs) : adjOk r = true ∧ Lets n r := by
  obtain ⟨o, hp, ho, hne, hx, hn⟩ := near_some h
  have er := nearer_some hn
  have a1 := img_adj ha s.2.1
  have a2 : adjOk (xss.getD s.1 []) = true := getD_row (C := fun xs => adjOk xs = true) rfl ha s.1
  have b1 := img_lets hl s.2.1
  have b2 : Lets n (xss.getD s.1 []) := getD_row (C := Lets n) (fun x hx => by cases hx) hl s.1
  subst er
  unfold firstOf
  split
  · exact ⟨joined_adj a1 a2, fun x hx => (joined_mem hx).elim (b1 x) (b2 x)⟩
  · exact ⟨joined_adj a2 a1, fun x hx => (joined_mem hx).elim (b2 x) (b1 x)⟩
end My
namespace My
/-! ### plain: a near step shortens the row, or keeps its length and lessens its halves -/
theorem firstOf_len (b : Bool) (x y : List Int) : (firstOf b x y).length + (firstOf b y x).length = x.length + y.length := by
  cases b
  · exact Nat.add_comm _ _
  · rfl
theorem nearer_less {xss : List (List Int)} {p : Nat} {x : Int} {b : Bool} {r : List Int} (h : nearer xss p x b = some r) : r.length < (xss.getD p []).length ∨ (r.length = (xss.getD p []).length ∧ halvesLt (halves r) (halves (xss.getD p [])) = true) := by
  have er := nearer_some h
  have l := joined_length (firstOf b (img xss x) (xss.getD p [])) (firstOf b (xss.getD p []) (img xss x))
  rw [firstOf_len, ← er] at l
  unfold nearer at h
  simp only at h
  split at h
  · cases h
  · rename_i h1
    split at h
    · rename_i h2
      rw [← er] at h2
      rcases Nat.lt_or_ge (img xss x).length (2 * gone (firstOf b (img xss x) (xss.getD p [])) (firstOf b (xss.getD p []) (img xss x))) with h3 | h3
      · exact .inl (by omega)
      · exact .inr ⟨by omega, h2.resolve_left (by omega)⟩
    · cases h
theorem near_less {xss : List (List Int)} {s : Step} {r : List Int} (h : near xss = some (s, r)) : s.1 < xss.length ∧ (r.length < (xss.getD s.1 []).length ∨ (r.length = (xss.getD s.1 []).length ∧ halvesLt (halves r) (halves (xss.getD s.1 [])) = true)) := by
  obtain ⟨o, hp, _, _, _, hn⟩ := near_some h
  exact ⟨hp, nearer_less hn⟩
end My
namespace My
/-! ### plain: rows as numbers -/
def d8 (x : Int) : Nat := (if x < 0 then x + 4 else x + 3).toNat
def val8 : List Int → Nat
  | [] => 0
  | x :: r => d8 x * 8 ^ r.length + val8 r
theorem d8_lt {x : Int} (h : 0 - 4 ≤ x ∧ x ≤ 4 ∧ x ≠ 0) : d8 x < 8 := by
  unfold d8
  split <;> omega
theorem d8_mono {x y : Int} (h : 0 - 4 ≤ x ∧ x ≤ 4 ∧ x ≠ 0) (h' : 0 - 4 ≤ y ∧ y ≤ 4 ∧ y ≠ 0) (hl : x < y) : d8 x < d8 y := by
  unfold d8
  split <;> split <;> omega
theorem val8_lt : ∀ {r : List Int}, Lets 4 r → val8 r < 8 ^ r.length
  | [], _ => by simp [val8]
  | x :: r, h => by
    have h1 := d8_lt (h x (by simp))
    have h2 := val8_lt (r := r) fun y hy => h y (by simp [hy])
    have h3 : (d8 x + 1) * 8 ^ r.length ≤ 8 * 8 ^ r.length := Nat.mul_le_mul_right _ (by omega)
    rw [Nat.add_mul, Nat.one_mul] at h3
    rw [val8, List.length_cons, Nat.pow_succ, Nat.mul_comm (8 ^ r.length) 8]
    omega
theorem val8_mono : ∀ {a b : List Int}, a.length = b.length → Lets 4 a → Lets 4 b → a < b → val8 a < val8 b
  | [], [], _, _, _, h => absurd h (List.lt_irrefl _)
  | [], _ :: _, e, _, _, _ => by simp at e
  | _ :: _, [], e, _, _, _ => by simp at e
  | x :: a, y :: b, e, ha, hb, h => by
    have e' : a.length = b.length := by simpa using e
    rw [val8, val8, e']
    rcases List.cons_lt_cons_iff.mp h with h | ⟨h1, h2⟩
    · have h1 := d8_mono (ha x (by simp)) (hb y (by simp)) h
      have h2 := val8_lt (r := a) fun z hz => ha z (by simp [hz])
      rw [e'] at h2
      have h3 : (d8 x + 1) * 8 ^ b.length ≤ d8 y * 8 ^ b.length := Nat.mul_le_mul_right _ h1
      rw [Nat.add_mul, Nat.one_mul] at h3
      omega
    · subst h1
      have := val8_mono e' (fun z hz => ha z (by simp [hz])) (fun z hz => hb z (by simp [hz])) h2
      omega
end My
namespace My
/-! ### plain: what the halves of a row are -/
theorem sorted2_or (a b : List Int) : sorted2 a b = (a, b) ∨ sorted2 a b = (b, a) := by
  unfold sorted2
  split
  · exact .inr rfl
  · exact .inl rfl
theorem take_lets {n : Int} {r : List Int} (h : Lets n r) (k : Nat) : Lets n (r.take k) := fun x hx => h x (List.mem_of_mem_take hx)
theorem halves_or (r : List Int) : halves r = (r.take ((r.length + 1) / 2), (undone r).take ((r.length + 1) / 2)) ∨ halves r = ((undone r).take ((r.length + 1) / 2), r.take ((r.length + 1) / 2)) := by
  rw [halves_sorted]
  exact sorted2_or _ _
theorem halves_len (r : List Int) : (halves r).1.length = (r.length + 1) / 2 ∧ (halves r).2.length = (r.length + 1) / 2 := by
  rcases halves_or r with e | e <;> rw [e] <;> simp only [List.length_take, undone_length] <;> omega
theorem halves_lets {n : Int} {r : List Int} (h : Lets n r) : Lets n (halves r).1 ∧ Lets n (halves r).2 := by
  rcases halves_or r with e | e <;> rw [e]
  · exact ⟨take_lets h _, take_lets h.undone _⟩
  · exact ⟨take_lets h.undone _, take_lets h _⟩
end My
namespace My
/-! ### plain: the rank of a short row -/
theorem lt_of_app {a b t : List Int} (e : a.length = b.length) (h : a ++ t < b ++ t) : a < b := by
  rcases lt_tot a b with h' | h' | h'
  · exact h'
  · subst h'; exact absurd h (List.lt_irrefl _)
  · exact absurd (List.lt_trans h (lt_app t e.symm h')) (List.lt_irrefl _)
theorem half_tail (r : List Int) : ((undone r).take ((r.length + 1) / 2)).drop (r.length - (r.length + 1) / 2) = undone ((r.take ((r.length + 1) / 2)).drop (r.length - (r.length + 1) / 2)) := by
  have l : (r.take ((r.length + 1) / 2)).length = (r.length + 1) / 2 := by rw [List.length_take]; omega
  have h1 := undone_take (r.take ((r.length + 1) / 2)) (r.length - (r.length + 1) / 2) (by omega)
  have h2 := undone_drop r (r.length - (r.length + 1) / 2) (by omega)
  rw [show r.length - (r.length - (r.length + 1) / 2) = (r.length + 1) / 2 by omega] at h2
  rw [← h1, l, ← h2, List.drop_take]
theorem halves_tail (r : List Int) : (halves r).2.drop (r.length - (r.length + 1) / 2) = undone ((halves r).1.drop (r.length - (r.length + 1) / 2)) := by
  rcases halves_or r with e | e <;> rw [e]
  · exact half_tail r
  · simp only
    rw [half_tail, undone_undone]
end My
namespace My
def rankS (r : List Int) : Nat := val8 (halves r).1 * 8 ^ (r.length - (r.length + 1) / 2) + val8 ((halves r).2.take (r.length - (r.length + 1) / 2))
theorem rankS_less {r q : List Int} (e : r.length = q.length) (hr : Lets 4 r) (hq : Lets 4 q) (h : halvesLt (halves r) (halves q) = true) : rankS r < rankS q := by
  have lr := halves_len r
  have lq := halves_len q
  have sr := halves_lets hr
  have sq := halves_lets hq
  have tr := halves_tail r
  have tq := halves_tail q
  unfold rankS
  rw [e] at lr tr ⊢
  have b1 := val8_lt (take_lets sr.2 (q.length - (q.length + 1) / 2))
  rw [List.length_take, lr.2, Nat.min_eq_left (by omega)] at b1
  unfold halvesLt at h
  split at h
  · rename_i e1
    have h := of_decide_eq_true h
    rw [e1] at tr ⊢
    rw [← List.take_append_drop (q.length - (q.length + 1) / 2) (halves r).2, ← List.take_append_drop (q.length - (q.length + 1) / 2) (halves q).2, tr, ← tq] at h
    have := val8_mono (by rw [List.length_take, List.length_take, lr.2, lq.2]) (take_lets sr.2 _) (take_lets sq.2 _) (lt_of_app (by rw [List.length_take, List.length_take, lr.2, lq.2]) h)
    omega
  · have h := val8_mono (by rw [lr.1, lq.1]) sr.1 sq.1 (of_decide_eq_true h)
    have h3 : (val8 (halves r).1 + 1) * 8 ^ (q.length - (q.length + 1) / 2) ≤ val8 (halves q).1 * 8 ^ (q.length - (q.length + 1) / 2) := Nat.mul_le_mul_right _ h
    rw [Nat.add_mul, Nat.one_mul] at h3
    omega
end My
namespace My
theorem rankS_lt {r : List Int} (hr : Lets 4 r) : rankS r < 8 ^ r.length := by
  have lr := halves_len r
  have sr := halves_lets hr
  have b1 := val8_lt (take_lets sr.2 (r.length - (r.length + 1) / 2))
  rw [List.length_take, lr.2, Nat.min_eq_left (by omega)] at b1
  have b2 := val8_lt sr.1
  rw [lr.1] at b2
  unfold rankS
  have h3 : (val8 (halves r).1 + 1) * 8 ^ (r.length - (r.length + 1) / 2) ≤ 8 ^ ((r.length + 1) / 2) * 8 ^ (r.length - (r.length + 1) / 2) := Nat.mul_le_mul_right _ b2
  rw [Nat.add_mul, Nat.one_mul, ← Nat.pow_add, show (r.length + 1) / 2 + (r.length - (r.length + 1) / 2) = r.length by omega] at h3
  omega
end My
namespace My
/-! ### plain: the rank of a long row -/
end My
namespace My
end My
namespace My
/-! ### fewer equations than unknowns -/
def dot : Nat → (Nat → Int) → (Nat → Int) → Int
  | 0, _, _ => 0
  | n + 1, e, c => dot n e c + e n * c n
theorem dot_ext {e e' c c' : Nat → Int} : ∀ {n : Nat}, (∀ k, k < n → e k = e' k) → (∀ k, k < n → c k = c' k) → dot n e c = dot n e' c'
  | 0, _, _ => rfl
  | n + 1, he, hc => by
    unfold dot
    rw [dot_ext (fun k h => he k (by omega)) (fun k h => hc k (by omega)), he n (by omega), hc n (by omega)]
theorem dot_zero {e c : Nat → Int} : ∀ {n : Nat}, (∀ k, k < n → e k * c k = 0) → dot n e c = 0
  | 0, _ => rfl
  | n + 1, h => by
    unfold dot
    rw [dot_zero fun k hk => h k (by omega), h n (by omega)]; rfl
theorem dot_add (e e' c : Nat → Int) : ∀ n : Nat, dot n (fun k => e k + e' k) c = dot n e c + dot n e' c
  | 0 => rfl
  | n + 1 => by
    unfold dot
    rw [dot_add e e' c n, Int.add_mul]; omega
theorem dot_sub (e e' c : Nat → Int) : ∀ n : Nat, dot n (fun k => e k - e' k) c = dot n e c - dot n e' c
  | 0 => rfl
  | n + 1 => by
    unfold dot
    rw [dot_sub e e' c n, Int.sub_mul]; omega
theorem dot_mul (a : Int) (e c : Nat → Int) : ∀ n : Nat, dot n (fun k => a * e k) c = a * dot n e c
  | 0 => by simp [dot]
  | n + 1 => by
    unfold dot
    rw [dot_mul a e c n, Int.mul_add, Int.mul_assoc]
theorem dot_mulr (a : Int) (e c : Nat → Int) : ∀ n : Nat, dot n e (fun k => a * c k) = a * dot n e c
  | 0 => by simp [dot]
  | n + 1 => by
    unfold dot
    rw [dot_mulr a e c n, Int.mul_add, Int.mul_left_comm]
theorem dot_one {e c : Nat → Int} {j : Nat} : ∀ {n : Nat}, j < n → (∀ k, k < n → k ≠ j → e k * c k = 0) → dot n e c = e j * c j
  | 0, h, _ => by omega
  | n + 1, h, hz => by
    unfold dot
    by_cases hj : j = n
    · subst hj
      rw [dot_zero fun k hk => hz k (by omega) (by omega)]; omega
    · rw [dot_one (by omega) fun k hk hkj => hz k (by omega) hkj, hz n (by omega) (by omega)]; omega
theorem dot_unit {c : Nat → Int} {j n : Nat} (h : j < n) : dot n (fun k => if k = j then 1 else 0) c = c j := by
  rw [dot_one h fun k _ hk => by rw [if_neg hk]; omega, if_pos rfl]; omega
theorem lin : ∀ (n : Nat) (eqs : List (Nat → Int)), eqs.length < n → ∃ c : Nat → Int, (∃ k, k < n ∧ c k ≠ 0) ∧ ∀ e ∈ eqs, dot n e c = 0
  | 0, _, h => by omega
  | n + 1, eqs, h => by
    by_cases hz : ∀ e ∈ eqs, e n = 0
    · refine ⟨fun k => if k = n then 1 else 0, ⟨n, by omega, by simp⟩, fun e he => ?_⟩
      refine dot_zero fun k hk => ?_
      by_cases hk' : k = n
      · rw [hk', hz e he]; omega
      · rw [if_neg hk']; omega
    · have ⟨e0, he0, hn0⟩ : ∃ e0, e0 ∈ eqs ∧ e0 n ≠ 0 := by
        refine Classical.byContradiction fun hc => hz fun e he => Classical.byContradiction fun hh => hc ⟨e, he, hh⟩
      obtain ⟨l1, l2, rfl⟩ := List.append_of_mem he0
      obtain ⟨c, ⟨k, hk, hck⟩, hc⟩ := lin n ((l1 ++ l2).map fun e k => e0 n * e k - e n * e0 k) (by simp at h ⊢; omega)
      refine ⟨fun k => if k < n then e0 n * c k else 0 - dot n e0 c, ⟨k, by omega, ?_⟩, fun e he => ?_⟩
      · show (if k < n then _ else _) ≠ _
        rw [if_pos hk]
        exact Int.mul_ne_zero hn0 hck
      · have key : dot (n + 1) e (fun k => if k < n then e0 n * c k else 0 - dot n e0 c) = e0 n * dot n e c - e n * dot n e0 c := by
          show dot n e _ + e n * (if n < n then _ else _) = _
          rw [if_neg (by omega), dot_ext (e' := e) (c' := fun k => e0 n * c k) (fun _ _ => rfl) (fun k hk => if_pos hk), dot_mulr, Int.mul_sub]
          omega
        rw [key]
        have hor : e = e0 ∨ e ∈ l1 ++ l2 := by
          simp at he ⊢
          rcases he with h1 | h1 | h1
          · exact .inr (.inl h1)
          · exact .inl h1
          · exact .inr (.inr h1)
        rcases hor with rfl | hm
        · omega
        · have := hc _ (List.mem_map.mpr ⟨e, hm, rfl⟩)
          rw [dot_sub, dot_mul, dot_mul] at this
          exact this
end My
set_option maxHeartbeats 1000000
namespace My
/-! ### counting -/
noncomputable def tt (p : Prop) : Bool := @decide p (Classical.propDecidable p)
theorem tt_iff {p : Prop} : tt p = true ↔ p := by
  unfold tt
  exact @decide_eq_true_iff p (Classical.propDecidable p)
theorem least {p : Nat → Prop} : ∀ {n : Nat}, p n → ∃ m, m ≤ n ∧ p m ∧ ∀ k, k < m → ¬ p k := by
  intro n
  induction n using Nat.strongRecOn with
  | ind n ih =>
    intro h
    by_cases hk : ∃ k, k < n ∧ p k
    · obtain ⟨k, hkn, hpk⟩ := hk
      obtain ⟨m, hm, r⟩ := ih k hkn hpk
      exact ⟨m, by omega, r⟩
    · exact ⟨n, by omega, h, fun k hkn hpk => hk ⟨k, hkn, hpk⟩⟩
theorem pig {α : Type} : ∀ {l1 l2 : List α}, l1.Nodup → (∀ a ∈ l1, a ∈ l2) → l2.length ≤ l1.length → ∀ b ∈ l2, b ∈ l1
  | [], l2, _, _, h3, b, hb => by
    have : l2 = [] := List.length_eq_zero_iff.mp (by simpa using h3)
    rw [this] at hb; exact hb
  | a :: t, l2, h1, h2, h3, b, hb => by
    obtain ⟨s, u, rfl⟩ := List.append_of_mem (h2 a (by simp))
    rw [List.nodup_cons] at h1
    have ih := pig (l1 := t) (l2 := s ++ u) h1.2 (fun c hc => by
      have := h2 c (by simp [hc])
      simp at this ⊢
      rcases this with h | rfl | h
      · exact .inl h
      · exact absurd hc h1.1
      · exact .inr h) (by simp at h3 ⊢; omega)
    simp at hb ⊢
    rcases hb with h | h | h
    · exact .inr (ih b (by simp [h]))
    · exact .inl h
    · exact .inr (ih b (by simp [h]))
theorem filter_le {α : Type} {p q : α → Bool} : ∀ {l : List α}, (∀ a ∈ l, p a = true → q a = true) → (l.filter p).length ≤ (l.filter q).length
  | [], _ => by simp
  | a :: t, h => by
    have ih := filter_le (l := t) fun b hb => h b (by simp [hb])
    rw [List.filter_cons, List.filter_cons]
    by_cases hp : p a = true
    · rw [if_pos hp, if_pos (h a (by simp) hp)]; simpa using ih
    · rw [if_neg hp]
      split
      · simp; omega
      · exact ih
theorem filter_lt {α : Type} {p q : α → Bool} : ∀ {l : List α} {c : α}, (∀ a ∈ l, p a = true → q a = true) → c ∈ l → q c = true → p c ≠ true → (l.filter p).length < (l.filter q).length
  | [], c, _, hc, _, _ => by cases hc
  | a :: t, c, h, hc, hq, hp => by
    have hle := filter_le (l := t) fun b hb => h b (by simp [hb])
    rw [List.filter_cons, List.filter_cons]
    by_cases hpa : p a = true
    · rw [if_pos hpa, if_pos (h a (by simp) hpa)]
      have : c ∈ t := by
        rcases List.mem_cons.mp hc with rfl | h'
        · exact absurd hpa hp
        · exact h'
      have ih := filter_lt (l := t) (fun b hb => h b (by simp [hb])) this hq hp
      simpa using ih
    · rw [if_neg hpa]
      by_cases hqa : q a = true
      · rw [if_pos hqa]; simp; omega
      · rw [if_neg hqa]
        have : c ∈ t := by
          rcases List.mem_cons.mp hc with rfl | h'
          · exact absurd hq hqa
          · exact h'
        exact filter_lt (fun b hb => h b (by simp [hb])) this hq hp
theorem filter_not_len {α : Type} (p : α → Bool) : ∀ l : List α, (l.filter p).length + (l.filter fun a => !p a).length = l.length
  | [] => rfl
  | a :: t => by
    have := filter_not_len p t
    rw [List.filter_cons, List.filter_cons]
    cases hp : p a <;> simp [hp] <;> omega
theorem filter_eq_not {α : Type} {p q : α → Bool} {l : List α} (h : ∀ a ∈ l, q a = !p a) : (l.filter p).length + (l.filter q).length = l.length := by
  rw [show l.filter q = l.filter (fun a => !p a) from List.filter_congr h]
  exact filter_not_len p l
/-! ### orders of the places of a ring -/
def Comp (z r : Nat → Int) : Prop := ∀ i j, (z i = z j → (r i < r j ↔ r (i + 1) < r (j + 1))) ∧ (z i = - z j → (r i < r (j + 1) ↔ r (i + 1) < r j))
def par (z r : Nat → Int) (i j : Nat) : Prop := z i = z j ∧ r i = r j
def anti (z r : Nat → Int) (i j : Nat) : Prop := z i = - z j ∧ r i = r (j + 1)
def edg (z r : Nat → Int) (i j : Nat) : Prop := par z r i j ∨ anti z r i j
structure Ring (d : Nat) (z : Nat → Int) : Prop where
  pos : 0 < d
  per : ∀ i, z (i + d) = z i
  nz : ∀ i, z i ≠ 0
  red : ∀ i, z (i + 1) ≠ - z i
theorem Comp.par {z r : Nat → Int} (c : Comp z r) {i j : Nat} (h : par z r i j) : r (i + 1) = r (j + 1) := by
  have h1 := (c i j).1 h.1
  have h2 := (c j i).1 h.1.symm
  have := h.2
  omega
theorem Comp.anti {z r : Nat → Int} (c : Comp z r) {i j : Nat} (h : anti z r i j) : r (i + 1) = r j := by
  have h1 := (c i j).2 h.1
  have h2 := (c j i).2 (by have := h.1; omega)
  have := h.2
  omega
theorem edg.symm {z r : Nat → Int} (c : Comp z r) {i j : Nat} (h : edg z r i j) : edg z r j i := by
  rcases h with h | h
  · exact .inl ⟨h.1.symm, h.2.symm⟩
  · exact .inr ⟨by have := h.1; omega, (c.anti h).symm⟩
theorem edg.trans {z r : Nat → Int} (c : Comp z r) {i j k : Nat} (h : edg z r i j) (h' : edg z r j k) : edg z r i k := by
  rcases h with h | h <;> rcases h' with h' | h'
  · exact .inl ⟨h.1.trans h'.1, h.2.trans h'.2⟩
  · exact .inr ⟨h.1.trans h'.1, h.2.trans h'.2⟩
  · exact .inr ⟨by have := h.1; have := h'.1; omega, by rw [h.2]; exact c.par h'⟩
  · exact .inl ⟨by have := h.1; have := h'.1; omega, by rw [h.2]; exact c.anti h'⟩
theorem per_mul {d : Nat} {z : Nat → Int} (h : ∀ i, z (i + d) = z i) : ∀ k i, z (i + d * k) = z i
  | 0, i => rfl
  | k + 1, i => by rw [Nat.mul_succ, ← Nat.add_assoc, h, per_mul h k]
theorem per_mod {d : Nat} {z : Nat → Int} (h : ∀ i, z (i + d) = z i) (i : Nat) : z (i % d) = z i := by
  rw [← per_mul h (i / d) (i % d), Nat.mod_add_div]
end My
namespace My
def firstV (r : Nat → Int) (k : Nat) : Prop := ∀ k', k' < k → r k' ≠ r k
def firstE (z r : Nat → Int) (k : Nat) : Prop := ∀ k', k' < k → ¬ edg z r k k'
def Prim (d : Nat) (z : Nat → Int) : Prop := ∀ k, (∀ i, z (i + k) = z i) → d ∣ k
section
variable {d : Nat} {z r : Nat → Int} (R : Ring d z) (c : Comp z r) (pr : ∀ i, r (i + d) = r i)
include R c pr
theorem vrep (i : Nat) : ∃ f, f < d ∧ r f = r i ∧ firstV r f := by
  obtain ⟨m, hm, h1, h2⟩ := least (p := fun k => r k = r i) (n := i % d) (per_mod pr i)
  exact ⟨m, by have := Nat.mod_lt i R.pos; omega, h1, fun k hk e => h2 k hk (e.trans h1)⟩
theorem erep (i : Nat) : ∃ f, f < d ∧ edg z r i f ∧ firstE z r f := by
  obtain ⟨m, hm, h1, h2⟩ := least (p := fun k => edg z r i k) (n := i % d) (.inl ⟨(per_mod R.per i).symm, (per_mod pr i).symm⟩)
  exact ⟨m, by have := Nat.mod_lt i R.pos; omega, h1, fun k hk e => h2 k hk (h1.trans c e)⟩
theorem firstV_eq {f g : Nat} (h : firstV r f) (h' : firstV r g) (e : r f = r g) : f = g := by
  rcases Nat.lt_trichotomy f g with l | l | l
  · exact absurd e (h' f l)
  · exact l
  · exact absurd e.symm (h g l)
theorem firstE_eq {f g : Nat} (h : firstE z r f) (h' : firstE z r g) (e : edg z r f g) : f = g := by
  rcases Nat.lt_trichotomy f g with l | l | l
  · exact absurd (e.symm c) (h' f l)
  · exact l
  · exact absurd e (h g l)
theorem par_run {a b : Nat} (h2 : ∀ a b, r a = r b → z a = z b ∨ z a = - z (b + d - 1)) (h : par z r a b) : ∀ t, par z r (a + t) (b + t)
  | 0 => h
  | t + 1 => by
    have ih := par_run h2 h t
    have e := c.par ih
    refine ⟨?_, e⟩
    rcases h2 _ _ e with h3 | h3
    · exact h3
    · have hp := R.pos
      rw [show b + t + 1 + d - 1 = b + t + d by omega, R.per, ← ih.1] at h3
      exact absurd h3 (R.red _)
theorem anti_run {a j0 : Nat} (h2 : ∀ a b, r a = r b → z a = z b ∨ z a = - z (b + d - 1)) (h : anti z r a j0) : ∀ t s, t + s = j0 → anti z r (a + t) s
  | 0, s, e => by rw [show s = j0 by omega]; exact h
  | t + 1, s, e => by
    have ih := anti_run h2 h t (s + 1) (by omega)
    have e1 := c.anti ih
    refine ⟨?_, e1⟩
    rcases h2 _ _ e1 with h3 | h3
    · have := ih.1
      exact absurd (show z (a + t + 1) = - z (a + t) by omega) (R.red _)
    · have hp := R.pos
      rw [show s + 1 + d - 1 = s + d by omega, R.per] at h3
      exact h3
theorem no_anti {a j0 : Nat} (h2 : ∀ a b, r a = r b → z a = z b ∨ z a = - z (b + d - 1)) (h : anti z r a j0) : False := by
  have h' : anti z r a (j0 + d * a) := ⟨by rw [per_mul R.per]; exact h.1, by rw [show j0 + d * a + 1 = j0 + 1 + d * a by omega, per_mul pr]; exact h.2⟩
  have hp := R.pos
  have hge : a ≤ d * a := Nat.le_mul_of_pos_left a hp
  have hj : a ≤ j0 + d * a := by omega
  generalize j0 + d * a = j at h' hj
  have run := anti_run R c pr h2 h'
  rcases Nat.mod_two_eq_zero_or_one (j - a) with e | e
  · have h3 := (run ((j - a) / 2) (a + (j - a) / 2) (by omega)).1
    have := R.nz (a + (j - a) / 2)
    omega
  · have h3 := (run ((j - a) / 2) (a + (j - a) / 2 + 1) (by omega)).1
    exact R.red (a + (j - a) / 2) (by omega)
theorem deg2_inj (h2 : ∀ a b, r a = r b → z a = z b ∨ z a = - z (b + d - 1)) (hp : Prim d z) {a b : Nat} (e : r a = r b) : a % d = b % d := by
  have hd := R.pos
  rcases h2 a b e with h | h
  · have main : ∀ a b : Nat, a ≤ b → r a = r b → z a = z b → a % d = b % d := by
      intro a b hab e h
      have run := par_run R c pr h2 ⟨h, e⟩
      have hk : d ∣ (b - a) := hp _ fun i => by
        have hge : a ≤ d * a := Nat.le_mul_of_pos_left a hd
        have h3 := (run (i + d * a - a)).1
        rw [show a + (i + d * a - a) = i + d * a by omega, show b + (i + d * a - a) = i + (b - a) + d * a by omega, per_mul R.per, per_mul R.per] at h3
        exact h3.symm
      obtain ⟨m, hm⟩ := hk
      rw [show b = a + d * m by omega, Nat.add_mul_mod_self_left]
    rcases Nat.le_total a b with l | l
    · exact main a b l e h
    · exact (main b a l e.symm h.symm).symm
  · exact (no_anti R c pr h2 (a := a) (j0 := b + d - 1) ⟨h, by rw [show b + d - 1 + 1 = b + d by omega, pr]; exact e⟩).elim
/-- directed edges -/
theorem count (hp : Prim d z) {a0 b0 : Nat} (hab : r a0 = r b0) (hne : a0 % d ≠ b0 % d) :
    ((List.range d).filter fun k => tt (firstV r k)).length < ((List.range d).filter fun k => tt (firstE z r k)).length := by
  refine Classical.byContradiction fun hc => hne (deg2_inj R c pr ?_ hp hab)
  have hd := R.pos
  obtain ⟨vr, hv⟩ := Classical.axiomOfChoice (vrep R c pr)
  let L1 : List (Nat × Int) := ((List.range d).filter fun k => tt (firstV r k)).flatMap fun k => [(k, z k), (k, - z (k + d - 1))]
  let L2 : List (Nat × Int) := ((List.range d).filter fun k => tt (firstE z r k)).flatMap fun k => [(vr k, z k), (vr (k + 1), - z k)]
  have veq : ∀ {i j : Nat}, r i = r j → vr i = vr j := fun {i j} e =>
    firstV_eq R c pr (hv i).2.2 (hv j).2.2 (by rw [(hv i).2.1, (hv j).2.1, e])
  have cov : ∀ i, (vr i, z i) ∈ L2 ∧ (vr (i + 1), - z i) ∈ L2 := by
    intro i
    obtain ⟨f, hf, he, hfe⟩ := erep R c pr i
    have hm : f ∈ (List.range d).filter fun k => tt (firstE z r k) := List.mem_filter.mpr ⟨List.mem_range.mpr hf, tt_iff.mpr hfe⟩
    rcases he with he | he
    · refine ⟨List.mem_flatMap.mpr ⟨f, hm, ?_⟩, List.mem_flatMap.mpr ⟨f, hm, ?_⟩⟩
      · rw [veq he.2, he.1]; simp
      · rw [veq (c.par he), he.1]; simp
    · refine ⟨List.mem_flatMap.mpr ⟨f, hm, ?_⟩, List.mem_flatMap.mpr ⟨f, hm, ?_⟩⟩
      · rw [veq he.2, he.1]; simp
      · rw [veq (c.anti he), he.1]; simp
  have vr_first : ∀ {k : Nat}, firstV r k → vr k = k := fun {k} h => firstV_eq R c pr (hv k).2.2 h (hv k).2.1
  have sub : ∀ x ∈ L1, x ∈ L2 := by
    intro x hx
    obtain ⟨k, hk, hx⟩ := List.mem_flatMap.mp hx
    have hk' := List.mem_filter.mp hk
    have e := vr_first (tt_iff.mp hk'.2)
    simp at hx
    rcases hx with rfl | rfl
    · have := (cov k).1
      rwa [e] at this
    · have := (cov (k + d - 1)).2
      rwa [show k + d - 1 + 1 = k + d by omega, veq (pr k), e] at this
  have nd : L1.Nodup := by
    refine List.pairwise_flatMap.mpr ⟨fun k _ => ?_, ?_⟩
    · simp
      have h := R.red (k + d - 1)
      rw [show k + d - 1 + 1 = k + d by omega, R.per] at h
      exact h
    · refine List.Pairwise.imp ?_ (List.Pairwise.filter _ (List.nodup_range (n := d)))
      intro k k' hkk x hx y hy e
      simp at hx hy
      have h1 : x.1 = k := by rcases hx with rfl | rfl <;> rfl
      have h2 : y.1 = k' := by rcases hy with rfl | rfl <;> rfl
      exact hkk (by rw [← h1, ← h2, e])
  have len1 : L1.length = 2 * ((List.range d).filter fun k => tt (firstV r k)).length := by
    show (List.flatMap _ _).length = _
    rw [List.length_flatMap]
    generalize (List.range d).filter _ = l
    induction l with
    | nil => rfl
    | cons a t ih => simp [List.map_cons, List.sum_cons] at ih ⊢; omega
  have len2 : L2.length = 2 * ((List.range d).filter fun k => tt (firstE z r k)).length := by
    show (List.flatMap _ _).length = _
    rw [List.length_flatMap]
    generalize (List.range d).filter _ = l
    induction l with
    | nil => rfl
    | cons a t ih => simp [List.map_cons, List.sum_cons] at ih ⊢; omega
  have back := pig nd sub (by omega)
  have two : ∀ i k, vr i = k → ∀ s, (vr i, s) ∈ L2 → s = z k ∨ s = - z (k + d - 1) := by
    intro i k hik s hs
    have := back _ hs
    obtain ⟨k', hk', hx⟩ := List.mem_flatMap.mp this
    simp at hx
    rcases hx with ⟨h1, h2⟩ | ⟨h1, h2⟩
    · left; rw [h2, ← h1, hik]
    · right; rw [h2, ← h1, hik]
  intro a b e
  have ha := two a (vr a) rfl _ (cov a).1
  have hb := two b (vr a) (veq e.symm) _ (cov b).1
  have hb' := two (b + d - 1 + 1) (vr a) (by rw [show b + d - 1 + 1 = b + d by omega, veq (pr b), veq e]) _ (cov (b + d - 1)).2
  have hred := R.red (b + d - 1)
  rw [show b + d - 1 + 1 = b + d by omega, R.per] at hred
  omega
end
end My
namespace My
theorem lex {a b x y M : Int} (h1 : -M < x) (h2 : x < M) (h3 : -M < y) (h4 : y < M) : a * (2 * M) + x < b * (2 * M) + y ↔ a < b ∨ (a = b ∧ x < y) := by
  have hM : 0 ≤ 2 * M := by omega
  rcases Int.lt_trichotomy a b with h | h | h
  · have := Int.mul_le_mul_of_nonneg_right (show a + 1 ≤ b by omega) hM
    rw [Int.add_mul] at this
    omega
  · subst h; omega
  · have := Int.mul_le_mul_of_nonneg_right (show b + 1 ≤ a by omega) hM
    rw [Int.add_mul] at this
    omega
theorem bounded (c : Nat → Int) : ∀ d : Nat, ∃ M : Int, ∀ k, k < d → -M < c k ∧ c k < M
  | 0 => ⟨1, fun k h => by omega⟩
  | d + 1 => by
    obtain ⟨M, hM⟩ := bounded c d
    refine ⟨M.natAbs + (c d).natAbs + 1, fun k hk => ?_⟩
    by_cases h : k = d
    · subst h; omega
    · have := hM k (by omega); omega
section
variable {d : Nat} {z r : Nat → Int} (R : Ring d z) (c : Comp z r) (pr : ∀ i, r (i + d) = r i)
include R c pr
theorem refine1 (hp : Prim d z) {a0 b0 : Nat} (hab : r a0 = r b0) (hne : a0 % d ≠ b0 % d) :
    ∃ r' : Nat → Int, (∀ i, r' (i + d) = r' i) ∧ Comp z r' ∧ (∀ i j, r' i = r' j → r i = r j) ∧ ∃ k k', k < d ∧ k' < d ∧ r k = r k' ∧ r' k ≠ r' k' := by
  have hd := R.pos
  have hcount := count R c pr hp hab hne
  obtain ⟨er, he⟩ := Classical.axiomOfChoice (erep R c pr)
  let sg : Nat → Int := fun k => if tt (par z r k (er k)) then 1 else -1
  let eqE : Nat → Nat → Int := fun k t => ((if t = (k + 1) % d then 1 else 0) - (if t = k then 1 else 0)) - sg k * ((if t = (er k + 1) % d then 1 else 0) - (if t = er k then 1 else 0))
  let A : List (Nat → Int) := ((List.range d).filter fun k => tt (firstV r k)).map fun k t => if t = k then 1 else 0
  let B : List (Nat → Int) := ((List.range d).filter fun k => !tt (firstE z r k)).map eqE
  have hlen : (A ++ B).length < d := by
    have h1 := filter_not_len (fun k => tt (firstE z r k)) (List.range d)
    rw [List.length_range] at h1
    have h2 : A.length = ((List.range d).filter fun k => tt (firstV r k)).length := List.length_map _
    have h3 : B.length = ((List.range d).filter fun k => !tt (firstE z r k)).length := List.length_map _
    rw [List.length_append]; omega
  obtain ⟨u, ⟨k0, hk0, hu0⟩, hu⟩ := lin d (A ++ B) hlen
  have hA : ∀ k, k < d → firstV r k → u k = 0 := by
    intro k hk hf
    have := hu _ (List.mem_append_left _ (List.mem_map.mpr ⟨k, List.mem_filter.mpr ⟨List.mem_range.mpr hk, tt_iff.mpr hf⟩, rfl⟩))
    rwa [dot_unit hk] at this
  have hB : ∀ k, k < d → (u ((k + 1) % d) - u k) - sg k * (u ((er k + 1) % d) - u (er k)) = 0 := by
    intro k hk
    by_cases hf : firstE z r k
    · have e : er k = k := firstE_eq R c pr (he k).2.2 hf ((he k).2.1.symm c)
      have hs : sg k = 1 := by
        show (if tt (par z r k (er k)) then (1 : Int) else -1) = 1
        rw [e, if_pos (tt_iff.mpr ⟨rfl, rfl⟩)]
      rw [hs, e]; omega
    · have := hu _ (List.mem_append_right _ (List.mem_map.mpr ⟨k, List.mem_filter.mpr ⟨List.mem_range.mpr hk, by
        have : tt (firstE z r k) ≠ true := fun h => hf (tt_iff.mp h)
        simp [this]⟩, rfl⟩))
      have e : dot d (eqE k) u = (u ((k + 1) % d) - u k) - sg k * (u ((er k + 1) % d) - u (er k)) := by
        show dot d (fun t => ((if t = (k + 1) % d then 1 else 0) - (if t = k then 1 else 0)) - sg k * ((if t = (er k + 1) % d then 1 else 0) - (if t = er k then 1 else 0))) u = _
        rw [dot_sub, dot_sub, dot_mul, dot_sub, dot_unit (Nat.mod_lt _ hd), dot_unit hk, dot_unit (Nat.mod_lt _ hd), dot_unit (he k).1]
      rw [← e]; exact this
  let h : Nat → Int := fun i => u (i % d)
  have hper : ∀ i, h (i + d) = h i := fun i => by show u _ = u _; rw [Nat.add_mod_right]
  have hmod : ∀ i, h (i % d + 1) = h (i + 1) := fun i => by show u _ = u _; rw [Nat.mod_add_mod]
  have hmod0 : ∀ i, h (i % d) = h i := fun i => by show u _ = u _; rw [Nat.mod_mod]
  have step : ∀ i, ∃ f, firstE z r f ∧ ((par z r i f ∧ h (i + 1) - h i = h (f + 1) - h f) ∨ (anti z r i f ∧ h (i + 1) - h i = -(h (f + 1) - h f))) := by
    intro i
    have hk := Nat.mod_lt i hd
    have e := hB (i % d) hk
    have hi := he (i % d)
    have e1 : h (i + 1) = u ((i % d + 1) % d) := (hmod i).symm
    have e2 : h i = u (i % d) := rfl
    have e3 : h (er (i % d) + 1) = u ((er (i % d) + 1) % d) := rfl
    have e4 : h (er (i % d)) = u (er (i % d)) := by show u _ = u _; rw [Nat.mod_eq_of_lt hi.1]
    have pi : par z r i (i % d) := ⟨(per_mod R.per i).symm, (per_mod pr i).symm⟩
    refine ⟨er (i % d), hi.2.2, ?_⟩
    by_cases hpar : par z r (i % d) (er (i % d))
    · have hs : sg (i % d) = 1 := if_pos (tt_iff.mpr hpar)
      rw [hs] at e
      exact .inl ⟨⟨pi.1.trans hpar.1, pi.2.trans hpar.2⟩, by omega⟩
    · have hs : sg (i % d) = -1 := if_neg fun hh => hpar (tt_iff.mp hh)
      rw [hs] at e
      rcases hi.2.1 with h' | h'
      · exact absurd h' hpar
      · exact .inr ⟨⟨pi.1.trans h'.1, pi.2.trans h'.2⟩, by omega⟩
  have same : ∀ i j, (par z r i j → h (i + 1) - h i = h (j + 1) - h j) ∧ (anti z r i j → h (i + 1) - h i = -(h (j + 1) - h j)) := by
    intro i j
    obtain ⟨f, hf, hi⟩ := step i
    obtain ⟨g, hg, hj⟩ := step j
    have key : edg z r i j → f = g := fun e => by
      have h1 : edg z r i f := hi.elim (fun q => .inl q.1) (fun q => .inr q.1)
      have h2 : edg z r j g := hj.elim (fun q => .inl q.1) (fun q => .inr q.1)
      exact firstE_eq R c pr hf hg (((h1.symm c).trans c e).trans c h2)
    have n1 := R.nz i
    have n2 := R.nz j
    constructor
    · intro e
      have := key (.inl e); subst this
      have e1 := e.1
      rcases hi with ⟨h1, h2⟩ | ⟨h1, h2⟩ <;> rcases hj with ⟨h3, h4⟩ | ⟨h3, h4⟩ <;> have e2 := h1.1 <;> have e3 := h3.1 <;> omega
    · intro e
      have := key (.inr e); subst this
      have e1 := e.1
      rcases hi with ⟨h1, h2⟩ | ⟨h1, h2⟩ <;> rcases hj with ⟨h3, h4⟩ | ⟨h3, h4⟩ <;> have e2 := h1.1 <;> have e3 := h3.1 <;> omega
  obtain ⟨M, hM⟩ := bounded u d
  have hb : ∀ i, -M < h i ∧ h i < M := fun i => hM _ (Nat.mod_lt i hd)
  have hlex : ∀ i j, r i * (2 * M) + h i < r j * (2 * M) + h j ↔ r i < r j ∨ (r i = r j ∧ h i < h j) := fun i j => lex (hb i).1 (hb i).2 (hb j).1 (hb j).2
  refine ⟨fun i => r i * (2 * M) + h i, fun i => by show r (i + d) * _ + h (i + d) = _; rw [pr, hper], ?_, ?_, ?_⟩
  · intro i j
    refine ⟨fun e => ?_, fun e => ?_⟩
    · rw [hlex, hlex]
      have h1 := (c i j).1 e
      have h2 := (c j i).1 e.symm
      have h3 : r i = r j → h (i + 1) - h i = h (j + 1) - h j := fun er => (same i j).1 ⟨e, er⟩
      constructor
      · rintro (hh | ⟨hh, hl⟩)
        · exact .inl (h1.mp hh)
        · have := h3 hh; exact .inr ⟨by omega, by omega⟩
      · rintro (hh | ⟨hh, hl⟩)
        · exact .inl (h1.mpr hh)
        · have e' : r i = r j := by omega
          have := h3 e'; exact .inr ⟨e', by omega⟩
    · rw [hlex, hlex]
      have h1 := (c i j).2 e
      have h2 := (c j i).2 (by omega)
      have h3 : r i = r (j + 1) → h (i + 1) - h i = -(h (j + 1) - h j) := fun er => (same i j).2 ⟨e, er⟩
      constructor
      · rintro (hh | ⟨hh, hl⟩)
        · exact .inl (h1.mp hh)
        · have := h3 hh; exact .inr ⟨by omega, by omega⟩
      · rintro (hh | ⟨hh, hl⟩)
        · exact .inl (h1.mpr hh)
        · have e' : r i = r (j + 1) := by omega
          have := h3 e'; exact .inr ⟨e', by omega⟩
  · intro i j e
    have h1 := hlex i j
    have h2 := hlex j i
    rcases Int.lt_trichotomy (r i) (r j) with l | l | l
    · have := h1.mpr (.inl l); simp only at e; omega
    · exact l
    · have := h2.mpr (.inl l); simp only at e; omega
  · obtain ⟨f, hf, hr, hfv⟩ := vrep R c pr k0
    refine ⟨k0, f, hk0, hf, hr.symm, ?_⟩
    have e1 : h k0 = u k0 := by show u _ = u _; rw [Nat.mod_eq_of_lt hk0]
    have e2 : h f = 0 := by show u _ = _; rw [Nat.mod_eq_of_lt hf]; exact hA f hf hfv
    show r k0 * (2 * M) + h k0 ≠ r f * (2 * M) + h f
    rw [hr, e1, e2]; omega
end
theorem stack_aux {d : Nat} {z : Nat → Int} (R : Ring d z) (hp : Prim d z) : ∀ (n : Nat) (r : Nat → Int), Comp z r → (∀ i, r (i + d) = r i) →
    (((List.range d).flatMap fun i => (List.range d).map fun j => (i, j)).filter fun p => tt (r p.1 = r p.2)).length = n →
    ∃ r : Nat → Int, Comp z r ∧ (∀ i, r (i + d) = r i) ∧ ∀ i j, r i = r j → i % d = j % d := by
  intro n
  induction n using Nat.strongRecOn with
  | ind n ih =>
    intro r c pr hn
    by_cases hc : ∀ i j, r i = r j → i % d = j % d
    · exact ⟨r, c, pr, hc⟩
    · obtain ⟨a, b, hab, hne⟩ : ∃ a b, r a = r b ∧ a % d ≠ b % d := by
        refine Classical.byContradiction fun h => hc fun i j e => Classical.byContradiction fun h' => h ⟨i, j, e, h'⟩
      obtain ⟨r', pr', c', hf, k, k', hk, hk', e1, e2⟩ := refine1 R c pr hp hab hne
      refine ih _ ?_ r' c' pr' rfl
      rw [← hn]
      refine filter_lt (c := (k, k')) (fun p _ h => tt_iff.mpr (hf _ _ (tt_iff.mp h))) ?_ (tt_iff.mpr e1) (fun h => e2 (tt_iff.mp h))
      exact List.mem_flatMap.mpr ⟨k, List.mem_range.mpr hk, List.mem_map.mpr ⟨k', List.mem_range.mpr hk', rfl⟩⟩
/-- the places of a ring that is no power can be put in an order that steps along equal letters keep -/
theorem stack {d : Nat} {z : Nat → Int} (R : Ring d z) (hp : Prim d z) : ∃ r : Nat → Int, Comp z r ∧ (∀ i, r (i + d) = r i) ∧ ∀ i j, r i = r j → i % d = j % d :=
  stack_aux R hp _ (fun _ => 0) (fun i j => ⟨fun _ => by simp, fun _ => by simp⟩) (fun _ => rfl) rfl
end My
namespace My
/-! ### sums along words -/
structure Sub (H : List Int → Prop) : Prop where
  eqv : ∀ {a b}, H a → Eqv a b → H b
  nil : H []
  app : ∀ {a b}, H a → H b → H (a ++ b)
  undone : ∀ {a}, H a → H (undone a)
structure Coch (φ : List Int → Int → Int) : Prop where
  eqv : ∀ {a b s}, Eqv a b → φ a s = φ b s
  back : ∀ a s, φ (a ++ [s]) (0 - s) = - φ a s
def along (φ : List Int → Int → Int) : List Int → List Int → Int
  | _, [] => 0
  | a, s :: g => φ a s + along φ (a ++ [s]) g
theorem along_app (φ : List Int → Int → Int) : ∀ (a g h : List Int), along φ a (g ++ h) = along φ a g + along φ (a ++ g) h
  | a, [], h => by simp [along]
  | a, s :: g, h => by
    show φ a s + along φ (a ++ [s]) (g ++ h) = φ a s + along φ (a ++ [s]) g + _
    rw [along_app φ (a ++ [s]) g h, List.append_assoc, Int.add_assoc]; rfl
theorem along_snoc (φ : List Int → Int → Int) (a g : List Int) (s : Int) : along φ a (g ++ [s]) = along φ a g + φ (a ++ g) s := by
  rw [along_app]; simp [along]
theorem Eqv.snoc {a b : List Int} (h : Eqv a b) (s : List Int) : Eqv (a ++ s) (b ++ s) := h.app (Eqv.refl s)
theorem along_base {φ : List Int → Int → Int} (c : Coch φ) : ∀ (g : List Int) {a b : List Int}, Eqv a b → along φ a g = along φ b g
  | [], _, _, _ => rfl
  | s :: g, a, b, h => by
    show φ a s + _ = φ b s + _
    rw [c.eqv h, along_base c g (h.snoc [s])]
theorem along_step {φ : List Int → Int → Int} (c : Coch φ) (a acc : List Int) (x : Int) : along φ a (plainStep acc x) = along φ a (acc ++ [x]) := by
  rcases snoc_or acc with rfl | ⟨r, z, rfl⟩
  · rfl
  · rw [step_snoc]
    by_cases h : z = 0 - x
    · rw [if_pos h, along_snoc, along_snoc, h]
      have := c.back (a ++ r) (0 - x)
      rw [show 0 - (0 - x) = x by omega] at this
      rw [show a ++ (r ++ [0 - x]) = a ++ r ++ [0 - x] by simp, this]; omega
    · rw [if_neg h]
theorem along_plain {φ : List Int → Int → Int} (c : Coch φ) (a : List Int) : ∀ (n : Nat) (g : List Int), g.length = n → along φ a (plain g) = along φ a g
  | 0, g, hn => by rw [List.length_eq_zero_iff.mp hn]; rfl
  | n + 1, g, hn => by
    rcases snoc_or g with rfl | ⟨r, z, rfl⟩
    · rfl
    · rw [plain_snoc, along_step c, along_snoc, along_snoc, along_plain c a n r (by rw [List.length_append] at hn; simpa using hn), c.eqv ((Eqv.refl a).app (eqv_plain r))]
theorem along_eqv {φ : List Int → Int → Int} (c : Coch φ) (a : List Int) {g h : List Int} (e : Eqv g h) : along φ a g = along φ a h := by
  rw [← along_plain c a _ g rfl, ← along_plain c a _ h rfl, e]
/-! ### the places of a power in what is generated -/
def pre (z : Nat → Int) (I : Nat) : List Int := (List.range I).map z
theorem pre_succ (z : Nat → Int) (I : Nat) : pre z (I + 1) = pre z I ++ [z I] := by
  unfold pre; rw [List.range_succ, List.map_append]; rfl
theorem pre_add {z : Nat → Int} {d : Nat} (hz : ∀ i, z (i + d) = z i) (k : Nat) : ∀ J, pre z (d * k + J) = pre z (d * k) ++ pre z J
  | 0 => by simp [pre]
  | J + 1 => by
    rw [← Nat.add_assoc, pre_succ, pre_succ, pre_add hz k J, List.append_assoc]
    rw [show d * k + J = J + d * k by omega, per_mul hz]
noncomputable def ind (p : Prop) : Int := if tt p then 1 else 0
theorem ind_pos {p : Prop} (h : p) : ind p = 1 := if_pos (tt_iff.mpr h)
theorem ind_neg {p : Prop} (h : ¬ p) : ind p = 0 := if_neg fun e => h (tt_iff.mp e)
theorem ind_iff {p q : Prop} (h : p ↔ q) : ind p = ind q := by
  by_cases hp : p
  · rw [ind_pos hp, ind_pos (h.mp hp)]
  · rw [ind_neg hp, ind_neg fun hq => hp (h.mpr hq)]
/-- how often a step crosses the K-th edge, where T tells which elements count -/
noncomputable def cr (z : Nat → Int) (T : List Int → Prop) (K : Nat) (a : List Int) (s : Int) : Int :=
  ind (s = z K ∧ T (a ++ undone (pre z K))) - ind (s = 0 - z K ∧ T (a ++ undone (pre z (K + 1))))
theorem undone_one (s : Int) : undone [s] = [0 - s] := rfl
theorem undo_mid (a b : List Int) (s : Int) : Eqv (a ++ [s] ++ ([0 - s] ++ b)) (a ++ b) := by
  have h : Eqv ([s] ++ [0 - s]) [] := plain_undo [s]
  have := ((Eqv.refl a).app h).app (Eqv.refl b)
  simpa using this
theorem undone_pre (z : Nat → Int) (K : Nat) : undone (pre z (K + 1)) = [0 - z K] ++ undone (pre z K) := by
  rw [pre_succ, undone_app]; rfl
theorem cr_coch {z : Nat → Int} {T : List Int → Prop} (hT : ∀ {a b}, T a → Eqv a b → T b) (K : Nat) : Coch (cr z T K) where
  eqv := fun {a b s} e => by
    have h (c : List Int) : T (a ++ c) ↔ T (b ++ c) := ⟨fun h => hT h (e.snoc c), fun h => hT h (e.symm.snoc c)⟩
    unfold cr
    rw [ind_iff (and_congr Iff.rfl (h _)), ind_iff (and_congr Iff.rfl (h (undone (pre z (K + 1)))))]
  back := fun a s => by
    unfold cr
    have h1 : (0 - s = z K ∧ T (a ++ [s] ++ undone (pre z K))) ↔ (s = 0 - z K ∧ T (a ++ undone (pre z (K + 1)))) := by
      constructor
      · rintro ⟨e, h⟩
        refine ⟨by omega, ?_⟩
        rw [undone_pre, ← e, show 0 - (0 - s) = s by omega, ← List.append_assoc]; exact h
      · rintro ⟨e, h⟩
        refine ⟨by omega, ?_⟩
        rw [undone_pre, ← e, ← List.append_assoc] at h; exact h
    have h2 : (0 - s = 0 - z K ∧ T (a ++ [s] ++ undone (pre z (K + 1)))) ↔ (s = z K ∧ T (a ++ undone (pre z K))) := by
      constructor
      · rintro ⟨e, h⟩
        have e' : s = z K := by omega
        refine ⟨e', ?_⟩
        rw [undone_pre, ← e'] at h
        exact hT h (undo_mid _ _ _)
      · rintro ⟨e, h⟩
        refine ⟨by omega, ?_⟩
        rw [undone_pre, ← e]
        exact hT h (undo_mid _ _ _).symm
    rw [ind_iff h1, ind_iff h2]; omega
end My
namespace My
def vx (H : List Int → Prop) (z : Nat → Int) (I J : Nat) : Prop := H (pre z I ++ undone (pre z J))
structure Lw (d p : Nat) (z r : Nat → Int) (H : List Int → Prop) : Prop where
  R : Ring d z
  S : Sub H
  c : Comp z r
  pr : ∀ i, r (i + d) = r i
  inj : ∀ i j, r i = r j → i % d = j % d
  full : H (pre z (d * p))
  min : ∀ k, 0 < k → k < p → ¬ H (pre z (d * k))
  two : 2 ≤ p
def TV (H : List Int → Prop) (z r : Nat → Int) (I : Nat) : Prop := ∀ J, vx H z I J → r J ≤ r I
def TE (H : List Int → Prop) (z r : Nat → Int) (I : Nat) : Prop := ∀ J, (z I = z J → vx H z I J → r J ≤ r I) ∧ (z I = - z J → vx H z I (J + 1) → r (J + 1) ≤ r I)
def BE (H : List Int → Prop) (z r : Nat → Int) (I : Nat) : Prop := ∀ J, (z I = z J → vx H z I J → r I ≤ r J) ∧ (z I = - z J → vx H z I (J + 1) → r I ≤ r (J + 1))
theorem vx.refl {H : List Int → Prop} (S : Sub H) {z : Nat → Int} (I : Nat) : vx H z I I := S.eqv S.nil (Eqv.symm (plain_undo _))
theorem vx.symm {H : List Int → Prop} (S : Sub H) {z : Nat → Int} {I J : Nat} (h : vx H z I J) : vx H z J I := by
  have := S.undone h
  rw [undone_app, undone_undone] at this
  exact this
theorem vx.trans {H : List Int → Prop} (S : Sub H) {z : Nat → Int} {I J K : Nat} (h : vx H z I J) (h' : vx H z J K) : vx H z I K := by
  refine S.eqv (S.app h h') ?_
  have h1 : Eqv (undone (pre z J) ++ pre z J) [] := undo_left _
  have := ((Eqv.refl (pre z I)).app h1).app (Eqv.refl (undone (pre z K)))
  simpa using this
theorem vx.step {H : List Int → Prop} (S : Sub H) {z : Nat → Int} {I J : Nat} (e : z I = z J) : vx H z I J ↔ vx H z (I + 1) (J + 1) := by
  unfold vx
  rw [undone_pre, pre_succ, ← e]
  exact ⟨fun h => S.eqv h (undo_mid _ _ _).symm, fun h => S.eqv h (undo_mid _ _ _)⟩
theorem vx.anti {H : List Int → Prop} {z : Nat → Int} {I J : Nat} (e : z I = - z J) : vx H z I (J + 1) ↔ vx H z (I + 1) J := by
  unfold vx
  rw [undone_pre, pre_succ, show 0 - z J = z I by omega, List.append_assoc]
theorem greatest {q : Nat → Prop} (f : Nat → Int) {M : Int} (hM : ∀ J, f J < M) : ∀ (n : Nat) (I : Nat), (M - f I).toNat = n → q I → ∃ J, q J ∧ ∀ K, q K → f K ≤ f J := by
  intro n
  induction n using Nat.strongRecOn with
  | ind n ih =>
    intro I hn hq
    by_cases h : ∀ K, q K → f K ≤ f I
    · exact ⟨I, hq, h⟩
    · obtain ⟨K, hK, hf⟩ : ∃ K, q K ∧ f I < f K := by
        refine Classical.byContradiction fun hc => h fun K hK => ?_
        refine Classical.byContradiction fun hf => hc ⟨K, hK, by omega⟩
      have := hM K
      have := hM I
      exact ih (M - f K).toNat (by omega) K rfl hK
section
variable {d p : Nat} {z r : Nat → Int} {H : List Int → Prop} (L : Lw d p z r H)
include L
theorem Lw.bound : ∃ M : Int, ∀ J, -M < r J ∧ r J < M := by
  obtain ⟨M, hM⟩ := bounded r d
  exact ⟨M, fun J => by rw [← per_mod L.pr J]; exact hM _ (Nat.mod_lt _ L.R.pos)⟩
theorem Lw.perN (i : Nat) : z (i + d * p) = z i := per_mul L.R.per p i
theorem Lw.perNr (i : Nat) : r (i + d * p) = r i := per_mul L.pr p i
theorem Lw.posN : 0 < d * p := Nat.mul_pos L.R.pos (by have := L.two; omega)
theorem Lw.pow : ∀ q, H (pre z ((d * p) * q))
  | 0 => L.S.nil
  | q + 1 => by
    rw [Nat.mul_succ, pre_add L.perN q (d * p)]
    exact L.S.app (Lw.pow q) L.full
theorem Lw.vxN (q I : Nat) : vx H z ((d * p) * q + I) I := by
  unfold vx
  rw [pre_add L.perN q I, List.append_assoc]
  refine L.S.app (L.pow q) (L.S.eqv L.S.nil (Eqv.symm (plain_undo _)))
theorem Lw.vx_mod (I : Nat) : vx H z I (I % (d * p)) := by
  have := L.vxN (I / (d * p)) (I % (d * p))
  rwa [Nat.div_add_mod] at this
theorem Lw.eqmod {I J : Nat} (h : vx H z I J) (e : I % d = J % d) : I % (d * p) = J % (d * p) := by
  have main : ∀ I J : Nat, J ≤ I → vx H z I J → I % d = J % d → I % (d * p) = J % (d * p) := by
    intro I J hle h e
    obtain ⟨k, hk⟩ : ∃ k, I = d * k + J := by
      have h1 := Nat.div_add_mod I d
      have h2 := Nat.div_add_mod J d
      have h3 : J / d ≤ I / d := Nat.div_le_div_right hle
      refine ⟨I / d - J / d, ?_⟩
      rw [Nat.mul_sub]
      have h4 := Nat.mul_le_mul_left d h3
      omega
    have hHk : H (pre z (d * k)) := by
      unfold vx at h
      rw [hk, pre_add L.R.per k J, List.append_assoc] at h
      have h1 : Eqv (pre z (d * k) ++ (pre z J ++ undone (pre z J))) (pre z (d * k) ++ []) := (Eqv.refl _).app (plain_undo _)
      rw [List.append_nil] at h1
      exact L.S.eqv h h1
    have hp := L.two
    have hk2 : d * k = (d * p) * (k / p) + d * (k % p) := by
      rw [Nat.mul_assoc, ← Nat.mul_add, Nat.div_add_mod]
    have hmod : H (pre z (d * (k % p))) := by
      rw [hk2, pre_add L.perN] at hHk
      refine L.S.eqv (L.S.app (L.S.undone (L.pow (k / p))) hHk) ?_
      rw [← List.append_assoc]
      have := (undo_left (pre z ((d * p) * (k / p)))).app (Eqv.refl (pre z (d * (k % p))))
      simpa using this
    have h0 : k % p = 0 := by
      refine Classical.byContradiction fun hne => L.min (k % p) (by omega) (Nat.mod_lt _ (by omega)) hmod
    rw [hk, hk2, h0, Nat.mul_zero, Nat.add_zero, Nat.mul_add_mod]
  rcases Nat.le_total J I with l | l
  · exact main I J l h e
  · exact (main J I l (h.symm L.S) e.symm).symm
theorem Lw.same {I J : Nat} (h : vx H z I J) (e : r I = r J) : I % (d * p) = J % (d * p) := L.eqmod h (L.inj _ _ e)
/-- two ends of one edge, seen from both sides, are not one place -/
theorem Lw.noback {I J : Nat} (e : z I = - z J) (e' : r I = r (J + 1)) : False := by
  have h := L.inj _ _ e'
  have : z I = z (J + 1) := by rw [← per_mod L.R.per I, h, per_mod L.R.per]
  exact L.R.red J (by omega)
theorem Lw.topV (I : Nat) : ∃ J, J < d * p ∧ vx H z I J ∧ TV H z r J := by
  obtain ⟨M, hM⟩ := L.bound
  obtain ⟨J, h1, h2⟩ := greatest (q := fun J => vx H z I J) r (fun J => (hM J).2) _ I rfl (vx.refl L.S I)
  refine ⟨J % (d * p), Nat.mod_lt _ L.posN, h1.trans L.S (L.vx_mod J), fun K hK => ?_⟩
  rw [per_mod L.perNr]
  exact h2 K ((h1.trans L.S (L.vx_mod J)).trans L.S hK)
theorem Lw.TV_TE {I : Nat} (h : TV H z r I) : TE H z r I := fun J => ⟨fun _ hv => h J hv, fun _ hv => h (J + 1) hv⟩
theorem Lw.TV_TE' {I : Nat} (h : TV H z r (I + 1)) : TE H z r I := fun J => by
  refine ⟨fun e hv => ?_, fun e hv => ?_⟩
  · have h1 := h (J + 1) ((vx.step L.S e).mp hv)
    have h2 := (L.c I J).1 e
    omega
  · have h1 := h J ((vx.anti e).mp hv)
    have h2 := (L.c I J).2 e
    omega
theorem Lw.TV_mod (I : Nat) : TV H z r (I % (d * p)) ↔ TV H z r I := by
  unfold TV
  rw [per_mod L.perNr]
  exact ⟨fun h J hv => h J ((L.vx_mod I).symm L.S |>.trans L.S hv), fun h J hv => h J ((L.vx_mod I).trans L.S hv)⟩
theorem Lw.TE_mod (I : Nat) : TE H z r (I % (d * p)) ↔ TE H z r I := by
  unfold TE
  rw [per_mod L.perNr, per_mod L.perN]
  exact ⟨fun h J => ⟨fun e hv => (h J).1 e ((L.vx_mod I).symm L.S |>.trans L.S hv), fun e hv => (h J).2 e ((L.vx_mod I).symm L.S |>.trans L.S hv)⟩,
    fun h J => ⟨fun e hv => (h J).1 e ((L.vx_mod I).trans L.S hv), fun e hv => (h J).2 e ((L.vx_mod I).trans L.S hv)⟩⟩
end
end My
namespace My
theorem along_left {φ : List Int → Int → Int} {a : List Int} (h : ∀ c s, φ (a ++ c) s = φ c s) : ∀ (g c : List Int), along φ (a ++ c) g = along φ c g
  | [], _ => rfl
  | s :: g, c => by
    show φ (a ++ c) s + along φ (a ++ c ++ [s]) g = φ c s + along φ (c ++ [s]) g
    rw [h, List.append_assoc, along_left h g]
theorem Sub.left {H : List Int → Prop} (S : Sub H) {a : List Int} (h : H a) (c : List Int) : H (a ++ c) ↔ H c := by
  refine ⟨fun h' => ?_, fun h' => S.app h h'⟩
  refine S.eqv (S.app (S.undone h) h') ?_
  have := (undo_left a).app (Eqv.refl c)
  simpa using this
theorem cr_left {H : List Int → Prop} (S : Sub H) {z : Nat → Int} {K : Nat} {a : List Int} (h : H a) (c : List Int) (s : Int) : cr z H K (a ++ c) s = cr z H K c s := by
  unfold cr
  rw [List.append_assoc, List.append_assoc, ind_iff (and_congr Iff.rfl (S.left h _)), ind_iff (and_congr (Iff.refl (s = 0 - z K)) (S.left h (c ++ undone (pre z (K + 1)))))]
/-- if H is what x and y make -/
def Made (H : List Int → Prop) (x y : List Int) : Prop := H x ∧ H y ∧ ∀ Q : List Int → Prop, Sub Q → Q x → Q y → ∀ g, H g → Q g
section
variable {d p : Nat} {z r : Nat → Int} {H : List Int → Prop} (L : Lw d p z r H) {x y : List Int} (m : Made H x y)
include L m
theorem Lw.flat (u : Nat → Int) (hx : dot (d * p) (fun K => along (cr z H K) [] x) u = 0) (hy : dot (d * p) (fun K => along (cr z H K) [] y) u = 0) :
    ∀ g, H g → dot (d * p) (fun K => along (cr z H K) [] g) u = 0 := by
  have hc : ∀ K, Coch (cr z H K) := cr_coch (T := H) (fun h e => L.S.eqv h e)
  have app : ∀ a b, H a → ∀ K, along (cr z H K) [] (a ++ b) = along (cr z H K) [] a + along (cr z H K) [] b := by
    intro a b ha K
    rw [along_app]
    have := along_left (φ := cr z H K) (a := a) (fun c s => cr_left L.S ha c s) b []
    rw [List.append_nil] at this
    rw [List.nil_append, this]
  have S : Sub fun g => H g ∧ dot (d * p) (fun K => along (cr z H K) [] g) u = 0 := {
    eqv := fun {a b} ha e => ⟨L.S.eqv ha.1 e, by
      rw [← ha.2]
      exact dot_ext (fun K _ => (along_eqv (hc K) [] e).symm) fun _ _ => rfl⟩
    nil := ⟨L.S.nil, dot_zero fun K _ => by show along _ [] [] * _ = 0; simp [along]⟩
    app := fun {a b} ha hb => ⟨L.S.app ha.1 hb.1, by
      rw [dot_ext (e' := fun K => along (cr z H K) [] a + along (cr z H K) [] b) (fun K _ => app a b ha.1 K) (fun _ _ => rfl), dot_add, ha.2, hb.2]; rfl⟩
    undone := fun {a} ha => ⟨L.S.undone ha.1, by
      have h1 : ∀ K, along (cr z H K) [] (undone a) = 0 - along (cr z H K) [] a := fun K => by
        have h2 := app a (undone a) ha.1 K
        have h3 := along_eqv (hc K) [] (show Eqv (a ++ undone a) [] from plain_undo a)
        rw [h2] at h3
        simp [along] at h3; omega
      have h4 : dot (d * p) (fun K => 0 - along (cr z H K) [] a) u = dot (d * p) (fun _ => 0) u - dot (d * p) (fun K => along (cr z H K) [] a) u := dot_sub (fun _ => 0) _ _ _
      rw [dot_ext (fun K _ => h1 K) (fun _ _ => rfl), h4, ha.2, dot_zero fun _ _ => Int.zero_mul _]; rfl⟩ }
  exact fun g hg => (m.2.2 _ S ⟨m.1, hx⟩ ⟨m.2.1, hy⟩ g hg).2
theorem Lw.countE : ((List.range (d * p)).filter fun I => tt (TE H z r I)).length ≤ ((List.range (d * p)).filter fun I => tt (TV H z r I)).length + 1 := by
  refine Classical.byContradiction fun hbig => ?_
  have hc : ∀ K, Coch (cr z H K) := cr_coch (T := H) (fun h e => L.S.eqv h e)
  let A : List (Nat → Int) := ((List.range (d * p)).filter fun K => !tt (TE H z r K)).map fun K t => if t = K then 1 else 0
  let B : List (Nat → Int) := ((List.range (d * p)).filter fun I => tt (TV H z r I ∧ ¬ vx H z 0 I)).map fun I K => along (cr z H K) [] (pre z I)
  let E : List (Nat → Int) := [fun K => along (cr z H K) [] x, fun K => along (cr z H K) [] y]
  have hlen : (A ++ (B ++ E)).length < d * p := by
    have h1 := filter_not_len (fun K => tt (TE H z r K)) (List.range (d * p))
    rw [List.length_range] at h1
    have h2 : A.length = ((List.range (d * p)).filter fun K => !tt (TE H z r K)).length := List.length_map _
    have h3 : B.length = ((List.range (d * p)).filter fun I => tt (TV H z r I ∧ ¬ vx H z 0 I)).length := List.length_map _
    obtain ⟨I0, hI0, hv0, ht0⟩ := L.topV 0
    have h4 : ((List.range (d * p)).filter fun I => tt (TV H z r I ∧ ¬ vx H z 0 I)).length < ((List.range (d * p)).filter fun I => tt (TV H z r I)).length :=
      filter_lt (c := I0) (fun I _ h => tt_iff.mpr (tt_iff.mp h).1) (List.mem_range.mpr hI0) (tt_iff.mpr ht0) (fun h => (tt_iff.mp h).2 hv0)
    rw [List.length_append, List.length_append]
    show _ + (_ + 2) < _
    omega
  obtain ⟨u, ⟨k0, hk0, hu0⟩, hu⟩ := lin (d * p) (A ++ (B ++ E)) hlen
  have hA : ∀ K, K < d * p → ¬ TE H z r K → u K = 0 := by
    intro K hK hn
    have := hu _ (List.mem_append_left _ (List.mem_map.mpr ⟨K, List.mem_filter.mpr ⟨List.mem_range.mpr hK, by
      have : tt (TE H z r K) ≠ true := fun h => hn (tt_iff.mp h)
      simp [this]⟩, rfl⟩))
    rwa [dot_unit hK] at this
  have hB : ∀ I, I < d * p → TV H z r I → ¬ vx H z 0 I → dot (d * p) (fun K => along (cr z H K) [] (pre z I)) u = 0 := fun I hI ht hv =>
    hu _ (List.mem_append_right _ (List.mem_append_left _ (List.mem_map.mpr ⟨I, List.mem_filter.mpr ⟨List.mem_range.mpr hI, tt_iff.mpr ⟨ht, hv⟩⟩, rfl⟩)))
  have hflat := L.flat m u (hu _ (List.mem_append_right _ (List.mem_append_right _ (by simp [E])))) (hu _ (List.mem_append_right _ (List.mem_append_right _ (by simp [E]))))
  have app : ∀ a b, H a → ∀ K, along (cr z H K) [] (a ++ b) = along (cr z H K) [] a + along (cr z H K) [] b := by
    intro a b ha K
    rw [along_app]
    have := along_left (φ := cr z H K) (a := a) (fun c s => cr_left L.S ha c s) b []
    rw [List.append_nil] at this
    rw [List.nil_append, this]
  have hall : ∀ J, dot (d * p) (fun K => along (cr z H K) [] (pre z J)) u = 0 := by
    intro J
    obtain ⟨I, hI, hv, ht⟩ := L.topV J
    have e : ∀ K, along (cr z H K) [] (pre z J) = along (cr z H K) [] (pre z J ++ undone (pre z I)) + along (cr z H K) [] (pre z I) := by
      intro K
      rw [← app _ _ hv K]
      refine (along_eqv (hc K) [] ?_).symm
      have := (Eqv.refl (pre z J)).app (undo_left (pre z I))
      simpa using this
    rw [dot_ext (fun K _ => e K) (fun _ _ => rfl), dot_add, hflat _ hv]
    by_cases h0 : vx H z 0 I
    · have : H (pre z I) := by
        have := h0.symm L.S
        unfold vx at this
        simpa [pre, undone] using this
      rw [hflat _ this]; rfl
    · rw [hB I hI ht h0]; rfl
  refine hu0 ?_
  by_cases hk : TE H z r k0
  · have e1 : ∀ K, along (cr z H K) [] (pre z (k0 + 1)) = along (cr z H K) [] (pre z k0) + cr z H K (pre z k0) (z k0) := fun K => by
      rw [pre_succ, along_snoc, List.nil_append]
    have h1 := hall (k0 + 1)
    rw [dot_ext (fun K _ => e1 K) (fun _ _ => rfl), dot_add, hall k0] at h1
    have hone : cr z H k0 (pre z k0) (z k0) = 1 := by
      unfold cr
      have hn := L.R.nz k0
      rw [ind_pos ⟨rfl, vx.refl L.S k0⟩, ind_neg fun h => by have := h.1; omega]; rfl
    rw [dot_one hk0 ?_] at h1
    · rw [hone] at h1; omega
    · intro K hK hne
      by_cases hu' : u K = 0
      · rw [hu']; exact Int.mul_zero _
      · have hKE : TE H z r K := Classical.byContradiction fun h => hu' (hA K hK h)
        have h0 : cr z H K (pre z k0) (z k0) = 0 := by
          unfold cr
          rw [ind_neg, ind_neg]
          · rfl
          · rintro ⟨e, hv⟩
            have e' : z k0 = - z K := by omega
            have hv' : vx H z k0 (K + 1) := hv
            have g1 := (hk K).2 e' hv'
            have g2 := (hKE k0).2 (by omega) (((vx.anti e').mp hv').symm L.S)
            have g3 := (L.c k0 K).2 e'
            have g4 := (L.c K k0).2 (by omega)
            exact L.noback e' (by omega)
          · rintro ⟨e, hv⟩
            have hv' : vx H z k0 K := hv
            have g1 := (hk K).1 e hv'
            have g2 := (hKE k0).1 e.symm (hv'.symm L.S)
            have := L.same hv' (by omega)
            rw [Nat.mod_eq_of_lt hk0, Nat.mod_eq_of_lt hK] at this
            exact hne this.symm
        rw [h0]; exact Int.zero_mul _
  · exact hA k0 hk0 hk
end
end My
namespace My
/-- an edge that is crossed but once -/
def Alone (H : List Int → Prop) (z : Nat → Int) (N I : Nat) : Prop := ∀ J, (z I = z J → vx H z I J → J % N = I % N) ∧ (z I = - z J → ¬ vx H z I (J + 1))
theorem switch {q : Nat → Prop} : ∀ {n a : Nat}, ¬ q a → q (a + n) → ∃ I, a ≤ I ∧ I < a + n ∧ ¬ q I ∧ q (I + 1)
  | 0, a, h, h' => absurd h' h
  | n + 1, a, h, h' => by
    by_cases hm : q (a + n)
    · obtain ⟨I, h1, h2, h3⟩ := switch h hm
      exact ⟨I, h1, by omega, h3⟩
    · exact ⟨a + n, by omega, by omega, hm, h'⟩
theorem mod_far {x y N : Nat} (h : x % N = y % N) (h1 : x < y) (h2 : y < x + N) : False := by
  have h3 := Nat.div_add_mod x N
  have h4 := Nat.div_add_mod y N
  rw [h] at h3
  have h5 : N * (x / N) < N * (y / N) := by omega
  have h6 : x / N < y / N := Nat.lt_of_mul_lt_mul_left h5
  have h7 := Nat.mul_le_mul_left N (show x / N + 1 ≤ y / N by omega)
  rw [Nat.mul_add] at h7
  omega
section
variable {d p : Nat} {z r : Nat → Int} {H : List Int → Prop} (L : Lw d p z r H) {x y : List Int} (m : Made H x y)
include L
theorem Lw.alone {I : Nat} (h : TE H z r I) (h' : BE H z r I) : Alone H z (d * p) I := fun J => by
  refine ⟨fun e hv => ?_, fun e hv => ?_⟩
  · have h1 := (h J).1 e hv
    have h2 := (h' J).1 e hv
    exact (L.same hv (by omega)).symm
  · have h1 := (h J).2 e hv
    have h2 := (h' J).2 e hv
    exact L.noback e (by omega)
include m
theorem Lw.once {i j : Nat} (hi : TE H z r i ∧ ¬ TV H z r i) (hj : TE H z r j ∧ ¬ TV H z r j) : i % (d * p) = j % (d * p) := by
  refine Classical.byContradiction fun hne => ?_
  have hN := L.posN
  have hc := L.countE m
  have h1 : ((List.range (d * p)).filter fun I => tt (TV H z r I)).length < ((List.range (d * p)).filter fun I => tt (TV H z r I ∨ I = i % (d * p))).length := by
    refine filter_lt (c := i % (d * p)) (fun I _ h => tt_iff.mpr (.inl (tt_iff.mp h))) (List.mem_range.mpr (Nat.mod_lt _ hN)) (tt_iff.mpr (.inr rfl)) ?_
    exact fun h => hi.2 ((L.TV_mod i).mp (tt_iff.mp h))
  have h2 : ((List.range (d * p)).filter fun I => tt (TV H z r I ∨ I = i % (d * p))).length < ((List.range (d * p)).filter fun I => tt (TE H z r I)).length := by
    refine filter_lt (c := j % (d * p)) (fun I _ h => tt_iff.mpr ?_) (List.mem_range.mpr (Nat.mod_lt _ hN)) (tt_iff.mpr ((L.TE_mod j).mpr hj.1)) ?_
    · rcases tt_iff.mp h with h' | rfl
      · exact L.TV_TE h'
      · exact (L.TE_mod i).mpr hi.1
    · intro h
      rcases tt_iff.mp h with h' | h'
      · exact hj.2 ((L.TV_mod j).mp h')
      · exact hne h'.symm
  omega
/-- no power p >= 2 in what x and y make, if each edge is crossed twice -/
theorem Lw.false (ha : ∀ I, ¬ Alone H z (d * p) I) : False := by
  obtain ⟨M, hM⟩ := L.bound
  have hd := L.R.pos
  obtain ⟨t, _, ht⟩ := greatest (q := fun _ => True) r (fun J => (hM J).2) _ 0 rfl trivial
  obtain ⟨b, _, hb⟩ := greatest (q := fun _ => True) (fun J => - r J) (M := M) (fun J => by have := (hM J).1; omega) _ 0 rfl trivial
  have tv : ∀ t', r t' = r t → TE H z r t' := fun t' e => L.TV_TE fun J _ => by rw [e]; exact ht J trivial
  have be : ∀ b', r b' = r b → ¬ TE H z r b' := fun b' e h => ha b' (L.alone h fun J => ⟨fun _ _ => by
    have := hb J trivial; omega, fun _ _ => by have := hb (J + 1) trivial; omega⟩)
  have hdb : b ≤ d * b := Nat.le_mul_of_pos_left b hd
  have hdm := Nat.div_add_mod (t + d * b - b) d
  have hlt := Nat.mod_lt (t + d * b - b) hd
  generalize (t + d * b - b) % d = δ at hdm hlt
  generalize (t + d * b - b) / d = q at hdm
  have rt : r (b + δ) = r t := by
    rw [← per_mul L.pr q (b + δ), show b + δ + d * q = t + d * b by omega, per_mul L.pr]
  have hq : TE H z r (b + δ) := tv _ rt
  have hq' : TE H z r (b + d + δ) := tv _ (by rw [show b + d + δ = b + δ + d by omega, L.pr, rt])
  obtain ⟨i, i1, i2, i3, i4⟩ := switch (q := TE H z r) (be b rfl) hq
  obtain ⟨j, j1, j2, j3, j4⟩ := switch (q := TE H z r) (be (b + d) (L.pr b)) hq'
  have e := L.once m (i := i + 1) (j := j + 1) ⟨i4, fun h => i3 (L.TV_TE' h)⟩ ⟨j4, fun h => j3 (L.TV_TE' h)⟩
  have h2 : d * 2 ≤ d * p := Nat.mul_le_mul_left d L.two
  exact mod_far e (by omega) (by omega)
end
end My
namespace My
section
variable {d p : Nat} {z r : Nat → Int} {H : List Int → Prop} (L : Lw d p z r H)
include L
/-- an edge that is crossed but once is crossed once -/
theorem Lw.aloneT {I : Nat} (ha : Alone H z (d * p) I) (hI : I < d * p) {T : List Int → Prop} (hT : ∀ {a b}, T a → Eqv a b → T b) (hs : ∀ {a}, T a → H a) :
    ∀ n, n ≤ d * p → along (cr z T I) [] (pre z n) = if I < n then ind (T []) else 0
  | 0, _ => by rw [if_neg (by omega)]; rfl
  | n + 1, hn => by
    rw [pre_succ, along_snoc, List.nil_append, Lw.aloneT ha hI hT hs n (by omega)]
    have h2 : ¬ (z n = 0 - z I ∧ T (pre z n ++ undone (pre z (I + 1)))) := by
      rintro ⟨e, h⟩
      have hv : vx H z n (I + 1) := hs h
      have h3 := (vx.anti (show z n = - z I by omega)).mp hv
      exact (ha n).2 (by omega) (h3.symm L.S)
    by_cases hnI : n = I
    · subst hnI
      have h1 : (z n = z n ∧ T (pre z n ++ undone (pre z n))) ↔ T [] :=
        ⟨fun h => hT h.2 (plain_undo _), fun h => ⟨rfl, hT h (Eqv.symm (plain_undo _))⟩⟩
      unfold cr
      rw [ind_iff h1, ind_neg h2, if_neg (by omega), if_pos (by omega)]; omega
    · have h1 : ¬ (z n = z I ∧ T (pre z n ++ undone (pre z I))) := by
        rintro ⟨e, h⟩
        have hv : vx H z n I := hs h
        have := (ha n).1 e.symm (hv.symm L.S)
        rw [Nat.mod_eq_of_lt hI, Nat.mod_eq_of_lt (by omega)] at this
        exact hnI this
      unfold cr
      rw [ind_neg h1, ind_neg h2]
      by_cases hl : I < n
      · rw [if_pos hl, if_pos (by omega)]; omega
      · rw [if_neg hl, if_neg (by omega)]; omega
theorem Lw.alone_mod {I : Nat} (ha : Alone H z (d * p) I) : Alone H z (d * p) (I % (d * p)) := fun J => by
  have hv := L.vx_mod I
  refine ⟨fun e h => ?_, fun e h => ?_⟩
  · rw [Nat.mod_mod]
    exact (ha J).1 (by rw [← per_mod L.perN I]; exact e) (hv.trans L.S h)
  · exact (ha J).2 (by rw [← per_mod L.perN I]; exact e) (hv.trans L.S h)
/-- what crosses an edge as often forth as back does not cross it once -/
theorem Lw.commAlone {x y : List Int} (m : Made H x y) (hw : Eqv (x ++ y ++ undone x ++ undone y) (pre z (d * p))) (I : Nat) : ¬ Alone H z (d * p) I := fun ha0 => by
  have ha := L.alone_mod ha0
  have hI := Nat.mod_lt I L.posN
  generalize I % (d * p) = I at ha hI
  have hE : ∀ {a b}, H a → Eqv a b → H b := fun h e => L.S.eqv h e
  have hc := cr_coch (z := z) hE I
  have h1 := L.aloneT ha hI hE id _ (Nat.le_refl _)
  rw [if_pos hI, ind_pos L.S.nil, ← along_eqv hc [] hw] at h1
  have app : ∀ a b, H a → along (cr z H I) [] (a ++ b) = along (cr z H I) [] a + along (cr z H I) [] b := by
    intro a b ha
    rw [along_app]
    have := along_left (φ := cr z H I) (a := a) (fun c s => cr_left L.S ha c s) b []
    rw [List.append_nil] at this
    rw [List.nil_append, this]
  have inv : ∀ a, H a → along (cr z H I) [] (undone a) = - along (cr z H I) [] a := fun a ha => by
    have h2 := app a (undone a) ha
    have h3 := along_eqv hc [] (show Eqv (a ++ undone a) [] from plain_undo a)
    rw [h2] at h3
    simp [along] at h3; omega
  rw [app _ _ (L.S.app (L.S.app m.1 m.2.1) (L.S.undone m.1)), app _ _ (L.S.app m.1 m.2.1), app _ _ m.1, inv _ m.1, inv _ m.2.1] at h1
  omega
end
end My
namespace My
/-! ### two rows that make freely: turning numbers along -/
def Free (x y : List Int) : Prop := ∀ w, Lets 2 w → Eqv (w.flatMap (img [x, y])) [] → Eqv w []
structure Perm (la : Int → Nat → Nat) : Prop where
  back : ∀ s, -2 ≤ s → s ≤ 2 → s ≠ 0 → ∀ k, la (0 - s) (la s k) = k
def act (la : Int → Nat → Nat) (w : List Int) (k : Nat) : Nat := w.foldl (fun k s => la s k) k
theorem act_app (la : Int → Nat → Nat) (w v : List Int) (k : Nat) : act la (w ++ v) k = act la v (act la w k) := by
  unfold act; rw [List.foldl_append]
theorem lets_nil {n : Int} : Lets n [] := fun x h => (List.not_mem_nil h).elim
theorem act_plain {la : Int → Nat → Nat} (P : Perm la) : ∀ (n : Nat) (w : List Int), w.length = n → Lets 2 w → Lets 2 (plain w) ∧ ∀ k, act la (plain w) k = act la w k
  | 0, w, hn, hl => by rw [List.length_eq_zero_iff.mp hn]; exact ⟨lets_nil, fun _ => rfl⟩
  | n + 1, w, hn, hl => by
    rcases snoc_or w with rfl | ⟨r, s, rfl⟩
    · exact ⟨lets_nil, fun _ => rfl⟩
    · obtain ⟨h1, h2⟩ := act_plain P n r (by rw [List.length_append] at hn; simpa using hn) fun x hx => hl x (by simp [hx])
      have hs := hl s (by simp)
      rw [plain_snoc]
      rcases snoc_or (plain r) with e | ⟨q, t, e⟩
      · rw [e] at h2 ⊢
        refine ⟨fun x hx => ?_, fun k => ?_⟩
        · rw [show plainStep [] s = [s] from rfl, List.mem_singleton] at hx
          rw [hx]; exact hs
        · rw [act_app, ← h2]; rfl
      · rw [e] at h1 h2 ⊢
        rw [step_snoc]
        by_cases ht : t = 0 - s
        · rw [if_pos ht]
          refine ⟨fun x hx => h1 x (by simp [hx]), fun k => ?_⟩
          rw [act_app, ← h2, act_app, ht]
          show _ = la s (la (0 - s) (act la q k))
          have := P.back (0 - s) (by omega) (by omega) (by omega) (act la q k)
          rw [show 0 - (0 - s) = s by omega] at this
          exact this.symm
        · rw [if_neg ht]
          refine ⟨fun x hx => ?_, fun k => by rw [act_app, h2, act_app]⟩
          rcases List.mem_append.mp hx with h | h
          · exact h1 x h
          · rw [List.mem_singleton.mp h]; exact hs
theorem act_eqv {la : Int → Nat → Nat} (P : Perm la) {w v : List Int} (hw : Lets 2 w) (hv : Lets 2 v) (e : Eqv w v) (k : Nat) : act la w k = act la v k := by
  rw [← (act_plain P _ w rfl hw).2 k, ← (act_plain P _ v rfl hv).2 k, e]
theorem lets_undone {n : Int} {w : List Int} (h : Lets n w) : Lets n (undone w) := fun x hx => by
  obtain ⟨y, hy, rfl⟩ := List.mem_map.mp hx
  have := h y (List.mem_reverse.mp hy)
  omega
theorem lets_app {n : Int} {w v : List Int} (h : Lets n w) (h' : Lets n v) : Lets n (w ++ v) := fun x hx => by
  rcases List.mem_append.mp hx with e | e
  · exact h x e
  · exact h' x e
/-- elements that lead s to j -/
def Tw (la : Int → Nat → Nat) (x y : List Int) (s j : Nat) (g : List Int) : Prop := ∃ w, Lets 2 w ∧ Eqv (w.flatMap (img [x, y])) g ∧ act la w s = j
theorem Tw.eqv {la : Int → Nat → Nat} {x y : List Int} {s j : Nat} {a b : List Int} (h : Tw la x y s j a) (e : Eqv a b) : Tw la x y s j b := by
  obtain ⟨w, h1, h2, h3⟩ := h
  exact ⟨w, h1, h2.trans e, h3⟩
theorem Tw.gen {la : Int → Nat → Nat} {x y : List Int} {s j : Nat} {a : List Int} (h : Tw la x y s j a) : Gen [x, y] a := by
  obtain ⟨w, h1, h2, _⟩ := h
  exact ⟨w, h1, h2⟩
theorem Tw.left {la : Int → Nat → Nat} (P : Perm la) {x y : List Int} {s j : Nat} {v h c : List Int} (hv : Lets 2 v) (e : Eqv (v.flatMap (img [x, y])) h) :
    Tw la x y s j (h ++ c) ↔ Tw la x y (act la v s) j c := by
  constructor
  · rintro ⟨w, h1, h2, h3⟩
    refine ⟨undone v ++ w, lets_app (lets_undone hv) h1, ?_, ?_⟩
    · rw [List.flatMap_append, flat_undone fun a ha => (hv a ha).2.2]
      refine ((e.undone.app h2).trans ?_)
      rw [← List.append_assoc]
      have := (undo_left h).app (Eqv.refl c)
      simpa using this
    · have : Eqv (v ++ undone v) [] := plain_undo v
      have e1 := act_eqv P (lets_app hv (lets_undone hv)) lets_nil this s
      rw [act_app] at e1
      rw [act_app, e1]; exact h3
  · rintro ⟨w, h1, h2, h3⟩
    refine ⟨v ++ w, lets_app hv h1, ?_, by rw [act_app]; exact h3⟩
    rw [List.flatMap_append]
    exact e.app h2
theorem Tw.nil {la : Int → Nat → Nat} (P : Perm la) {x y : List Int} (F : Free x y) {s j : Nat} : Tw la x y s j [] ↔ s = j := by
  constructor
  · rintro ⟨w, h1, h2, h3⟩
    rw [← h3, act_eqv P h1 lets_nil (F w h1 h2)]; rfl
  · rintro rfl
    exact ⟨[], lets_nil, rfl, rfl⟩
theorem cr_Tw {la : Int → Nat → Nat} (P : Perm la) {z : Nat → Int} {K : Nat} {x y : List Int} {s j : Nat} {v h : List Int} (hv : Lets 2 v) (e : Eqv (v.flatMap (img [x, y])) h)
    (c : List Int) (t : Int) : cr z (Tw la x y s j) K (h ++ c) t = cr z (Tw la x y (act la v s) j) K c t := by
  unfold cr
  rw [List.append_assoc, List.append_assoc, ind_iff (and_congr Iff.rfl (Tw.left P hv e)), ind_iff (and_congr (Iff.refl (t = 0 - z K)) (Tw.left P hv e))]
theorem along_two {φ ψ : List Int → Int → Int} {a : List Int} (h : ∀ c s, φ (a ++ c) s = ψ c s) : ∀ (g c : List Int), along φ (a ++ c) g = along ψ c g
  | [], _ => rfl
  | s :: g, c => by
    show φ (a ++ c) s + along φ (a ++ c ++ [s]) g = ψ c s + along ψ (c ++ [s]) g
    rw [h, List.append_assoc, along_two h g]
def pw (x : List Int) : Nat → List Int
  | 0 => []
  | m + 1 => x ++ pw x m
def it (f : Nat → Nat) : Nat → Nat → Nat
  | 0, s => s
  | m + 1, s => it f m (f s)
def sm (f : Nat → Int) (g : Nat → Nat) : Nat → Nat → Int
  | 0, _ => 0
  | m + 1, s => f s + sm f g m (g s)
theorem it_succ (f : Nat → Nat) : ∀ m s, it f m (f s) = f (it f m s)
  | 0, _ => rfl
  | m + 1, s => it_succ f m (f s)
theorem sm_shift (f : Nat → Int) (g : Nat → Nat) : ∀ m s, sm f g m (g s) = sm f g m s + f (it g m s) - f s
  | 0, s => by show (0 : Int) = 0 + f s - f s; omega
  | m + 1, s => by
    show f (g s) + sm f g m (g (g s)) = f s + sm f g m (g s) + f (it g m (g s)) - f s
    rw [sm_shift f g m (g s)]; omega
theorem along_pw {la : Int → Nat → Nat} (P : Perm la) {z : Nat → Int} {K : Nat} {x y : List Int} {j : Nat} {l : Int} (hl : Lets 2 [l]) {u : List Int} (hu : img [x, y] l = u) (g : List Int) :
    ∀ (m s : Nat), along (cr z (Tw la x y s j) K) [] (pw u m ++ g) = sm (fun s => along (cr z (Tw la x y s j) K) [] u) (la l) m s + along (cr z (Tw la x y (it (la l) m s) j) K) [] g
  | 0, s => (Int.zero_add _).symm
  | m + 1, s => by
    have e : Eqv (List.flatMap (img [x, y]) [l]) u := by simp [hu, Eqv]
    have h1 := along_two (φ := cr z (Tw la x y s j) K) (ψ := cr z (Tw la x y (act la [l] s) j) K) (a := u) (fun c t => cr_Tw P hl e c t) (pw u m ++ g) []
    rw [List.append_nil] at h1
    show along _ [] (u ++ pw u m ++ g) = along _ [] u + sm _ _ m _ + along _ [] g
    rw [List.append_assoc, along_app, List.nil_append, h1]
    have ih := along_pw P (z := z) (K := K) (j := j) hl hu g m (la l s)
    show _ + along (cr z (Tw la x y (la l s) j) K) [] _ = _
    rw [ih]; show _ = _ + _ + along (cr z (Tw la x y (it (la l) m (la l s)) j) K) [] g
    omega
/-! the turning: x turns 0 .. m-1, y turns 0 .. n-1 -/
def cy (m k : Nat) : Nat := if k + 1 < m then k + 1 else if k + 1 = m then 0 else k
def cyB (m k : Nat) : Nat := if m ≤ k then k else if k = 0 then m - 1 else k - 1
def cyl (m n : Nat) (s : Int) (k : Nat) : Nat := if s = 1 then cy m k else if s = -1 then cyB m k else if s = 2 then cy n k else cyB n k
theorem cy_cyB (m k : Nat) : cy m (cyB m k) = k := by
  unfold cy cyB
  by_cases h : m ≤ k
  · rw [if_pos h, if_neg (by omega), if_neg (by omega)]
  · rw [if_neg h]
    by_cases h0 : k = 0
    · rw [if_pos h0, if_neg (by omega), if_pos (by omega), h0]
    · rw [if_neg h0, if_pos (by omega)]; omega
theorem cyB_cy (m k : Nat) : cyB m (cy m k) = k := by
  unfold cy cyB
  by_cases h : k + 1 < m
  · rw [if_pos h, if_neg (by omega), if_neg (by omega)]; omega
  · rw [if_neg h]
    by_cases h0 : k + 1 = m
    · rw [if_pos h0, if_neg (by omega), if_pos rfl]; omega
    · rw [if_neg h0, if_pos (by omega)]
theorem cyl_perm (m n : Nat) : Perm (cyl m n) where
  back := fun s h1 h2 h3 k => by
    rcases (by omega : s = 1 ∨ s = -1 ∨ s = 2 ∨ s = -2) with rfl | rfl | rfl | rfl
    · exact cyB_cy m k
    · exact cy_cyB m k
    · exact cyB_cy n k
    · exact cy_cyB n k
theorem it_cy {m : Nat} : ∀ {i a : Nat}, a + i < m → it (cy m) i a = a + i
  | 0, a, _ => rfl
  | i + 1, a, h => by
    show it (cy m) i (cy m a) = _
    rw [show cy m a = a + 1 from if_pos (by omega), it_cy (by omega)]; omega
theorem it_full {m : Nat} (h : 2 ≤ m) : it (cy m) m 0 = 0 := by
  obtain ⟨k, rfl⟩ : ∃ k, m = k + 1 := ⟨m - 1, by omega⟩
  show it (cy (k + 1)) k (cy (k + 1) 0) = 0
  rw [it_succ, it_cy (by omega)]
  unfold cy
  rw [if_neg (by omega), if_pos (by omega)]
section
variable {d p : Nat} {z r : Nat → Int} {x y : List Int} (L : Lw d p z r (Gen [x, y]))
include L
theorem Lw.powAlone (F : Free x y) {m n : Nat} (hm : 2 ≤ m) (hn : 2 ≤ n) (hw : Eqv (pw x m ++ pw y n) (pre z (d * p))) (I : Nat) : ¬ Alone (Gen [x, y]) z (d * p) I := fun ha0 => by
  have ha := L.alone_mod ha0
  have hI := Nat.mod_lt I L.posN
  generalize I % (d * p) = I at ha hI
  have P := cyl_perm m n
  have one : ∀ s, along (cr z (Tw (cyl m n) x y s 0) I) [] (pw x m ++ (pw y n ++ [])) = ind (s = 0) := fun s => by
    have hT : ∀ {a b}, Tw (cyl m n) x y s 0 a → Eqv a b → Tw (cyl m n) x y s 0 b := fun h e => h.eqv e
    have h1 := L.aloneT ha hI hT Tw.gen _ (Nat.le_refl _)
    rw [if_pos hI, ← along_eqv (cr_coch (z := z) hT I) [] hw, ind_iff (Tw.nil P F)] at h1
    rw [List.append_nil]; exact h1
  have l1 : Lets 2 [(1 : Int)] := fun a h => by rw [List.mem_singleton.mp h]; omega
  have l2 : Lets 2 [(2 : Int)] := fun a h => by rw [List.mem_singleton.mp h]; omega
  have e1 : cyl m n 1 = cy m := rfl
  have e2 : cyl m n 2 = cy n := rfl
  have c0 : cy m 0 = 1 := if_pos (by omega)
  have d0 : cy n 0 = 1 := if_pos (by omega)
  have a0 := one 0
  have a1 := one 1
  rw [along_pw P l1 (u := x) rfl, along_pw P l2 (u := y) rfl, e1, e2] at a0 a1
  have i0 : it (cy m) m 0 = 0 := it_full hm
  have i1 : it (cy m) m 1 = 1 := by rw [← c0, it_succ, i0]
  have s1 := sm_shift (fun s => along (cr z (Tw (cyl m n) x y s 0) I) [] x) (cy m) m 0
  have s2 := sm_shift (fun s => along (cr z (Tw (cyl m n) x y s 0) I) [] y) (cy n) n 0
  rw [i0, c0] at s1
  rw [it_full hn, d0] at s2
  rw [i0, ind_pos rfl] at a0
  rw [i1, ind_neg (by omega)] at a1
  simp [along] at a0 a1
  omega
end
end My
namespace My
/-! ### two rows that do not commute make freely -/
def fz (r : List Int) : Nat := 8 ^ r.length + rankS r
theorem fz_less {xss : List (List Int)} {s : Step} {r : List Int} (h : near xss = some (s, r)) (hr : Lets 4 r) (ho : Lets 4 (xss.getD s.1 [])) : fz r < fz (xss.getD s.1 []) := by
  rcases (near_less h).2 with e | ⟨e, e'⟩
  · have h1 := rankS_lt hr
    have h2 : 8 ^ (r.length + 1) ≤ 8 ^ (xss.getD s.1 []).length := Nat.pow_le_pow_right (by omega) e
    rw [Nat.pow_succ] at h2
    unfold fz
    omega
  · have := rankS_less e hr ho e'
    unfold fz
    rw [e]; omega
def Comm (x y : List Int) : Prop := Eqv (x ++ y) (y ++ x)
theorem cen_sub (y : List Int) : Sub fun g => Comm g y where
  eqv := fun {a b} h e => ((e.symm.app (Eqv.refl y)).trans h).trans ((Eqv.refl y).app e)
  nil := by unfold Comm; rw [List.nil_append, List.append_nil]; exact Eqv.refl _
  app := fun {a b} ha hb => by
    have h1 : Eqv (a ++ b ++ y) (a ++ (y ++ b)) := by rw [List.append_assoc]; exact (Eqv.refl a).app hb
    have h2 : Eqv (a ++ (y ++ b)) (y ++ a ++ b) := by rw [← List.append_assoc]; exact ha.app (Eqv.refl b)
    rw [List.append_assoc] at h2
    exact h1.trans h2
  undone := fun {a} ha => by
    have h1 : Eqv (undone a ++ (a ++ y) ++ undone a) (undone a ++ (y ++ a) ++ undone a) := ((Eqv.refl _).app ha).app (Eqv.refl _)
    have h2 : Eqv (undone a ++ (a ++ y) ++ undone a) (y ++ undone a) := by
      have := (undo_left a).app (Eqv.refl (y ++ undone a))
      simpa using this
    have h3 : Eqv (undone a ++ (y ++ a) ++ undone a) (undone a ++ y) := by
      have := (Eqv.refl (undone a ++ y)).app (show Eqv (a ++ undone a) [] from plain_undo a)
      simpa using this
    exact h3.symm.trans (h1.symm.trans h2)
theorem Comm.symm {x y : List Int} (h : Comm x y) : Comm y x := Eqv.symm h
theorem flat_basis : ∀ {w : List Int}, Lets 2 w → w.flatMap (img [[1], [2]]) = w
  | [], _ => rfl
  | s :: w, h => by
    rw [List.flatMap_cons, flat_basis fun x hx => h x (by simp [hx])]
    have hs := h s (by simp)
    rcases (by omega : s = 1 ∨ s = -1 ∨ s = 2 ∨ s = -2) with rfl | rfl | rfl | rfl <;> rfl
theorem flat_lets {Ψ : List (List Int)} (h : ∀ xs ∈ Ψ, Lets 2 xs) {w : List Int} : Lets 2 (w.flatMap (img Ψ)) := fun x hx => by
  obtain ⟨y, _, hy⟩ := List.mem_flatMap.mp hx
  have key (j : Nat) : Lets 2 (Ψ.getD j []) := by
    rw [List.getD_eq_getElem?_getD]
    cases e : Ψ[j]? with
    | none => exact lets_nil
    | some ys => exact h ys (List.mem_of_getElem? e)
  unfold img at hy
  split at hy
  · exact key _ x hy
  · exact lets_undone (key _) x hy
theorem free_step {x y x' y' : List Int} (Ψ Φ : List (List Int)) (hΨ : Ψ.map (ren [x', y']) = [x, y]) (hΦ : Ψ.map (ren Φ) = [[1], [2]]) (hl : ∀ xs ∈ Ψ, Lets 2 xs) (h : Free x' y') : Free x y := by
  intro w hw e
  have nz : ∀ xs ∈ Ψ, ∀ x ∈ xs, x ≠ 0 := fun xs hxs x hx => (hl xs hxs x hx).2.2
  have h1 := flat_ren (φ := [x', y']) nz w
  rw [hΨ] at h1
  have h2 := h (w.flatMap (img Ψ)) (flat_lets hl) (h1.symm.trans e)
  have h3 := flat_ren (φ := Φ) nz w
  rw [hΦ, flat_basis hw] at h3
  refine h3.trans ?_
  have h4 := h2.hom (φ := Φ) (fun x hx => (flat_lets hl x hx).2.2) (fun x hx => (List.not_mem_nil hx).elim)
  simpa using h4
theorem free_end0 {x y : List Int} (hn : near [x, y] = none) (ax : adjOk x = true) (ay : adjOk y = true) (lx : Lets 4 x) (ly : Lets 4 y) (hx0 : x ≠ []) (hy0 : y ≠ []) : Free x y := by
  have ha : ∀ xs ∈ [x, y], adjOk xs = true := by simp [ax, ay]
  have nz : ∀ xs ∈ [x, y], ∀ t ∈ xs, t ≠ 0 := by
    intro xs hxs t ht
    simp at hxs
    rcases hxs with rfl | rfl
    · exact (lx t ht).2.2
    · exact (ly t ht).2.2
  have hne : ∀ s, -2 ≤ s → s ≤ 2 → s ≠ 0 → img [x, y] s ≠ [] := by
    intro s h1 h2 h3
    rcases (by omega : s = 1 ∨ s = -1 ∨ s = 2 ∨ s = -2) with rfl | rfl | rfl | rfl
    · exact hx0
    · intro e
      have : undone x = [] := e
      exact hx0 (by simpa [undone] using this)
    · exact hy0
    · intro e
      have : undone y = [] := e
      exact hy0 (by simpa [undone] using this)
  intro w hw e
  have hl := (act_plain (cyl_perm 0 0) _ w rfl hw).1
  have e2 : Eqv ((plain w).flatMap (img [x, y])) [] := (hom_plain _ _ rfl fun y hy => (hw y hy).2.2).trans e
  have hadj := plain_adj w
  show plain w = plain []
  generalize plain w = v at hl e2 hadj
  cases v with
  | nil => rfl
  | cons s r =>
    have hs := hl s (by simp)
    obtain ⟨P, p1, p2, p3⟩ := long hn ha nz r s [] (img [x, y] s) [] hs rfl (img_adj ha s) (List.length_pos_iff.mpr (hne s hs.1 hs.2.1 hs.2.2))
      (fun z hz hyz => by
        have := (n1_all hn ha nz (x := s) (y := z) hs hz hyz).1
        have := List.length_pos_iff.mpr (hne s hs.1 hs.2.1 hs.2.2)
        omega) hadj (fun z hz => hl z (by simp [hz])) (fun z hz => hne z (hl z (by simp [hz])).1 (hl z (by simp [hz])).2.1 (hl z (by simp [hz])).2.2)
    have p2' : Eqv P [] := p2.trans (by rw [List.flatMap_cons] at e2; exact e2)
    have : P = [] := by
      have p3 : plain P = plain [] := p2'
      rwa [plain_id p1] at p3
    rw [this] at p3
    simp at p3
theorem free_end {x y : List Int} (hn : near [x, y] = none) (ax : adjOk x = true) (ay : adjOk y = true) (lx : Lets 4 x) (ly : Lets 4 y) (nc : ¬ Comm x y) : Free x y :=
  free_end0 hn ax ay lx ly (fun e => nc (by subst e; exact (cen_sub y).nil)) (fun e => nc (by subst e; exact (cen_sub x).nil.symm))
theorem undL {r u x : List Int} (h : Eqv r (u ++ x)) : Eqv (undone u ++ (r ++ [])) x := by
  have h1 := (Eqv.refl (undone u)).app h
  have h2 := (undo_left u).app (Eqv.refl x)
  rw [List.append_nil]
  refine h1.trans ?_
  rw [← List.append_assoc]
  simpa using h2
theorem undL' {r u x : List Int} (h : Eqv r (undone u ++ x)) : Eqv (u ++ (r ++ [])) x := by
  have := undL h
  rwa [undone_undone] at this
theorem undR {r u x : List Int} (h : Eqv r (x ++ u)) : Eqv (r ++ (undone u ++ [])) x := by
  have h1 := h.app (Eqv.refl (undone u))
  have h2 := (Eqv.refl x).app (show Eqv (u ++ undone u) [] from plain_undo u)
  rw [List.append_nil]
  refine h1.trans ?_
  rw [List.append_assoc]
  simpa using h2
theorem undR' {r u x : List Int} (h : Eqv r (x ++ undone u)) : Eqv (r ++ (u ++ [])) x := by
  have := undR h
  rwa [undone_undone] at this
theorem ren_pair {x y x' y' a b : List Int} (ax : adjOk x = true) (ay : adjOk y = true) (h1 : Eqv (a.flatMap (img [x', y'])) x) (h2 : Eqv (b.flatMap (img [x', y'])) y) : [a, b].map (ren [x', y']) = [x, y] := by
  have e1 : plain (a.flatMap (img [x', y'])) = plain x := h1
  have e2 : plain (b.flatMap (img [x', y'])) = plain y := h2
  rw [plain_id ax] at e1
  rw [plain_id ay] at e2
  show [plain (a.flatMap (img [x', y'])), plain (b.flatMap (img [x', y']))] = _
  rw [e1, e2]
theorem app_nil_eqv (y : List Int) : Eqv (y ++ []) y := by rw [List.append_nil]; exact Eqv.refl _
theorem free_of : ∀ (n : Nat) (x y : List Int), fz x + fz y = n → adjOk x = true → adjOk y = true → Lets 4 x → Lets 4 y → ¬ Comm x y → Free x y := by
  intro n
  induction n using Nat.strongRecOn with
  | ind n ih =>
    intro x y hn ax ay lx ly nc
    cases hnear : near [x, y] with
    | none => exact free_end hnear ax ay lx ly nc
    | some sr =>
      obtain ⟨s, r⟩ := sr
      have hrow := near_row (n := 4) hnear (by simp [ax, ay]) (by simp; exact ⟨lx, ly⟩)
      obtain ⟨o, hp, ho, hne, hx, hnr⟩ := near_some hnear
      have er := nearer_some hnr
      have hp2 : s.1 < 2 := hp
      have ho2 : o < 2 := ho
      have lo : Lets 4 ([x, y].getD s.1 []) := by
        rcases (by omega : s.1 = 0 ∨ s.1 = 1) with e | e <;> rw [e]
        · exact lx
        · exact ly
      have hf := fz_less hnear hrow.2 lo
      have px := plain_id ax
      have py := plain_id ay
      have er' : Eqv r (firstOf s.2.2 (img [x, y] s.2.1) ([x, y].getD s.1 []) ++ firstOf s.2.2 ([x, y].getD s.1 []) (img [x, y] s.2.1)) := by rw [er]; exact joined_eqv _ _
      clear er hnr
      obtain ⟨p, t, b⟩ := s
      simp only at *
      rcases (by omega : (p = 0 ∧ o = 1) ∨ (p = 1 ∧ o = 0)) with ⟨rfl, rfl⟩ | ⟨rfl, rfl⟩
      · have lt : fz r + fz y < n := by have : fz r < fz x := hf; omega
        rcases hx with rfl | rfl <;> cases b
        · have e : Eqv (r ++ (undone y ++ [])) x := undR er'
          have nc' : ¬ Comm r y := fun h => nc ((cen_sub y).eqv ((cen_sub y).app (a := r) (b := undone y ++ []) h ((cen_sub y).app (a := undone y) (b := []) ((cen_sub y).undone (a := y) (Eqv.refl _ : Comm y y)) (cen_sub y).nil)) e)
          exact free_step [[1, -2], [2]] [[1, 2], [2]] (ren_pair (x' := r) (y' := y) ax ay (by rw [List.flatMap_cons, List.flatMap_cons, List.flatMap_nil]; exact e) (app_nil_eqv y)) rfl (by simp [Lets]) (ih _ lt r y rfl hrow.1 ay hrow.2 ly nc')
        · have e : Eqv (undone y ++ (r ++ [])) x := undL er'
          have nc' : ¬ Comm r y := fun h => nc ((cen_sub y).eqv ((cen_sub y).app (a := undone y) ((cen_sub y).undone (a := y) (Eqv.refl _ : Comm y y)) ((cen_sub y).app (a := r) (b := []) h (cen_sub y).nil)) e)
          exact free_step [[-2, 1], [2]] [[2, 1], [2]] (ren_pair (x' := r) (y' := y) ax ay (by rw [List.flatMap_cons, List.flatMap_cons, List.flatMap_nil]; exact e) (app_nil_eqv y)) rfl (by simp [Lets]) (ih _ lt r y rfl hrow.1 ay hrow.2 ly nc')
        · have e : Eqv (r ++ (y ++ [])) x := undR' er'
          have nc' : ¬ Comm r y := fun h => nc ((cen_sub y).eqv ((cen_sub y).app (a := r) (b := y ++ []) h ((cen_sub y).app (a := y) (b := []) (Eqv.refl _ : Comm y y) (cen_sub y).nil)) e)
          exact free_step [[1, 2], [2]] [[1, -2], [2]] (ren_pair (x' := r) (y' := y) ax ay (by rw [List.flatMap_cons, List.flatMap_cons, List.flatMap_nil]; exact e) (app_nil_eqv y)) rfl (by simp [Lets]) (ih _ lt r y rfl hrow.1 ay hrow.2 ly nc')
        · have e : Eqv (y ++ (r ++ [])) x := undL' er'
          have nc' : ¬ Comm r y := fun h => nc ((cen_sub y).eqv ((cen_sub y).app (a := y) (Eqv.refl _ : Comm y y) ((cen_sub y).app (a := r) (b := []) h (cen_sub y).nil)) e)
          exact free_step [[2, 1], [2]] [[-2, 1], [2]] (ren_pair (x' := r) (y' := y) ax ay (by rw [List.flatMap_cons, List.flatMap_cons, List.flatMap_nil]; exact e) (app_nil_eqv y)) rfl (by simp [Lets]) (ih _ lt r y rfl hrow.1 ay hrow.2 ly nc')
      · have lt : fz x + fz r < n := by have : fz r < fz y := hf; omega
        rcases hx with rfl | rfl <;> cases b
        · have e : Eqv (r ++ (undone x ++ [])) y := undR er'
          have nc' : ¬ Comm x r := fun h => nc (Comm.symm ((cen_sub x).eqv ((cen_sub x).app (a := r) (b := undone x ++ []) (Comm.symm h) ((cen_sub x).app (a := undone x) (b := []) ((cen_sub x).undone (a := x) (Eqv.refl _ : Comm x x)) (cen_sub x).nil)) e))
          exact free_step [[1], [2, -1]] [[1], [2, 1]] (ren_pair (x' := x) (y' := r) ax ay (app_nil_eqv x) (by rw [List.flatMap_cons, List.flatMap_cons, List.flatMap_nil]; exact e)) rfl (by simp [Lets]) (ih _ lt x r rfl ax hrow.1 lx hrow.2 nc')
        · have e : Eqv (undone x ++ (r ++ [])) y := undL er'
          have nc' : ¬ Comm x r := fun h => nc (Comm.symm ((cen_sub x).eqv ((cen_sub x).app (a := undone x) ((cen_sub x).undone (a := x) (Eqv.refl _ : Comm x x)) ((cen_sub x).app (a := r) (b := []) (Comm.symm h) (cen_sub x).nil)) e))
          exact free_step [[1], [-1, 2]] [[1], [1, 2]] (ren_pair (x' := x) (y' := r) ax ay (app_nil_eqv x) (by rw [List.flatMap_cons, List.flatMap_cons, List.flatMap_nil]; exact e)) rfl (by simp [Lets]) (ih _ lt x r rfl ax hrow.1 lx hrow.2 nc')
        · have e : Eqv (r ++ (x ++ [])) y := undR' er'
          have nc' : ¬ Comm x r := fun h => nc (Comm.symm ((cen_sub x).eqv ((cen_sub x).app (a := r) (b := x ++ []) (Comm.symm h) ((cen_sub x).app (a := x) (b := []) (Eqv.refl _ : Comm x x) (cen_sub x).nil)) e))
          exact free_step [[1], [2, 1]] [[1], [2, -1]] (ren_pair (x' := x) (y' := r) ax ay (app_nil_eqv x) (by rw [List.flatMap_cons, List.flatMap_cons, List.flatMap_nil]; exact e)) rfl (by simp [Lets]) (ih _ lt x r rfl ax hrow.1 lx hrow.2 nc')
        · have e : Eqv (x ++ (r ++ [])) y := undL' er'
          have nc' : ¬ Comm x r := fun h => nc (Comm.symm ((cen_sub x).eqv ((cen_sub x).app (a := x) (Eqv.refl _ : Comm x x) ((cen_sub x).app (a := r) (b := []) (Comm.symm h) (cen_sub x).nil)) e))
          exact free_step [[1], [1, 2]] [[1], [-1, 2]] (ren_pair (x' := x) (y' := r) ax ay (app_nil_eqv x) (by rw [List.flatMap_cons, List.flatMap_cons, List.flatMap_nil]; exact e)) rfl (by simp [Lets]) (ih _ lt x r rfl ax hrow.1 lx hrow.2 nc')
end My
namespace My
/-! ### powers of plain words -/
def jn (a b : List Int) : Prop := ∀ s t, a.getLast? = some s → b.head? = some t → s ≠ 0 - t
theorem jn_nil (b : List Int) : jn [] b := fun s t h => by simp at h
theorem jn_nil' (a : List Int) : jn a [] := fun s t _ h => by simp at h
theorem adj_append : ∀ {a b : List Int}, adjOk (a ++ b) = true ↔ adjOk a = true ∧ adjOk b = true ∧ jn a b
  | [], b => by simp [adj_nil, jn_nil]
  | [x], [] => by simp [adj_one, adj_nil, jn_nil']
  | [x], y :: b => by
    show adjOk (x :: y :: b) = true ↔ _
    rw [adj_cons2]
    constructor
    · rintro ⟨h1, h2⟩
      refine ⟨adj_one x, h2, fun s t hs ht => ?_⟩
      simp at hs ht; subst hs ht; exact h1
    · rintro ⟨_, h2, h3⟩
      exact ⟨h3 x y rfl rfl, h2⟩
  | x :: y :: a, b => by
    show adjOk (x :: y :: (a ++ b)) = true ↔ _
    rw [adj_cons2, adj_cons2]
    have ih := adj_append (a := y :: a) (b := b)
    rw [show y :: a ++ b = y :: (a ++ b) from rfl] at ih
    rw [ih]
    have e : jn (x :: y :: a) b ↔ jn (y :: a) b := by
      unfold jn
      rw [List.getLast?_cons_cons]
    rw [e]
    constructor
    · rintro ⟨h1, h2, h3, h4⟩; exact ⟨⟨h1, h2⟩, h3, h4⟩
    · rintro ⟨⟨h1, h2⟩, h3, h4⟩; exact ⟨h1, h2, h3, h4⟩
theorem pw_succ' (x : List Int) : ∀ m, pw x (m + 1) = pw x m ++ x
  | 0 => by simp [pw]
  | m + 1 => by
    show x ++ pw x (m + 1) = x ++ pw x m ++ x
    rw [pw_succ' x m, List.append_assoc]
theorem pw_add (x : List Int) (m : Nat) : ∀ n, pw x (m + n) = pw x m ++ pw x n
  | 0 => by simp [pw]
  | n + 1 => by rw [← Nat.add_assoc, pw_succ', pw_succ', pw_add x m n, List.append_assoc]
theorem pw_head {q : List Int} (hq : q ≠ []) (m : Nat) : (pw q (m + 1)).head? = q.head? := by
  cases q with
  | nil => exact absurd rfl hq
  | cons a t => rfl
theorem pw_last {q : List Int} (hq : q ≠ []) (m : Nat) : (pw q (m + 1)).getLast? = q.getLast? := by
  rw [pw_succ', List.getLast?_append]
  cases h : q.getLast? with
  | none => exact absurd (List.getLast?_eq_none_iff.mp h) hq
  | some s => rfl
theorem jn_of {a b a' b' : List Int} (ha : a'.getLast? = a.getLast?) (hb : b'.head? = b.head?) (h : jn a b) : jn a' b' := by
  unfold jn at h ⊢
  rw [ha, hb]; exact h
theorem pw_adj {q : List Int} (hq : q ≠ []) (h : adjOk (q ++ q) = true) : ∀ m, adjOk (pw q m) = true
  | 0 => rfl
  | 1 => by
    show adjOk (q ++ []) = true
    rw [List.append_nil]
    exact (adj_append.mp h).1
  | m + 2 => by
    show adjOk (q ++ pw q (m + 1)) = true
    have h' := adj_append.mp h
    exact adj_append.mpr ⟨h'.1, pw_adj hq h (m + 1), jn_of rfl (pw_head hq m) h'.2.2⟩
theorem undone_eq_nil {c : List Int} : undone c = [] ↔ c = [] := by simp [undone]
theorem pw_tail {c q : List Int} (hq : q ≠ []) (h : adjOk (c ++ q ++ undone c) = true) (h2 : adjOk (q ++ q) = true) (m : Nat) : adjOk (c ++ pw q (m + 1) ++ undone c) = true := by
  have h1 := adj_append.mp h
  have h3 := adj_append.mp h1.1
  refine adj_append.mpr ⟨adj_append.mpr ⟨h3.1, pw_adj hq h2 _, jn_of rfl (pw_head hq m) h3.2.2⟩, h1.2.1, ?_⟩
  refine jn_of (a := c ++ q) (b := undone c) ?_ rfl h1.2.2
  rw [List.getLast?_append, List.getLast?_append, pw_last hq]
theorem pw_conj (c q : List Int) : ∀ m, Eqv (pw (c ++ q ++ undone c) m) (c ++ pw q m ++ undone c)
  | 0 => by
    show Eqv [] (c ++ [] ++ undone c)
    rw [List.append_nil]
    exact Eqv.symm (plain_undo c)
  | m + 1 => by
    show Eqv (c ++ q ++ undone c ++ pw (c ++ q ++ undone c) m) (c ++ (q ++ pw q m) ++ undone c)
    refine ((Eqv.refl _).app (pw_conj c q m)).trans ?_
    have := ((Eqv.refl (c ++ q)).app (undo_left c)).app (Eqv.refl (pw q m ++ undone c))
    simpa using this
theorem pw_eqv {x y : List Int} (h : Eqv x y) : ∀ m, Eqv (pw x m) (pw y m)
  | 0 => Eqv.refl _
  | m + 1 => h.app (pw_eqv h m)
/-- a plain word that is not empty is a cyclically plain one between a tail and the tail undone -/
theorem tailed : ∀ (n : Nat) (v : List Int), v.length = n → v ≠ [] → adjOk v = true → (∀ x ∈ v, x ≠ 0) → ∃ c q, v = c ++ q ++ undone c ∧ q ≠ [] ∧ adjOk (q ++ q) = true := by
  intro n
  induction n using Nat.strongRecOn with
  | ind n ih =>
    intro v hn hv ha nz
    by_cases hj : jn v v
    · exact ⟨[], v, by simp [undone], hv, adj_append.mpr ⟨ha, ha, hj⟩⟩
    · obtain ⟨s, t, hs, ht, e⟩ : ∃ s t, v.getLast? = some s ∧ v.head? = some t ∧ s = 0 - t := by
        refine Classical.byContradiction fun hc => hj fun s t hs ht e => hc ⟨s, t, hs, ht, e⟩
      cases v with
      | nil => exact absurd rfl hv
      | cons a u =>
        simp at ht
        subst ht
        rcases snoc_or u with rfl | ⟨w, b, rfl⟩
        · simp at hs
          have := nz a (by simp)
          omega
        · have hb : b = s := by
            have : (a :: (w ++ [b])).getLast? = some b := by
              rw [show a :: (w ++ [b]) = (a :: w) ++ [b] from rfl, List.getLast?_append]; rfl
            rw [this] at hs; exact Option.some.inj hs
          subst hb
          have hw : w ≠ [] := by
            rintro rfl
            have := (adj_cons2.mp ha).1
            omega
          have ha2 : adjOk w = true := by
            have h1 : adjOk ([a] ++ (w ++ [b])) = true := ha
            exact (adj_append.mp (adj_append.mp h1).2.1).1
          obtain ⟨c, q, e1, e2, e3⟩ := ih w.length (by simp at hn; omega) w rfl hw ha2 fun x hx => nz x (by simp [hx])
          refine ⟨a :: c, q, ?_, e2, e3⟩
          have : undone (a :: c) = undone c ++ [0 - a] := by
            rw [show a :: c = [a] ++ c from rfl, undone_app]; rfl
          rw [this, e1, e]
          simp
end My
namespace My
/-! ### no product of powers is a power, no commutator is -/
theorem lets_pw {n : Int} {w : List Int} (h : Lets n w) : ∀ m, Lets n (pw w m)
  | 0 => lets_nil
  | m + 1 => lets_app h (lets_pw h m)
theorem flat_pw (f : Int → List Int) (w : List Int) : ∀ m, (pw w m).flatMap f = pw (w.flatMap f) m
  | 0 => rfl
  | m + 1 => by
    show (w ++ pw w m).flatMap f = _
    rw [List.flatMap_append, flat_pw f w m]; rfl
theorem plain_lets {w : List Int} (h : Lets 2 w) : Lets 2 (plain w) := (act_plain (cyl_perm 0 0) _ w rfl h).1
/-- a formal word that is a proper power, as a list -/
theorem formal {lam : List Int} (ha : adjOk lam = true) (hne : lam ≠ []) {w : List Int} {e : Nat} (hw : Lets 2 w) (he : 2 ≤ e) (h : Eqv (pw w e) lam) :
    ∃ c q, q ≠ [] ∧ lam = c ++ pw q e ++ undone c := by
  have h1 : Eqv (pw (plain w) e) lam := (pw_eqv (eqv_plain w) e).trans h
  obtain ⟨k, rfl⟩ : ∃ k, e = k + 1 := ⟨e - 1, by omega⟩
  by_cases hv : plain w = []
  · rw [hv] at h1
    have : ∀ m, pw [] m = [] := fun m => by
      induction m with
      | zero => rfl
      | succ m ih => show [] ++ pw [] m = []; rw [ih]; rfl
    rw [this] at h1
    have h2 : plain [] = plain lam := h1
    rw [plain_id ha] at h2
    exact absurd h2.symm hne
  · obtain ⟨c, q, e1, e2, e3⟩ := tailed _ _ rfl hv (plain_adj w) fun x hx => (plain_lets hw x hx).2.2
    refine ⟨c, q, e2, ?_⟩
    have hadj := plain_adj w
    rw [e1] at h1 hadj
    have h2 : plain (c ++ pw q (k + 1) ++ undone c) = plain lam := (pw_conj c q (k + 1)).symm.trans h1
    rw [plain_id ha, plain_id (pw_tail e2 hadj e3 k)] at h2
    exact h2.symm
theorem tail_none {lam c q : List Int} {e : Nat} (h : lam = c ++ pw q e ++ undone c) (hs : ∀ s t, lam.head? = some s → lam.getLast? = some t → t ≠ 0 - s) : c = [] := by
  cases c with
  | nil => rfl
  | cons a c =>
    exfalso
    have e1 : undone (a :: c) = undone c ++ [0 - a] := by
      rw [show a :: c = [a] ++ c from rfl, undone_app]; rfl
    refine hs a (0 - a) (by rw [h]; rfl) ?_ rfl
    rw [h, e1, ← List.append_assoc, List.getLast?_append]; rfl
theorem pw_mem {a x : Int} : ∀ {m : Nat}, x ∈ pw [a] m → x = a
  | m + 1, h => by
    rcases List.mem_append.mp (show x ∈ [a] ++ pw [a] m from h) with h | h
    · exact List.mem_singleton.mp h
    · exact pw_mem h
theorem pw_one_adj {a : Int} (ha : a ≠ 0) (m : Nat) : adjOk (pw [a] m) = true :=
  pw_adj (by simp) (by rw [show [a] ++ [a] = [a, a] from rfl, adj_cons2]; exact ⟨by omega, adj_one a⟩) m
theorem formalPow {m n : Nat} (hm : 1 ≤ m) (hn : 1 ≤ n) : ∀ w e, Lets 2 w → 2 ≤ e → ¬ Eqv (pw w e) (pw [1] m ++ pw [2] n) := by
  obtain ⟨m, rfl⟩ : ∃ k, m = k + 1 := ⟨m - 1, by omega⟩
  obtain ⟨n, rfl⟩ : ∃ k, n = k + 1 := ⟨n - 1, by omega⟩
  intro w e hw he h
  have hh : (pw [1] (m + 1) ++ pw [2] (n + 1)).head? = some 1 := rfl
  have hl : (pw [1] (m + 1) ++ pw [2] (n + 1)).getLast? = some 2 := by rw [List.getLast?_append, pw_last (by simp)]; rfl
  have ha : adjOk (pw [1] (m + 1) ++ pw [2] (n + 1)) = true := adj_append.mpr ⟨pw_one_adj (by omega) _, pw_one_adj (by omega) _, fun s t hs ht => by
    rw [pw_last (by simp)] at hs
    rw [pw_head (by simp)] at ht
    simp at hs ht
    omega⟩
  obtain ⟨c, q, hq, e1⟩ := formal ha (by intro e0; rw [e0] at hh; simp at hh) hw he h
  have hc := tail_none e1 fun s t hs ht => by
    rw [hh] at hs; rw [hl] at ht
    simp at hs ht; omega
  subst hc
  obtain ⟨e, rfl⟩ : ∃ k, e = k + 2 := ⟨e - 2, by omega⟩
  have e2 : pw [1] (m + 1) ++ pw [2] (n + 1) = q ++ pw q (e + 1) := by rw [e1]; simp [undone]; rfl
  have hsort : List.Pairwise (· ≤ ·) (pw [(1 : Int)] (m + 1) ++ pw [2] (n + 1)) := by
    refine List.pairwise_append.mpr ⟨?_, ?_, ?_⟩
    · refine List.pairwise_of_forall_mem_list fun a ha b hb => ?_
      rw [pw_mem ha, pw_mem hb]; omega
    · refine List.pairwise_of_forall_mem_list fun a ha b hb => ?_
      rw [pw_mem ha, pw_mem hb]; omega
    · intro a ha b hb
      rw [pw_mem ha, pw_mem hb]; omega
  rw [e2] at hsort hh hl
  have h3 := (List.pairwise_append.mp hsort).2.2
  have lq : q.getLast? = some 2 := by
    rw [List.getLast?_append, pw_last hq] at hl
    cases h : q.getLast? with
    | none => rw [h] at hl; simp at hl
    | some s => rw [h] at hl; simpa using hl
  have hq1 : (pw q (e + 1)).head? = some 1 := by
    rw [pw_head hq]
    cases q with
    | nil => exact absurd rfl hq
    | cons a t => exact hh
  have := h3 2 (List.mem_of_getLast? lq) 1 (List.mem_of_head? hq1)
  omega
theorem formalComm : ∀ w e, Lets 2 w → 2 ≤ e → ¬ Eqv (pw w e) [1, 2, -1, -2] := by
  intro w e hw he h
  obtain ⟨c, q, hq, e1⟩ := formal (lam := [1, 2, -1, -2]) rfl (by simp) hw he h
  have hc := tail_none e1 fun s t hs ht => by simp at hs ht; omega
  subst hc
  obtain ⟨e, rfl⟩ : ∃ k, e = k + 2 := ⟨e - 2, by omega⟩
  have e2 : [1, 2, -1, -2] = q ++ (q ++ pw q e) := by rw [e1]; simp [undone, pw]
  match q, hq, e2 with
  | [a], _, e2 => simp at e2; omega
  | [a, b], _, e2 => simp at e2; omega
  | a :: b :: c :: t, _, e2 =>
    have := congrArg List.length e2
    simp at this
    omega
/-- the road that both laws share -/
theorem noPower {x y : List Int} (F : Free x y) {lam : List Int} (hl : Lets 2 lam) (hf : ∀ w e, Lets 2 w → 2 ≤ e → ¬ Eqv (pw w e) lam)
    (hal : ∀ {d p : Nat} {z r : Nat → Int} {x y : List Int}, Lw d p z r (Gen [x, y]) → Free x y → Eqv (lam.flatMap (img [x, y])) (pre z (d * p)) → ∀ I, ¬ Alone (Gen [x, y]) z (d * p) I)
    {d : Nat} {z : Nat → Int} (R : Ring d z) (hp : Prim d z) (c : List Int) {p : Nat} (h2 : 2 ≤ p) : ¬ Eqv (lam.flatMap (img [x, y])) (c ++ pre z (d * p) ++ undone c) := by
  intro h
  have cj : ∀ {w : List Int}, Lets 2 w → Eqv (w.flatMap (img [undone c ++ x ++ c, undone c ++ y ++ c])) (undone c ++ w.flatMap (img [x, y]) ++ c) := by
    intro w hw
    induction w with
    | nil =>
      rw [List.flatMap_nil, List.flatMap_nil, List.append_nil]
      exact (undo_left c).symm
    | cons s w ih =>
      rw [List.flatMap_cons, List.flatMap_cons]
      have hs := hw s (by simp)
      have e1 : img [undone c ++ x ++ c, undone c ++ y ++ c] s = undone c ++ img [x, y] s ++ c := by
        rcases (by omega : s = 1 ∨ s = -1 ∨ s = 2 ∨ s = -2) with rfl | rfl | rfl | rfl
        · rfl
        · show undone (undone c ++ x ++ c) = undone c ++ undone x ++ c
          rw [undone_app, undone_app, undone_undone, List.append_assoc]
        · rfl
        · show undone (undone c ++ y ++ c) = undone c ++ undone y ++ c
          rw [undone_app, undone_app, undone_undone, List.append_assoc]
      rw [e1]
      refine ((Eqv.refl _).app (ih fun t ht => hw t (by simp [ht]))).trans ?_
      have := ((Eqv.refl (undone c ++ img [x, y] s)).app (show Eqv (c ++ undone c) [] from plain_undo c)).app (Eqv.refl (w.flatMap (img [x, y]) ++ c))
      simpa using this
  have F' : Free (undone c ++ x ++ c) (undone c ++ y ++ c) := by
    intro w hw e
    refine F w hw ?_
    have h1 := (cj hw).symm.trans e
    have h3 := ((Eqv.refl c).app h1).app (Eqv.refl (undone c))
    have h4 : Eqv (c ++ (undone c ++ w.flatMap (img [x, y]) ++ c) ++ undone c) (w.flatMap (img [x, y])) := by
      have h5 : Eqv (c ++ undone c) [] := plain_undo c
      have := (h5.app (Eqv.refl (w.flatMap (img [x, y])))).app h5
      simpa using this
    have h6 : Eqv (c ++ [] ++ undone c) [] := by rw [List.append_nil]; exact plain_undo c
    exact h4.symm.trans (h3.trans h6)
  have hlam : Eqv (lam.flatMap (img [undone c ++ x ++ c, undone c ++ y ++ c])) (pre z (d * p)) := by
    refine (cj hl).trans ?_
    refine (((Eqv.refl (undone c)).app h).app (Eqv.refl c)).trans ?_
    have h5 := undo_left c
    have := (h5.app (Eqv.refl (pre z (d * p)))).app h5
    simpa using this
  clear h cj F
  generalize undone c ++ x ++ c = x' at F' hlam
  generalize undone c ++ y ++ c = y' at F' hlam
  have S : Sub (Gen [x', y']) := ⟨Gen.eqv, Gen.nil _, Gen.app, Gen.undone⟩
  have full : Gen [x', y'] (pre z (d * p)) := ⟨lam, hl, hlam⟩
  obtain ⟨r, hc, pr, hinj⟩ := stack R hp
  obtain ⟨k0, hk, ⟨hk1, hk2⟩, hmin⟩ := least (p := fun k => 0 < k ∧ Gen [x', y'] (pre z (d * k))) (n := p) ⟨by omega, full⟩
  have powk : ∀ q, Gen [x', y'] (pre z (d * (k0 * q))) ∧ Eqv (pre z (d * (k0 * q))) (pw (pre z (d * k0)) q) := by
    intro q
    induction q with
    | zero => exact ⟨Gen.nil _, Eqv.refl _⟩
    | succ q ih =>
      have e : pre z (d * (k0 * (q + 1))) = pre z (d * (k0 * q)) ++ pre z (d * k0) := by
        rw [Nat.mul_succ, Nat.mul_add, pre_add R.per]
      rw [e, pw_succ']
      exact ⟨ih.1.app hk2, ih.2.app (Eqv.refl _)⟩
  have hp0 : p % k0 = 0 := by
    refine Classical.byContradiction fun hne => hmin (p % k0) (Nat.mod_lt _ hk1) ⟨by omega, ?_⟩
    have e : pre z (d * p) = pre z (d * (k0 * (p / k0))) ++ pre z (d * (p % k0)) := by
      rw [← pre_add R.per, ← Nat.mul_add, Nat.div_add_mod]
    rw [e] at full
    exact (S.left (powk (p / k0)).1 _).mp full
  by_cases hkp : k0 = p
  · subst hkp
    have L : Lw d k0 z r (Gen [x', y']) := ⟨R, S, hc, pr, hinj, full, fun k h1 h3 h4 => hmin k h3 ⟨h1, h4⟩, h2⟩
    have m : Made (Gen [x', y']) x' y' := ⟨Gen.one (xss := [x', y']) (x := 1) ⟨by simp, by simp, by omega⟩, Gen.one (xss := [x', y']) (x := 2) ⟨by simp, by simp, by omega⟩, by
      rintro Q SQ qx qy g ⟨w, hw, e⟩
      refine SQ.eqv ?_ e
      clear e
      induction w with
      | nil => exact SQ.nil
      | cons s w ih =>
        rw [List.flatMap_cons]
        refine SQ.app ?_ (ih fun t ht => hw t (by simp [ht]))
        have hs := hw s (by simp)
        simp at hs
        rcases (by omega : s = 1 ∨ s = -1 ∨ s = 2 ∨ s = -2) with rfl | rfl | rfl | rfl
        · exact qx
        · exact SQ.undone qx
        · exact qy
        · exact SQ.undone qy⟩
    exact L.false m (hal L F' hlam)
  · have hq : p = k0 * (p / k0) := by have := Nat.div_add_mod p k0; rw [hp0] at this; exact this.symm
    have hq2 : 2 ≤ p / k0 := by
      revert hq
      generalize p / k0 = q
      intro hq
      refine Classical.byContradiction fun hlt => ?_
      rcases (by omega : q = 0 ∨ q = 1) with e | e
      · rw [e, Nat.mul_zero] at hq; omega
      · rw [e, Nat.mul_one] at hq; exact hkp hq.symm
    obtain ⟨w0, hw0, e0⟩ := hk2
    have h3 := (powk (p / k0)).2
    rw [← hq] at h3
    have h4 : Eqv ((pw w0 (p / k0)).flatMap (img [x', y'])) (lam.flatMap (img [x', y'])) := by
      rw [flat_pw]
      exact (pw_eqv e0 _).trans (h3.symm.trans hlam.symm)
    have h5 : Eqv ((pw w0 (p / k0) ++ undone lam).flatMap (img [x', y'])) [] := by
      rw [List.flatMap_append, flat_undone fun s hs => (hl s hs).2.2]
      exact (h4.app (Eqv.refl _)).trans (plain_undo _)
    have h6 := F' _ (lets_app (lets_pw hw0 _) (lets_undone hl)) h5
    refine hf w0 (p / k0) hw0 hq2 ?_
    have h7 := h6.app (Eqv.refl lam)
    have h8 := (Eqv.refl (pw w0 (p / k0))).app (undo_left lam)
    rw [List.append_assoc] at h7
    simp at h7 h8
    exact h8.symm.trans h7
end My
namespace My
theorem lam_lets (m n : Nat) : Lets 2 (pw [1] m ++ pw [2] n) :=
  lets_app (lets_pw (fun x h => by rw [List.mem_singleton.mp h]; omega) m) (lets_pw (fun x h => by rw [List.mem_singleton.mp h]; omega) n)
theorem lam_flat (x y : List Int) (m n : Nat) : (pw [1] m ++ pw [2] n).flatMap (img [x, y]) = pw x m ++ pw y n := by
  rw [List.flatMap_append, flat_pw, flat_pw]
  have e1 : [(1 : Int)].flatMap (img [x, y]) = x := by rw [List.flatMap_cons, List.flatMap_nil, List.append_nil]; rfl
  have e2 : [(2 : Int)].flatMap (img [x, y]) = y := by rw [List.flatMap_cons, List.flatMap_nil, List.append_nil]; rfl
  rw [e1, e2]
theorem comm_lets : Lets 2 [(1 : Int), 2, -1, -2] := fun x h => by simp at h; omega
theorem comm_flat (x y : List Int) : [(1 : Int), 2, -1, -2].flatMap (img [x, y]) = x ++ y ++ undone x ++ undone y := by
  have e : [(1 : Int), 2, -1, -2].flatMap (img [x, y]) = x ++ (y ++ (undone x ++ (undone y ++ []))) := by
    rw [List.flatMap_cons, List.flatMap_cons, List.flatMap_cons, List.flatMap_cons, List.flatMap_nil]; rfl
  rw [e]; simp
/-- a word that is no power: neither empty nor turned into a power -/
def NoPow (g : List Int) : Prop := ¬ Eqv g [] ∧ ∀ (d : Nat) (z : Nat → Int), Ring d z → Prim d z → ∀ (c : List Int) (p : Nat), 2 ≤ p → ¬ Eqv g (c ++ pre z (d * p) ++ undone c)
theorem noPow_mul {x y : List Int} (F : Free x y) {m n : Nat} (hm : 2 ≤ m) (hn : 2 ≤ n) : NoPow (pw x m ++ pw y n) := by
  refine ⟨fun h => ?_, fun d z R hp c p h2 h => ?_⟩
  · rw [← lam_flat] at h
    have h1 := F _ (lam_lets m n) h
    refine formalPow (m := m) (n := n) (by omega) (by omega) [] 2 lets_nil (by omega) ?_
    exact h1.symm
  · rw [← lam_flat] at h
    exact noPower F (lam_lets m n) (formalPow (by omega) (by omega)) (fun L F' e I => by
      rw [lam_flat] at e
      exact L.powAlone F' hm hn e I) R hp c h2 h
theorem gen_made (x y : List Int) : Made (Gen [x, y]) x y := ⟨Gen.one (xss := [x, y]) (x := 1) ⟨by simp, by simp, by omega⟩, Gen.one (xss := [x, y]) (x := 2) ⟨by simp, by simp, by omega⟩, by
  rintro Q SQ qx qy g ⟨w, hw, e⟩
  refine SQ.eqv ?_ e
  clear e
  induction w with
  | nil => exact SQ.nil
  | cons s w ih =>
    rw [List.flatMap_cons]
    refine SQ.app ?_ (ih fun t ht => hw t (by simp [ht]))
    have hs := hw s (by simp)
    simp at hs
    rcases (by omega : s = 1 ∨ s = -1 ∨ s = 2 ∨ s = -2) with rfl | rfl | rfl | rfl
    · exact qx
    · exact SQ.undone qx
    · exact qy
    · exact SQ.undone qy⟩
theorem noPow_comm {x y : List Int} (F : Free x y) : NoPow (x ++ y ++ undone x ++ undone y) := by
  refine ⟨fun h => ?_, fun d z R hp c p h2 h => ?_⟩
  · rw [← comm_flat] at h
    have h1 := F _ comm_lets h
    exact formalComm [] 2 lets_nil (by omega) h1.symm
  · rw [← comm_flat] at h
    exact noPower F comm_lets formalComm (fun {d p z r x y} L F' e I => by
      rw [comm_flat] at e
      exact L.commAlone (gen_made x y) e I) R hp c h2 h
/-! ### rows that commute are powers of one -/
theorem Free.nc {x y : List Int} (F : Free x y) : ¬ Comm x y := fun h => by
  refine (noPow_comm F).1 ?_
  have h1 : Eqv (x ++ y ++ undone x ++ undone y) (y ++ x ++ undone x ++ undone y) := (h.app (Eqv.refl _)).app (Eqv.refl _)
  refine h1.trans ?_
  have h2 := ((Eqv.refl y).app (show Eqv (x ++ undone x) [] from plain_undo x)).app (Eqv.refl (undone y))
  have h3 : Eqv (y ++ undone y) [] := plain_undo y
  simp at h2 ⊢
  exact h2.trans h3
/-- powers of one word -/
def IsPow (u g : List Int) : Prop := (∃ m, Eqv g (pw u m)) ∨ ∃ m, Eqv g (pw (undone u) m)
theorem undone_pw (u : List Int) : ∀ m, undone (pw u m) = pw (undone u) m
  | 0 => rfl
  | m + 1 => by
    show undone (u ++ pw u m) = _
    rw [undone_app, undone_pw u m, pw_succ']
theorem pw_less (u : List Int) (m : Nat) : ∀ n, (n ≤ m ∧ Eqv (pw u m ++ pw (undone u) n) (pw u (m - n))) ∨ (m < n ∧ Eqv (pw u m ++ pw (undone u) n) (pw (undone u) (n - m)))
  | 0 => .inl ⟨by omega, by show Eqv (pw u m ++ []) _; rw [List.append_nil]; exact Eqv.refl _⟩
  | n + 1 => by
    have e : pw u m ++ pw (undone u) (n + 1) = pw u m ++ pw (undone u) n ++ undone u := by rw [pw_succ', List.append_assoc]
    rw [e]
    rcases pw_less u m n with ⟨h1, h2⟩ | ⟨h1, h2⟩
    · by_cases h : n + 1 ≤ m
      · refine .inl ⟨h, (h2.app (Eqv.refl (undone u))).trans ?_⟩
        rw [show m - n = (m - (n + 1)) + 1 by omega, pw_succ', List.append_assoc]
        have := (Eqv.refl (pw u (m - (n + 1)))).app (show Eqv (u ++ undone u) [] from plain_undo u)
        simpa using this
      · refine .inr ⟨by omega, (h2.app (Eqv.refl (undone u))).trans ?_⟩
        rw [show m - n = 0 by omega, show n + 1 - m = 1 by omega]
        show Eqv ([] ++ undone u) (undone u ++ [])
        rw [List.append_nil]; exact Eqv.refl _
    · refine .inr ⟨by omega, (h2.app (Eqv.refl (undone u))).trans ?_⟩
      rw [show n + 1 - m = (n - m) + 1 by omega, pw_succ']
      exact Eqv.refl _
theorem IsPow.sub (u : List Int) : Sub (IsPow u) where
  eqv := fun {a b} h e => by
    rcases h with ⟨m, h⟩ | ⟨m, h⟩
    · exact .inl ⟨m, e.symm.trans h⟩
    · exact .inr ⟨m, e.symm.trans h⟩
  nil := .inl ⟨0, Eqv.refl _⟩
  app := fun {a b} h h' => by
    rcases h with ⟨m, h⟩ | ⟨m, h⟩ <;> rcases h' with ⟨n, h'⟩ | ⟨n, h'⟩
    · exact .inl ⟨m + n, by rw [pw_add]; exact h.app h'⟩
    · rcases pw_less u m n with ⟨_, e⟩ | ⟨_, e⟩
      · exact .inl ⟨_, (h.app h').trans e⟩
      · exact .inr ⟨_, (h.app h').trans e⟩
    · have := pw_less (undone u) m n
      rw [undone_undone] at this
      rcases this with ⟨_, e⟩ | ⟨_, e⟩
      · exact .inr ⟨_, (h.app h').trans e⟩
      · exact .inl ⟨_, (h.app h').trans e⟩
    · exact .inr ⟨m + n, by rw [pw_add]; exact h.app h'⟩
  undone := fun {a} h => by
    rcases h with ⟨m, h⟩ | ⟨m, h⟩
    · exact .inr ⟨m, by rw [← undone_pw]; exact h.undone⟩
    · exact .inl ⟨m, by
        have := h.undone
        rwa [undone_pw, undone_undone] at this⟩
end My
namespace My
theorem comm_of : ∀ (n : Nat) (x y : List Int), fz x + fz y = n → adjOk x = true → adjOk y = true → Lets 4 x → Lets 4 y → Comm x y → ∃ u, adjOk u = true ∧ Lets 4 u ∧ IsPow u x ∧ IsPow u y := by
  intro n
  induction n using Nat.strongRecOn with
  | ind n ih =>
    intro x y hn ax ay lx ly nc
    cases hnear : near [x, y] with
    | none =>
      have self (u : List Int) : IsPow u u := .inl ⟨1, by show Eqv u (u ++ []); rw [List.append_nil]; exact Eqv.refl _⟩
      by_cases hx0 : x = []
      · subst hx0; exact ⟨y, ay, ly, (IsPow.sub y).nil, self y⟩
      · by_cases hy0 : y = []
        · subst hy0; exact ⟨x, ax, lx, self x, (IsPow.sub x).nil⟩
        · exact absurd nc (free_end0 hnear ax ay lx ly hx0 hy0).nc
    | some sr =>
      obtain ⟨s, r⟩ := sr
      have hrow := near_row (n := 4) hnear (by simp [ax, ay]) (by simp; exact ⟨lx, ly⟩)
      obtain ⟨o, hp, ho, hne, hx, hnr⟩ := near_some hnear
      have er := nearer_some hnr
      have hp2 : s.1 < 2 := hp
      have ho2 : o < 2 := ho
      have lo : Lets 4 ([x, y].getD s.1 []) := by
        rcases (by omega : s.1 = 0 ∨ s.1 = 1) with e | e <;> rw [e]
        · exact lx
        · exact ly
      have hf := fz_less hnear hrow.2 lo
      have px := plain_id ax
      have py := plain_id ay
      have er' : Eqv r (firstOf s.2.2 (img [x, y] s.2.1) ([x, y].getD s.1 []) ++ firstOf s.2.2 ([x, y].getD s.1 []) (img [x, y] s.2.1)) := by rw [er]; exact joined_eqv _ _
      clear er hnr
      obtain ⟨p, t, b⟩ := s
      simp only at *
      rcases (by omega : (p = 0 ∧ o = 1) ∨ (p = 1 ∧ o = 0)) with ⟨rfl, rfl⟩ | ⟨rfl, rfl⟩
      · have lt : fz r + fz y < n := by have : fz r < fz x := hf; omega
        rcases hx with rfl | rfl <;> cases b
        · have e : Eqv (r ++ (undone y ++ [])) x := undR er'
          have nc' : Comm r y := (cen_sub y).eqv ((cen_sub y).app (a := x) (b := y) nc (Eqv.refl _ : Comm y y)) (Eqv.symm er')
          obtain ⟨u, u1, u2, hr, ho⟩ := ih _ lt r y rfl hrow.1 ay hrow.2 ly nc'
          exact ⟨u, u1, u2, (IsPow.sub u).eqv ((IsPow.sub u).app (a := r) (b := undone y ++ []) hr ((IsPow.sub u).app (a := undone y) (b := []) ((IsPow.sub u).undone ho) (IsPow.sub u).nil)) e, ho⟩
        · have e : Eqv (undone y ++ (r ++ [])) x := undL er'
          have nc' : Comm r y := (cen_sub y).eqv ((cen_sub y).app (a := y) (b := x) (Eqv.refl _ : Comm y y) nc) (Eqv.symm er')
          obtain ⟨u, u1, u2, hr, ho⟩ := ih _ lt r y rfl hrow.1 ay hrow.2 ly nc'
          exact ⟨u, u1, u2, (IsPow.sub u).eqv ((IsPow.sub u).app (a := undone y) ((IsPow.sub u).undone ho) ((IsPow.sub u).app (a := r) (b := []) hr (IsPow.sub u).nil)) e, ho⟩
        · have e : Eqv (r ++ (y ++ [])) x := undR' er'
          have nc' : Comm r y := (cen_sub y).eqv ((cen_sub y).app (a := x) (b := undone y) nc ((cen_sub y).undone (a := y) (Eqv.refl _ : Comm y y))) (Eqv.symm er')
          obtain ⟨u, u1, u2, hr, ho⟩ := ih _ lt r y rfl hrow.1 ay hrow.2 ly nc'
          exact ⟨u, u1, u2, (IsPow.sub u).eqv ((IsPow.sub u).app (a := r) (b := y ++ []) hr ((IsPow.sub u).app (a := y) (b := []) ho (IsPow.sub u).nil)) e, ho⟩
        · have e : Eqv (y ++ (r ++ [])) x := undL' er'
          have nc' : Comm r y := (cen_sub y).eqv ((cen_sub y).app (a := undone y) (b := x) ((cen_sub y).undone (a := y) (Eqv.refl _ : Comm y y)) nc) (Eqv.symm er')
          obtain ⟨u, u1, u2, hr, ho⟩ := ih _ lt r y rfl hrow.1 ay hrow.2 ly nc'
          exact ⟨u, u1, u2, (IsPow.sub u).eqv ((IsPow.sub u).app (a := y) ho ((IsPow.sub u).app (a := r) (b := []) hr (IsPow.sub u).nil)) e, ho⟩
      · have lt : fz x + fz r < n := by have : fz r < fz y := hf; omega
        rcases hx with rfl | rfl <;> cases b
        · have e : Eqv (r ++ (undone x ++ [])) y := undR er'
          have nc' : Comm x r := (Comm.symm ((cen_sub x).eqv ((cen_sub x).app (a := y) (b := x) (Comm.symm nc) (Eqv.refl _ : Comm x x)) (Eqv.symm er')))
          obtain ⟨u, u1, u2, ho, hr⟩ := ih _ lt x r rfl ax hrow.1 lx hrow.2 nc'
          exact ⟨u, u1, u2, ho, (IsPow.sub u).eqv ((IsPow.sub u).app (a := r) (b := undone x ++ []) hr ((IsPow.sub u).app (a := undone x) (b := []) ((IsPow.sub u).undone ho) (IsPow.sub u).nil)) e⟩
        · have e : Eqv (undone x ++ (r ++ [])) y := undL er'
          have nc' : Comm x r := (Comm.symm ((cen_sub x).eqv ((cen_sub x).app (a := x) (b := y) (Eqv.refl _ : Comm x x) (Comm.symm nc)) (Eqv.symm er')))
          obtain ⟨u, u1, u2, ho, hr⟩ := ih _ lt x r rfl ax hrow.1 lx hrow.2 nc'
          exact ⟨u, u1, u2, ho, (IsPow.sub u).eqv ((IsPow.sub u).app (a := undone x) ((IsPow.sub u).undone ho) ((IsPow.sub u).app (a := r) (b := []) hr (IsPow.sub u).nil)) e⟩
        · have e : Eqv (r ++ (x ++ [])) y := undR' er'
          have nc' : Comm x r := (Comm.symm ((cen_sub x).eqv ((cen_sub x).app (a := y) (b := undone x) (Comm.symm nc) ((cen_sub x).undone (a := x) (Eqv.refl _ : Comm x x))) (Eqv.symm er')))
          obtain ⟨u, u1, u2, ho, hr⟩ := ih _ lt x r rfl ax hrow.1 lx hrow.2 nc'
          exact ⟨u, u1, u2, ho, (IsPow.sub u).eqv ((IsPow.sub u).app (a := r) (b := x ++ []) hr ((IsPow.sub u).app (a := x) (b := []) ho (IsPow.sub u).nil)) e⟩
        · have e : Eqv (x ++ (r ++ [])) y := undL' er'
          have nc' : Comm x r := (Comm.symm ((cen_sub x).eqv ((cen_sub x).app (a := undone x) (b := y) ((cen_sub x).undone (a := x) (Eqv.refl _ : Comm x x)) (Comm.symm nc)) (Eqv.symm er')))
          obtain ⟨u, u1, u2, ho, hr⟩ := ih _ lt x r rfl ax hrow.1 lx hrow.2 nc'
          exact ⟨u, u1, u2, ho, (IsPow.sub u).eqv ((IsPow.sub u).app (a := x) ho ((IsPow.sub u).app (a := r) (b := []) hr (IsPow.sub u).nil)) e⟩
end My
namespace My
/-! ### tails, parts and roots as the program finds them -/
def tCond (row : List Int) (k : Nat) : Prop := 2 * k + 1 < row.length ∧ row.getD k 0 = 0 - row.getD (row.length - 1 - k) 0
instance (row : List Int) (k : Nat) : Decidable (tCond row k) := by unfold tCond; infer_instance
def tailGo (row : List Int) : Nat → Nat → Nat
  | 0, c => c
  | f + 1, c => if tCond row c then tailGo row f (c + 1) else c
def tailN (row : List Int) : Nat := tailGo row row.length 0
def IsTail (row : List Int) (c : Nat) : Prop := (∀ k, k < c → tCond row k) ∧ ¬ tCond row c
theorem tailGo_is {row : List Int} : ∀ {f c : Nat}, row.length ≤ f + c → (∀ k, k < c → tCond row k) → IsTail row (tailGo row f c)
  | 0, c, h, hk => ⟨hk, fun (e : tCond row c) => by have := e.1; omega⟩
  | f + 1, c, h, hk => by
    unfold tailGo
    split
    · rename_i e
      refine tailGo_is (by omega) fun k hkc => ?_
      by_cases h' : k = c
      · subst h'; exact e
      · exact hk k (by omega)
    · rename_i e
      exact ⟨hk, e⟩
theorem tailN_is (row : List Int) : IsTail row (tailN row) := tailGo_is (by omega) fun k h => by omega
theorem IsTail.uniq {row : List Int} {a b : Nat} (h : IsTail row a) (h' : IsTail row b) : a = b := by
  rcases Nat.lt_trichotomy a b with l | l | l
  · exact absurd (h'.1 a l) h.2
  · exact l
  · exact absurd (h.1 b l) h'.2
def midN (row : List Int) : List Int := (row.drop (tailN row)).take (row.length - 2 * tailN row)
theorem getD_drop (l : List Int) (n i : Nat) : (l.drop n).getD i 0 = l.getD (n + i) 0 := by
  rw [List.getD_eq_getElem?_getD, List.getD_eq_getElem?_getD, List.getElem?_drop]
theorem getD_take {l : List Int} {n i : Nat} (h : i < n) : (l.take n).getD i 0 = l.getD i 0 := by
  rw [List.getD_eq_getElem?_getD, List.getD_eq_getElem?_getD, List.getElem?_take_of_lt h]
theorem getD_app_lt {a b : List Int} {i : Nat} (h : i < a.length) : (a ++ b).getD i 0 = a.getD i 0 := by
  rw [List.getD_eq_getElem?_getD, List.getD_eq_getElem?_getD, List.getElem?_append_left h]
theorem getD_app_ge {a b : List Int} {i : Nat} (h : a.length ≤ i) : (a ++ b).getD i 0 = b.getD (i - a.length) 0 := by
  rw [List.getD_eq_getElem?_getD, List.getD_eq_getElem?_getD, List.getElem?_append_right h]
theorem getD_undone {xs : List Int} {j : Nat} (hj : j < xs.length) : (undone xs).getD j 0 = 0 - xs.getD (xs.length - 1 - j) 0 := by
  unfold undone
  rw [List.getD_eq_getElem?_getD, List.getElem?_map, List.getElem?_reverse hj, List.getElem?_eq_getElem (by omega), List.getD_eq_getElem?_getD, List.getElem?_eq_getElem (by omega)]
  rfl
theorem getD_memI {l : List Int} {i : Nat} (h : i < l.length) : l.getD i 0 ∈ l := by
  rw [List.getD_eq_getElem?_getD, List.getElem?_eq_getElem h]
  exact List.getElem_mem h
theorem ext_getD {a b : List Int} (h : a.length = b.length) (h' : ∀ i, i < a.length → a.getD i 0 = b.getD i 0) : a = b := by
  refine List.ext_getElem h fun i h1 h2 => ?_
  have := h' i h1
  rw [List.getD_eq_getElem?_getD, List.getD_eq_getElem?_getD, List.getElem?_eq_getElem h1, List.getElem?_eq_getElem h2] at this
  exact this
theorem last_getD {l : List Int} {s : Int} (h : l.getLast? = some s) : s = l.getD (l.length - 1) 0 := by
  rw [List.getLast?_eq_getElem?] at h
  rw [List.getD_eq_getElem?_getD, h]; rfl
theorem head_getD {l : List Int} {s : Int} (h : l.head? = some s) : s = l.getD 0 0 := by
  cases l with
  | nil => simp at h
  | cons a t => simp at h; subst h; rfl
/-- what the tail leaves -/
theorem tail_shape {row : List Int} (h0 : row ≠ []) (ha : adjOk row = true) (nz : ∀ x ∈ row, x ≠ 0) :
    2 * tailN row < row.length ∧ row = row.take (tailN row) ++ midN row ++ undone (row.take (tailN row)) ∧ midN row ≠ [] ∧ adjOk (midN row ++ midN row) = true := by
  have ht := tailN_is row
  unfold midN
  generalize tailN row = c at ht
  have hl : 0 < row.length := List.length_pos_iff.mpr h0
  have h2 : 2 * c < row.length := by
    by_cases hc : c = 0
    · omega
    · have h1 := ht.1 (c - 1) (by omega)
      have := h1.1
      refine Classical.byContradiction fun hn => ?_
      have h3 := (adj_iff _).mp ha (c - 1) (by omega)
      have h4 := h1.2
      rw [show row.length - 1 - (c - 1) = c - 1 + 1 by omega] at h4
      exact h3 h4
  have lm : ((row.drop c).take (row.length - 2 * c)).length = row.length - 2 * c := by
    rw [List.length_take, List.length_drop]; omega
  have gm : ∀ i, i < row.length - 2 * c → ((row.drop c).take (row.length - 2 * c)).getD i 0 = row.getD (c + i) 0 := fun i hi => by
    rw [getD_take hi, getD_drop]
  have lt : (row.take c).length = c := by rw [List.length_take]; omega
  refine ⟨h2, ?_, ?_, ?_⟩
  · refine ext_getD ?_ fun i hi => ?_
    · rw [List.length_append, List.length_append, lm, undone_length, lt]; omega
    · by_cases h1 : i < c
      · rw [getD_app_lt (by rw [List.length_append, lt]; omega), getD_app_lt (by omega), getD_take h1]
      · by_cases h3 : i < row.length - c
        · rw [getD_app_lt (by rw [List.length_append, lt, lm]; omega), getD_app_ge (by omega), lt, gm _ (by omega)]
          congr 1; omega
        · rw [getD_app_ge (by rw [List.length_append, lt, lm]; omega), List.length_append, lt, lm, getD_undone (by rw [lt]; omega), lt, getD_take (by omega)]
          have h4 := (ht.1 (c - 1 - (i - (c + (row.length - 2 * c)))) (by omega)).2
          rw [show row.length - 1 - (c - 1 - (i - (c + (row.length - 2 * c)))) = i by omega] at h4
          omega
  · intro e
    rw [e] at lm
    simp at lm; omega
  · have am : adjOk ((row.drop c).take (row.length - 2 * c)) = true := by
      have h1 : adjOk (row.take c ++ row.drop c) = true := by rw [List.take_append_drop]; exact ha
      have h3 : adjOk ((row.drop c).take (row.length - 2 * c) ++ (row.drop c).drop (row.length - 2 * c)) = true := by rw [List.take_append_drop]; exact (adj_append.mp h1).2.1
      exact (adj_append.mp h3).1
    refine adj_append.mpr ⟨am, am, fun s t hs ht' e => ?_⟩
    have e1 := last_getD hs
    have e2 := head_getD ht'
    rw [lm, gm _ (by omega)] at e1
    rw [gm _ (by omega)] at e2
    have hn := ht.2
    unfold tCond at hn
    by_cases h5 : 2 * c + 1 < row.length
    · refine hn ⟨h5, ?_⟩
      rw [show c + (row.length - 2 * c - 1) = row.length - 1 - c by omega] at e1
      rw [show c + 0 = c by omega] at e2
      omega
    · have h6 := nz _ (getD_memI (l := row) (i := c) (by omega))
      rw [show c + (row.length - 2 * c - 1) = c by omega] at e1
      rw [show c + 0 = c by omega] at e2
      omega
/-! periods -/
def zOf (q : List Int) (i : Nat) : Int := q.getD (i % q.length) 0
def rot (q : List Int) (k : Nat) : List Int := q.drop k ++ q.take k
theorem rot_len (q : List Int) (k : Nat) : (rot q k).length = q.length := by
  unfold rot
  rw [List.length_append, List.length_drop, List.length_take]; omega
theorem rot_getD {q : List Int} {k i : Nat} (hk : k ≤ q.length) (hi : i < q.length) : (rot q k).getD i 0 = zOf q (i + k) := by
  unfold rot zOf
  by_cases h : i < q.length - k
  · rw [getD_app_lt (by rw [List.length_drop]; exact h), getD_drop, Nat.mod_eq_of_lt (by omega)]
    congr 1; omega
  · rw [getD_app_ge (by rw [List.length_drop]; omega), List.length_drop, getD_take (by omega)]
    congr 1
    rw [show i + k = (i - (q.length - k)) + q.length by omega, Nat.add_mod_right, Nat.mod_eq_of_lt (by omega)]
theorem zOf_per (q : List Int) (i : Nat) : zOf q (i + q.length) = zOf q i := by unfold zOf; rw [Nat.add_mod_right]
theorem zOf_lt {q : List Int} {i : Nat} (h : i < q.length) : zOf q i = q.getD i 0 := by unfold zOf; rw [Nat.mod_eq_of_lt h]
theorem rot_iff {q : List Int} (h0 : q ≠ []) {k : Nat} (hk : k ≤ q.length) : rot q k = q ↔ ∀ i, zOf q (i + k) = zOf q i := by
  have hl : 0 < q.length := List.length_pos_iff.mpr h0
  constructor
  · intro h i
    have h1 := rot_getD hk (Nat.mod_lt i hl)
    rw [h] at h1
    have h2 : zOf q (i % q.length + k) = zOf q (i + k) := by unfold zOf; rw [Nat.mod_add_mod]
    rw [← h2, ← h1]; rfl
  · intro h
    refine ext_getD (rot_len q k) fun i hi => ?_
    rw [rot_len] at hi
    rw [rot_getD hk hi, h, zOf_lt hi]
theorem pre_zOf (q : List Int) : pre (zOf q) q.length = q := by
  refine ext_getD (by simp [pre]) fun i hi => ?_
  have hi' : i < q.length := by simpa [pre] using hi
  unfold pre
  rw [List.getD_eq_getElem?_getD, List.getElem?_map, List.getElem?_range hi', ← zOf_lt hi']; rfl
def pCond (q : List Int) (k : Nat) : Prop := 0 < k ∧ q.length % k = 0 ∧ rot q k = q
instance (q : List Int) (k : Nat) : Decidable (pCond q k) := by unfold pCond; infer_instance
def IsPart (q : List Int) (k : Nat) : Prop := pCond q k ∧ k ≤ q.length ∧ ∀ j, j < k → ¬ pCond q j
theorem part_self {q : List Int} (h0 : q ≠ []) : pCond q q.length := ⟨List.length_pos_iff.mpr h0, Nat.mod_self _, by simp [rot]⟩
theorem IsPart.uniq {q : List Int} {a b : Nat} (h : IsPart q a) (h' : IsPart q b) : a = b := by
  rcases Nat.lt_trichotomy a b with l | l | l
  · exact absurd h.1 (h'.2.2 a l)
  · exact l
  · exact absurd h'.1 (h.2.2 b l)
theorem part_ex {q : List Int} (h0 : q ≠ []) : ∃ k, IsPart q k := by
  obtain ⟨m, h1, h2, h3⟩ := least (part_self h0)
  exact ⟨m, h2, h1, h3⟩
/-- the least part divides every period -/
theorem part_dvd {q : List Int} (h0 : q ≠ []) {k : Nat} (h : IsPart q k) : Prim k (zOf q) := by
  have hl : 0 < q.length := List.length_pos_iff.mpr h0
  have pk := (rot_iff h0 h.2.1).mp h.1.2.2
  obtain ⟨m, h1, ⟨h2, h3⟩, h4⟩ := least (p := fun k => 0 < k ∧ ∀ i, zOf q (i + k) = zOf q i) (n := k) ⟨h.1.1, pk⟩
  have dv : ∀ j, (∀ i, zOf q (i + j) = zOf q i) → m ∣ j := by
    intro j hj
    refine Nat.dvd_of_mod_eq_zero (Classical.byContradiction fun hne => h4 (j % m) (Nat.mod_lt _ h2) ⟨by omega, fun i => ?_⟩)
    rw [← per_mul h3 (j / m) (i + j % m), Nat.add_assoc, Nat.mod_add_div, hj]
  have hm : m = k := by
    refine Classical.byContradiction fun hne => h.2.2 m (by omega) ⟨h2, ?_, ?_⟩
    · exact Nat.mod_eq_zero_of_dvd (dv _ (zOf_per q))
    · exact (rot_iff h0 (by have := h.2.1; omega)).mpr h3
  intro j hj
  rw [← hm]; exact dv j hj
theorem ring_of {q : List Int} (h0 : q ≠ []) (ha : adjOk (q ++ q) = true) (nz : ∀ x ∈ q, x ≠ 0) {k : Nat} (h : pCond q k) (hk : k ≤ q.length) : Ring k (zOf q) := by
  have hl : 0 < q.length := List.length_pos_iff.mpr h0
  refine ⟨h.1, (rot_iff h0 hk).mp h.2.2, fun i => nz _ (getD_memI (Nat.mod_lt _ hl)), fun i => ?_⟩
  have hi := Nat.mod_lt i hl
  have h1 := (adj_iff _).mp ha (i % q.length) (by rw [List.length_append]; omega)
  rw [getD_app_lt hi] at h1
  have h2 : zOf q (i + 1) = (q ++ q).getD (i % q.length + 1) 0 := by
    unfold zOf
    by_cases hj : i % q.length + 1 < q.length
    · rw [getD_app_lt hj, ← Nat.mod_add_mod, Nat.mod_eq_of_lt hj]
    · rw [getD_app_ge (by omega), ← Nat.mod_add_mod, show i % q.length + 1 = q.length by omega, Nat.mod_self, Nat.sub_self]
  rw [h2]
  intro e
  refine h1 ?_
  have : zOf q i = q.getD (i % q.length) 0 := rfl
  omega
end My
namespace My
def partN (q : List Int) : Nat := (((List.range q.length).map fun i => i + 1).find? fun k => decide (pCond q k)).getD q.length
theorem partN_is {q : List Int} (h0 : q ≠ []) : IsPart q (partN q) := by
  have hl : 0 < q.length := List.length_pos_iff.mpr h0
  unfold partN
  cases h : ((List.range q.length).map fun i => i + 1).find? fun k => decide (pCond q k) with
  | none =>
    have := List.find?_eq_none.mp h q.length (List.mem_map.mpr ⟨q.length - 1, List.mem_range.mpr (by omega), by omega⟩)
    simp [part_self h0] at this
  | some k =>
    show IsPart q k
    obtain ⟨h1, as, bs, h2, h3⟩ := List.find?_eq_some_iff_append.mp h
    have hk : k ∈ (List.range q.length).map fun i => i + 1 := by rw [h2]; simp
    obtain ⟨i, hi, rfl⟩ := List.mem_map.mp hk
    have hi' := List.mem_range.mp hi
    refine ⟨by simpa using h1, by omega, fun j hj hc => ?_⟩
    have e : as = (List.range i).map fun i => i + 1 := by
      have hlen : as.length = i := by
        have h4 : ((List.range q.length).map fun i => i + 1)[as.length]? = some (i + 1) := by rw [h2]; simp
        rw [List.getElem?_map] at h4
        cases h5 : (List.range q.length)[as.length]? with
        | none => rw [h5] at h4; simp at h4
        | some v =>
          rw [h5] at h4
          have h6 : as.length < q.length := by
            have := (List.getElem?_eq_some_iff.mp h5).1
            simpa using this
          rw [List.getElem?_range h6] at h5
          simp at h4 h5
          omega
      have h4 : as = ((List.range q.length).map fun i => i + 1).take i := by rw [h2, ← hlen]; simp
      rw [h4, ← List.map_take, List.take_range, Nat.min_eq_left (by omega)]
    have hm : j ∈ as := by
      rw [e]
      have := hc.1
      exact List.mem_map.mpr ⟨j - 1, List.mem_range.mpr (by omega), by omega⟩
    have := h3 j hm
    simp [hc] at this
def rootR (row : List Int) : List Int × Nat :=
  if row = [] then ([], 0) else (row.take (tailN row) ++ (midN row).take (partN (midN row)) ++ undone (row.take (tailN row)), (midN row).length / partN (midN row))
theorem NoPow.eqv {g h : List Int} (n : NoPow g) (e : Eqv g h) : NoPow h := ⟨fun h' => n.1 (e.trans h'), fun d z R hp c p h2 h' => n.2 d z R hp c p h2 (e.trans h')⟩
/-- a row that is no power is its own root -/
theorem root_alone {row : List Int} (ha : adjOk row = true) (nz : ∀ x ∈ row, x ≠ 0) (n : NoPow row) : row ≠ [] ∧ rootR row = (row, 1) := by
  have h0 : row ≠ [] := fun e => n.1 (by rw [e]; exact Eqv.refl _)
  refine ⟨h0, ?_⟩
  obtain ⟨_, s2, s3, s4⟩ := tail_shape h0 ha nz
  have hp := partN_is s3
  have nzm : ∀ x ∈ midN row, x ≠ 0 := fun x hx => nz x (List.mem_of_mem_drop (List.mem_of_mem_take hx))
  have hlen : partN (midN row) = (midN row).length := by
    refine Classical.byContradiction fun hne => ?_
    have hd := Nat.dvd_of_mod_eq_zero hp.1.2.1
    obtain ⟨p, hpp⟩ := hd
    have hk := hp.1.1
    have hle := hp.2.1
    have h2 : 2 ≤ p := by
      refine Classical.byContradiction fun hlt => ?_
      have hl := List.length_pos_iff.mpr s3
      rcases (by omega : p = 0 ∨ p = 1) with e | e
      · rw [e, Nat.mul_zero] at hpp; omega
      · rw [e, Nat.mul_one] at hpp; exact hne hpp.symm
    refine n.2 _ _ (ring_of s3 s4 nzm hp.1 hle) (part_dvd s3 hp) (row.take (tailN row)) p h2 ?_
    rw [← hpp, pre_zOf, ← s2]
    exact Eqv.refl _
  unfold rootR
  rw [if_neg h0, hlen, List.take_length, ← s2, Nat.div_self (List.length_pos_iff.mpr s3)]
/-! roots of powers -/
structure CP (c q : List Int) : Prop where
  ne : q ≠ []
  adj : adjOk (c ++ q ++ undone c) = true
  cyc : adjOk (q ++ q) = true
  nz : ∀ x ∈ q, x ≠ 0
  part : IsPart q q.length
theorem pw_pre (q : List Int) : ∀ m, pw q m = pre (zOf q) (q.length * m)
  | 0 => rfl
  | m + 1 => by rw [pw_succ', pw_pre q m, Nat.mul_succ, pre_add (zOf_per q), pre_zOf]
theorem pre_getD {z : Nat → Int} {n i : Nat} (h : i < n) : (pre z n).getD i 0 = z i := by
  unfold pre
  rw [List.getD_eq_getElem?_getD, List.getElem?_map, List.getElem?_range h]; rfl
theorem pre_len (z : Nat → Int) (n : Nat) : (pre z n).length = n := by simp [pre]
theorem zOf_pw {q : List Int} (h0 : q ≠ []) (m : Nat) (i : Nat) : zOf (pw q (m + 1)) i = zOf q i := by
  have hl : 0 < q.length * (m + 1) := Nat.mul_pos (List.length_pos_iff.mpr h0) (by omega)
  have e : zOf (pw q (m + 1)) i = (pre (zOf q) (q.length * (m + 1))).getD (i % (q.length * (m + 1))) 0 := by
    unfold zOf
    rw [pw_pre, pre_len]; rfl
  rw [e, pre_getD (Nat.mod_lt _ hl)]
  exact per_mod (per_mul (zOf_per q) (m + 1)) i
theorem part_pw {c q : List Int} (h : CP c q) (m : Nat) : IsPart (pw q (m + 1)) q.length := by
  have hl : 0 < q.length := List.length_pos_iff.mpr h.ne
  have hne : pw q (m + 1) ≠ [] := by
    intro e
    have h1 := congrArg List.length e
    rw [pw_pre, pre_len] at h1
    have h2 := Nat.mul_pos hl (show 0 < m + 1 by omega)
    rw [h1] at h2
    exact Nat.lt_irrefl 0 h2
  have hlen : (pw q (m + 1)).length = q.length * (m + 1) := by rw [pw_pre, pre_len]
  have hle : q.length ≤ (pw q (m + 1)).length := by rw [hlen]; exact Nat.le_mul_of_pos_right _ (by omega)
  refine ⟨⟨hl, by rw [hlen]; exact Nat.mul_mod_right _ _, (rot_iff hne hle).mpr fun i => by rw [zOf_pw h.ne, zOf_pw h.ne]; exact zOf_per q i⟩, hle, fun j hj hc => ?_⟩
  have hp := (rot_iff hne (by omega)).mp hc.2.2
  have := part_dvd h.ne h.part j fun i => by
    have := hp i
    rwa [zOf_pw h.ne, zOf_pw h.ne] at this
  have := Nat.le_of_dvd hc.1 this
  omega
theorem tri_1 {c Q : List Int} {i : Nat} (h : i < c.length) : (c ++ Q ++ undone c).getD i 0 = c.getD i 0 := by
  rw [getD_app_lt (by rw [List.length_append]; omega), getD_app_lt h]
theorem tri_2 {c Q : List Int} {i : Nat} (h : i < Q.length) : (c ++ Q ++ undone c).getD (c.length + i) 0 = Q.getD i 0 := by
  rw [getD_app_lt (by rw [List.length_append]; omega), getD_app_ge (by omega)]
  congr 1; omega
theorem tri_3 {c Q : List Int} {i : Nat} (h : i < c.length) : (c ++ Q ++ undone c).getD (c.length + Q.length + i) 0 = 0 - c.getD (c.length - 1 - i) 0 := by
  rw [getD_app_ge (by rw [List.length_append]; omega), List.length_append, show c.length + Q.length + i - (c.length + Q.length) = i by omega, getD_undone h]
theorem root_pow {c q : List Int} (h : CP c q) (m : Nat) : rootR (c ++ pw q (m + 1) ++ undone c) = (c ++ q ++ undone c, m + 1) := by
  have hl : 0 < q.length := List.length_pos_iff.mpr h.ne
  have hlen : (pw q (m + 1)).length = q.length * (m + 1) := by rw [pw_pre, pre_len]
  have hL : 0 < (pw q (m + 1)).length := by rw [hlen]; exact Nat.mul_pos hl (by omega)
  have rl : (c ++ pw q (m + 1) ++ undone c).length = 2 * c.length + (pw q (m + 1)).length := by
    rw [List.length_append, List.length_append, undone_length]; omega
  have it : IsTail (c ++ pw q (m + 1) ++ undone c) c.length := by
    refine ⟨fun k hk => ⟨by omega, ?_⟩, fun e => ?_⟩
    · rw [tri_1 hk, show (c ++ pw q (m + 1) ++ undone c).length - 1 - k = c.length + (pw q (m + 1)).length + (c.length - 1 - k) by omega, tri_3 (by omega)]
      rw [show c.length - 1 - (c.length - 1 - k) = k by omega]; omega
    · have e2 := e.2
      have hj := (adj_append.mp h.cyc).2.2
      have i1 : (c ++ pw q (m + 1) ++ undone c).getD c.length 0 = (pw q (m + 1)).getD 0 0 := tri_2 (c := c) (Q := pw q (m + 1)) (i := 0) (by omega)
      have i2 := tri_2 (c := c) (Q := pw q (m + 1)) (i := (pw q (m + 1)).length - 1) (by omega)
      rw [i1, show (c ++ pw q (m + 1) ++ undone c).length - 1 - c.length = c.length + ((pw q (m + 1)).length - 1) by omega, i2] at e2
      cases hs : q.getLast? with
      | none => exact h.ne (List.getLast?_eq_none_iff.mp hs)
      | some s =>
        cases ht : q.head? with
        | none => exact h.ne (List.head?_eq_none_iff.mp ht)
        | some t =>
          have h1 := hj s t hs ht
          have h2 := last_getD (l := pw q (m + 1)) (s := s) (by rw [pw_last h.ne]; exact hs)
          have h3 := head_getD (l := pw q (m + 1)) (s := t) (by rw [pw_head h.ne]; exact ht)
          omega
  have et := (tailN_is _).uniq it
  have em : midN (c ++ pw q (m + 1) ++ undone c) = pw q (m + 1) := by
    unfold midN
    rw [et, rl, show 2 * c.length + (pw q (m + 1)).length - 2 * c.length = (pw q (m + 1)).length by omega, List.append_assoc, List.drop_left, List.take_left]
  have hne : pw q (m + 1) ≠ [] := List.length_pos_iff.mp hL
  have ep := (partN_is hne).uniq (part_pw h m)
  unfold rootR
  rw [if_neg (by intro e; rw [e] at rl; simp at rl; omega), et, em, ep, hlen, Nat.mul_div_cancel_left _ hl]
  have e1 : (c ++ pw q (m + 1) ++ undone c).take c.length = c := by rw [List.append_assoc, List.take_left]
  have e2 : (pw q (m + 1)).take q.length = q := by show (q ++ pw q m).take q.length = q; rw [List.take_left]
  rw [e1, e2]
theorem zOf_undone {q : List Int} (h0 : q ≠ []) {i j : Nat} (h : (i + j + 1) % q.length = 0) : zOf (undone q) j = 0 - zOf q i := by
  have hl : 0 < q.length := List.length_pos_iff.mpr h0
  have hi := Nat.mod_lt i hl
  have hj := Nat.mod_lt j hl
  have h1 : (i % q.length + j % q.length + 1) % q.length = 0 := by
    rw [← h, Nat.add_mod (i + j) 1, Nat.add_mod i j, Nat.add_mod (i % q.length + j % q.length) 1]
  obtain ⟨m, hm⟩ := Nat.dvd_of_mod_eq_zero h1
  have hm1 : m = 1 := by
    rcases (by omega : m = 0 ∨ m = 1 ∨ 2 ≤ m) with e | e | e
    · rw [e] at hm; omega
    · exact e
    · have := Nat.mul_le_mul_left q.length e; omega
  rw [hm1, Nat.mul_one] at hm
  have e : zOf (undone q) j = (undone q).getD (j % q.length) 0 := by unfold zOf; rw [undone_length]
  rw [e, getD_undone hj]
  unfold zOf
  rw [show q.length - 1 - j % q.length = i % q.length by omega]
theorem undone_tri (c q : List Int) : undone (c ++ q ++ undone c) = c ++ undone q ++ undone c := by
  rw [undone_app, undone_app, undone_undone, List.append_assoc]
theorem CP.undone {c q : List Int} (h : CP c q) : CP c (undone q) := by
  have hne : My.undone q ≠ [] := fun e => h.ne (undone_eq_nil.mp e)
  have hl : 0 < q.length := List.length_pos_iff.mpr h.ne
  refine ⟨hne, by rw [← undone_tri]; exact undone_adj h.adj, by rw [← undone_app]; exact undone_adj h.cyc, fun x hx => ?_, ?_⟩
  · obtain ⟨y, hy, rfl⟩ := List.mem_map.mp hx
    have := h.nz y (List.mem_reverse.mp hy)
    omega
  · obtain ⟨k, hk⟩ := part_ex hne
    have hp := (rot_iff hne hk.2.1).mp hk.1.2.2
    have hkl := hk.2.1
    rw [undone_length] at hkl
    have hd := part_dvd h.ne h.part k fun i => by
      have h1 : (i + (q.length * (i + k + 1) - 1 - i) + 1) % q.length = 0 := by
        have : i + k + 1 ≤ q.length * (i + k + 1) := Nat.le_mul_of_pos_left _ hl
        rw [show i + (q.length * (i + k + 1) - 1 - i) + 1 = q.length * (i + k + 1) by omega, Nat.mul_mod_right]
      have h2 : (i + k + (q.length * (i + k + 1) - 1 - i - k) + 1) % q.length = 0 := by
        have : i + k + 1 ≤ q.length * (i + k + 1) := Nat.le_mul_of_pos_left _ hl
        rw [show i + k + (q.length * (i + k + 1) - 1 - i - k) + 1 = q.length * (i + k + 1) by omega, Nat.mul_mod_right]
      have h3 := zOf_undone h.ne h1
      have h4 := zOf_undone h.ne h2
      have h5 := hp (q.length * (i + k + 1) - 1 - i - k)
      have : i + k + 1 ≤ q.length * (i + k + 1) := Nat.le_mul_of_pos_left _ hl
      rw [show q.length * (i + k + 1) - 1 - i - k + k = q.length * (i + k + 1) - 1 - i by omega] at h5
      omega
    have := Nat.le_of_dvd hk.1.1 hd
    rw [undone_length]
    have e : k = q.length := by omega
    rw [← e]; exact hk
end My
namespace My
/-! ### rows that commute: their roots -/
def zq (q : List Int) (i : Int) : List Int := if 0 ≤ i then pw q i.toNat else pw (undone q) (0 - i).toNat
theorem zq_nat (q : List Int) (m : Nat) : zq q m = pw q m := by
  unfold zq; rw [if_pos (by omega)]; rfl
theorem zq_neg_nat (q : List Int) (m : Nat) : zq q (0 - (m : Int)) = pw (undone q) m := by
  unfold zq
  by_cases h : m = 0
  · subst h; rfl
  · rw [if_neg (by omega), show (0 - (0 - (m : Int))).toNat = m by omega]
theorem int_cases (i : Int) : (∃ m : Nat, i = m) ∨ ∃ m : Nat, i = 0 - (m : Int) := by
  rcases (by omega : 0 ≤ i ∨ i < 0) with h | h
  · exact .inl ⟨i.toNat, by omega⟩
  · exact .inr ⟨(0 - i).toNat, by omega⟩
theorem pw_sub (q : List Int) (m n : Nat) : Eqv (pw q m ++ pw (undone q) n) (zq q ((m : Int) - n)) := by
  rcases pw_less q m n with ⟨h, e⟩ | ⟨h, e⟩
  · rw [show ((m : Int) - n) = ((m - n : Nat) : Int) by omega, zq_nat]; exact e
  · rw [show ((m : Int) - n) = 0 - ((n - m : Nat) : Int) by omega, zq_neg_nat]; exact e
theorem zq_undone (q : List Int) (i : Int) : zq (undone q) i = zq q (0 - i) := by
  rcases int_cases i with ⟨m, rfl⟩ | ⟨m, rfl⟩
  · rw [zq_nat, zq_neg_nat]
  · rw [zq_neg_nat, undone_undone, show 0 - (0 - (m : Int)) = m by omega, zq_nat]
theorem zq_add (q : List Int) (i j : Int) : Eqv (zq q i ++ zq q j) (zq q (i + j)) := by
  rcases int_cases i with ⟨m, rfl⟩ | ⟨m, rfl⟩ <;> rcases int_cases j with ⟨n, rfl⟩ | ⟨n, rfl⟩
  · rw [show (m : Int) + n = ((m + n : Nat) : Int) by omega, zq_nat, zq_nat, zq_nat, pw_add]; exact Eqv.refl _
  · rw [zq_nat, zq_neg_nat, show (m : Int) + (0 - n) = (m : Int) - n by omega]; exact pw_sub q m n
  · rw [zq_nat, zq_neg_nat]
    have := pw_sub (undone q) m n
    rw [undone_undone, zq_undone, show 0 - ((m : Int) - n) = 0 - (m : Int) + n by omega] at this
    exact this
  · rw [show 0 - (m : Int) + (0 - n) = 0 - ((m + n : Nat) : Int) by omega, zq_neg_nat, zq_neg_nat, zq_neg_nat, pw_add]; exact Eqv.refl _
theorem undone_zq (q : List Int) (i : Int) : undone (zq q i) = zq q (0 - i) := by
  rcases int_cases i with ⟨m, rfl⟩ | ⟨m, rfl⟩
  · rw [zq_nat, zq_neg_nat, undone_pw]
  · rw [zq_neg_nat, undone_pw, undone_undone, show 0 - (0 - (m : Int)) = m by omega, zq_nat]
theorem tri_app {c a b a' b' : List Int} (h : Eqv a (c ++ a' ++ undone c)) (h' : Eqv b (c ++ b' ++ undone c)) : Eqv (a ++ b) (c ++ (a' ++ b') ++ undone c) := by
  refine (h.app h').trans ?_
  have := ((Eqv.refl (c ++ a')).app (undo_left c)).app (Eqv.refl (b' ++ undone c))
  simpa using this
theorem tri_eqv {c a b : List Int} (h : Eqv a b) : Eqv (c ++ a ++ undone c) (c ++ b ++ undone c) := ((Eqv.refl c).app h).app (Eqv.refl _)
theorem zq_form {c q x : List Int} {i : Int} (h : Eqv x (c ++ zq q i ++ undone c)) (m : Int) : Eqv (zq x m) (c ++ zq q (i * m) ++ undone c) := by
  have nat : ∀ {x : List Int} {i : Int}, Eqv x (c ++ zq q i ++ undone c) → ∀ m : Nat, Eqv (pw x m) (c ++ zq q (i * m) ++ undone c) := by
    intro x i h m
    induction m with
    | zero =>
      rw [show i * ((0 : Nat) : Int) = ((0 : Nat) : Int) by simp, zq_nat]
      show Eqv [] (c ++ [] ++ undone c)
      rw [List.append_nil]; exact Eqv.symm (plain_undo c)
    | succ m ih =>
      rw [pw_succ']
      refine (tri_app ih h).trans (tri_eqv ?_)
      rw [show i * ((m + 1 : Nat) : Int) = i * (m : Int) + i by rw [Int.natCast_add, Int.mul_add]; simp]
      exact zq_add q _ _
  rcases int_cases m with ⟨m, rfl⟩ | ⟨m, rfl⟩
  · rw [zq_nat]; exact nat h m
  · rw [zq_neg_nat]
    have h1 : Eqv (undone x) (c ++ zq q (0 - i) ++ undone c) := by
      have := h.undone
      rwa [undone_tri, undone_zq] at this
    have := nat h1 m
    rwa [show (0 - i) * (m : Int) = i * (0 - (m : Int)) by rw [Int.sub_mul, Int.mul_sub]; simp] at this
def form (c q : List Int) (i : Int) : List Int := plain (c ++ zq q i ++ undone c)
theorem cp_of {c r : List Int} (hr : r ≠ []) (ha : adjOk (c ++ r ++ undone c) = true) (hc : adjOk (r ++ r) = true) (nz : ∀ x ∈ r, x ≠ 0) : ∃ q e, CP c q ∧ r = pw q (e + 1) := by
  obtain ⟨k, hk⟩ := part_ex hr
  have hl : 0 < r.length := List.length_pos_iff.mpr hr
  have per := (rot_iff hr hk.2.1).mp hk.1.2.2
  obtain ⟨p, hp⟩ := Nat.dvd_of_mod_eq_zero hk.1.2.1
  obtain ⟨e, rfl⟩ : ∃ e, p = e + 1 := ⟨p - 1, by
    rcases Nat.eq_zero_or_pos p with h | h
    · rw [h, Nat.mul_zero] at hp; omega
    · omega⟩
  have hpw : ∀ m, pre (zOf r) (k * m) = pw (pre (zOf r) k) m := by
    intro m
    induction m with
    | zero => rfl
    | succ m ih => rw [Nat.mul_succ, pre_add per, ih, pw_succ']
  have hrq : r = pw (pre (zOf r) k) (e + 1) := by rw [← hpw, ← hp, pre_zOf]
  have hq : (pre (zOf r) k).length = k := pre_len _ _
  refine ⟨pre (zOf r) k, e, ?_, hrq⟩
  generalize pre (zOf r) k = q at hrq hq
  have hq0 : q ≠ [] := by
    intro h; rw [h] at hq; have := hk.1.1; simp at hq; omega
  have hsplit : r = q ++ pw q e := hrq
  have h1 := adj_append.mp ha
  have h2 := adj_append.mp h1.1
  have hqa : adjOk q = true := by
    have := h2.2.1
    rw [hsplit] at this
    exact (adj_append.mp this).1
  refine ⟨hq0, ?_, ?_, fun x hx => nz x (by rw [hsplit]; simp [hx]), ?_⟩
  · refine adj_append.mpr ⟨adj_append.mpr ⟨h2.1, hqa, jn_of rfl (by rw [hrq, pw_head hq0]) h2.2.2⟩, h1.2.1, jn_of (a := c ++ r) (b := undone c) ?_ rfl h1.2.2⟩
    rw [List.getLast?_append, List.getLast?_append, hrq, pw_last hq0]
  · refine adj_append.mpr ⟨hqa, hqa, jn_of (by rw [hrq, pw_last hq0]) (by rw [hrq, pw_head hq0]) (adj_append.mp hc).2.2⟩
  · refine ⟨part_self hq0, Nat.le_refl _, fun j hj hcj => ?_⟩
    have h3 := (rot_iff hq0 (by omega)).mp hcj.2.2
    have h4 := part_dvd hr hk j fun i => by rw [hrq, zOf_pw hq0, zOf_pw hq0]; exact h3 i
    have := Nat.le_of_dvd hcj.1 h4
    omega
/-- rows that commute are both () or powers of one row that is none -/
theorem comm_forms {x y : List Int} (ax : adjOk x = true) (ay : adjOk y = true) (lx : Lets 4 x) (ly : Lets 4 y) (h : Comm x y) :
    (x = [] ∧ y = []) ∨ ∃ c q i j, CP c q ∧ Eqv x (c ++ zq q i ++ undone c) ∧ Eqv y (c ++ zq q j ++ undone c) := by
  obtain ⟨u, au, lu, hx, hy⟩ := comm_of _ x y rfl ax ay lx ly h
  by_cases hu : u = []
  · left
    have key : ∀ {g : List Int}, adjOk g = true → IsPow u g → g = [] := by
      intro g ag hg
      have nil : ∀ m, pw ([] : List Int) m = [] := fun m => by
        induction m with
        | zero => rfl
        | succ m ih => show [] ++ pw [] m = []; rw [ih]; rfl
      rw [hu] at hg
      rcases hg with ⟨m, e⟩ | ⟨m, e⟩
      · rw [nil] at e
        have e' : plain g = plain [] := e
        rwa [plain_id ag] at e'
      · rw [show undone [] = [] from rfl, nil] at e
        have e' : plain g = plain [] := e
        rwa [plain_id ag] at e'
    exact ⟨key ax hx, key ay hy⟩
  · right
    have nzu : ∀ x ∈ u, x ≠ 0 := fun x hx => (lu x hx).2.2
    obtain ⟨c, r, e1, e2, e3⟩ := tailed _ u rfl hu au nzu
    obtain ⟨q, e, hcp, hr⟩ := cp_of e2 (by rw [← e1]; exact au) e3 fun x hx => nzu x (by rw [e1]; simp [hx])
    have hu1 : Eqv u (c ++ zq q ((e + 1 : Nat) : Int) ++ undone c) := by rw [zq_nat, ← hr, ← e1]; exact Eqv.refl _
    have key : ∀ {g : List Int}, IsPow u g → ∃ i, Eqv g (c ++ zq q i ++ undone c) := by
      rintro g (⟨m, h⟩ | ⟨m, h⟩)
      · exact ⟨_, h.trans (by rw [← zq_nat]; exact zq_form hu1 m)⟩
      · exact ⟨_, h.trans (by rw [← zq_neg_nat]; exact zq_form hu1 (0 - (m : Int)))⟩
    obtain ⟨i, hi⟩ := key hx
    obtain ⟨j, hj⟩ := key hy
    exact ⟨c, q, i, j, hcp, hi, hj⟩
/-- the root of a power -/
def rootF (c q : List Int) (i : Int) : List Int × Nat := if i = 0 then ([], 0) else (if 0 < i then c ++ q ++ undone c else c ++ undone q ++ undone c, i.natAbs)
theorem root_form {c q : List Int} (h : CP c q) (i : Int) : rootR (form c q i) = rootF c q i := by
  unfold form rootF
  rcases int_cases i with ⟨m, rfl⟩ | ⟨m, rfl⟩
  · rw [zq_nat]
    cases m with
    | zero =>
      rw [if_pos (show ((0 : Nat) : Int) = 0 from rfl)]
      have : plain (c ++ pw q 0 ++ undone c) = [] := by show plain (c ++ [] ++ undone c) = []; rw [List.append_nil]; exact plain_undo c
      rw [this]; rfl
    | succ m =>
      rw [if_neg (by omega), if_pos (by omega), plain_id (pw_tail h.ne h.adj h.cyc m), root_pow h m]
      rfl
  · rw [zq_neg_nat]
    cases m with
    | zero =>
      rw [if_pos (show 0 - ((0 : Nat) : Int) = 0 from rfl)]
      have : plain (c ++ pw (undone q) 0 ++ undone c) = [] := by show plain (c ++ [] ++ undone c) = []; rw [List.append_nil]; exact plain_undo c
      rw [this]; rfl
    | succ m =>
      have h' := h.undone
      rw [if_neg (by omega), if_neg (by omega), plain_id (pw_tail h'.ne h'.adj h'.cyc m), root_pow h' m]
      rw [show (0 - ((m + 1 : Nat) : Int)).natAbs = m + 1 by omega]
theorem form_ne {c q : List Int} (h : CP c q) : c ++ q ++ undone c ≠ [] ∧ c ++ undone q ++ undone c ≠ [] ∧ c ++ q ++ undone c ≠ c ++ undone q ++ undone c := by
  refine ⟨by simp [h.ne], by simp [h.undone.ne], fun e => ?_⟩
  have e1 : undone q = q := by
    have := List.append_cancel_right e
    exact (List.append_cancel_left this).symm
  have h1 : Eqv (q ++ undone q) [] := plain_undo q
  rw [e1] at h1
  have h2 : plain (q ++ q) = plain [] := h1
  rw [plain_id h.cyc] at h2
  have : q ++ q = [] := h2
  simp at this
  exact h.ne this
/-- of which row two rows are powers, as the program tells it -/
def meetR (x y : List Int) : List Int × Int × Int :=
  if x = [] then ((rootR y).1, 0, ((rootR y).2 : Int)) else ((rootR x).1, ((rootR x).2 : Int), if (rootR y).1 = (rootR x).1 then ((rootR y).2 : Int) else 0 - ((rootR y).2 : Int))
theorem nil_pw : ∀ m, pw ([] : List Int) m = []
  | 0 => rfl
  | m + 1 => by show [] ++ pw [] m = []; rw [nil_pw m]; rfl
theorem nil_zq (m : Int) : zq ([] : List Int) m = [] := by
  unfold zq
  split
  · exact nil_pw _
  · exact nil_pw _
theorem commute_root {x y : List Int} (ax : adjOk x = true) (ay : adjOk y = true) (lx : Lets 4 x) (ly : Lets 4 y) (h : Comm x y) (m n : Int) :
    rootR (plain (zq x m ++ zq y n)) = if m * (meetR x y).2.1 + n * (meetR x y).2.2 = 0 then ([], 0)
      else (if 0 < m * (meetR x y).2.1 + n * (meetR x y).2.2 then (meetR x y).1 else undone (meetR x y).1, (m * (meetR x y).2.1 + n * (meetR x y).2.2).natAbs) := by
  rcases comm_forms ax ay lx ly h with ⟨rfl, rfl⟩ | ⟨c, q, i, j, hcp, hx, hy⟩
  · rw [nil_zq, nil_zq]
    have e : meetR [] [] = ([], 0, 0) := rfl
    rw [e]
    simp [rootR, plain]
  · have fx : x = form c q i := by rw [← plain_id ax]; exact hx
    have fy : y = form c q j := by rw [← plain_id ay]; exact hy
    have e1 : plain (zq x m ++ zq y n) = form c q (i * m + j * n) :=
      (tri_app (zq_form hx m) (zq_form hy n)).trans (tri_eqv (zq_add q _ _))
    have rx := root_form hcp i
    have ry := root_form hcp j
    rw [← fx] at rx
    rw [← fy] at ry
    obtain ⟨n1, n2, n3⟩ := form_ne hcp
    have n4 : c ++ undone q ++ undone c ≠ c ++ q ++ undone c := fun e => n3 e.symm
    have u1 : undone (c ++ q ++ undone c) = c ++ undone q ++ undone c := undone_tri c q
    have u2 : undone (c ++ undone q ++ undone c) = c ++ q ++ undone c := by rw [undone_tri, undone_undone]
    have hx0 : x = [] ↔ i = 0 := by
      constructor
      · intro e
        rw [e] at rx
        refine Classical.byContradiction fun hi => ?_
        have h2 : (([] : List Int), 0) = rootF c q i := rx
        unfold rootF at h2
        rw [if_neg hi] at h2
        have := congrArg Prod.snd h2
        simp at this; omega
      · rintro rfl
        rw [fx]
        show plain (c ++ [] ++ undone c) = []
        rw [List.append_nil]; exact plain_undo c
    rw [e1, root_form hcp]
    have key : ∀ t M : Int, ∀ b : List Int, (b = c ++ q ++ undone c ∧ M = t) ∨ (b = c ++ undone q ++ undone c ∧ M = 0 - t) ∨ (M = 0 ∧ t = 0) →
        rootF c q t = if M = 0 then ([], 0) else (if 0 < M then b else undone b, M.natAbs) := by
      intro t M b hb
      unfold rootF
      by_cases ht : t = 0
      · have hM : M = 0 := by omega
        rw [if_pos ht, if_pos hM]
      · have hM : M ≠ 0 := by omega
        rw [if_neg ht, if_neg hM]
        rcases hb with ⟨rfl, rfl⟩ | ⟨rfl, rfl⟩ | hb
        · rw [u1]
        · rw [u2, show (0 - t).natAbs = t.natAbs by omega]
          by_cases hp : 0 < t
          · have : ¬ 0 < 0 - t := by omega
            rw [if_pos hp, if_neg this]
          · have : 0 < 0 - t := by omega
            rw [if_neg hp, if_pos this]
        · exact absurd hb.1 hM
    refine key _ _ _ ?_
    unfold meetR
    rw [rx, ry]
    have mc : i * m + j * n = m * i + n * j := by rw [Int.mul_comm i, Int.mul_comm j]
    have rz : rootF c q 0 = ([], 0) := rfl
    have rp : ∀ k : Int, 0 < k → rootF c q k = (c ++ q ++ undone c, k.natAbs) := fun k hk => by
      have h1 : k ≠ 0 := by omega
      unfold rootF; rw [if_neg h1, if_pos hk]
    have rn : ∀ k : Int, k < 0 → rootF c q k = (c ++ undone q ++ undone c, k.natAbs) := fun k hk => by
      have h1 : k ≠ 0 := by omega
      have h2 : ¬ 0 < k := by omega
      unfold rootF; rw [if_neg h1, if_neg h2]
    by_cases hi : i = 0
    · rw [if_pos (hx0.mpr hi)]
      subst hi
      rcases Int.lt_trichotomy j 0 with hj | rfl | hj
      · rw [rn j hj]
        refine .inr (.inl ⟨rfl, ?_⟩)
        show m * 0 + n * (j.natAbs : Int) = 0 - (0 * m + j * n)
        rw [mc, show (j.natAbs : Int) = 0 - j by omega, Int.mul_sub]; simp
      · rw [rz]
        refine .inr (.inr ⟨?_, ?_⟩)
        · show m * 0 + n * 0 = (0 : Int)
          simp
        · simp
      · rw [rp j hj]
        refine .inl ⟨rfl, ?_⟩
        show m * 0 + n * (j.natAbs : Int) = 0 * m + j * n
        rw [mc, show (j.natAbs : Int) = j by omega]
    · rw [if_neg fun e => hi (hx0.mp e)]
      rcases Int.lt_trichotomy i 0 with hi' | hi' | hi'
      · rw [rn i hi']
        refine .inr (.inl ⟨rfl, ?_⟩)
        have hb : (if (rootF c q j).1 = c ++ undone q ++ undone c then ((rootF c q j).2 : Int) else 0 - ((rootF c q j).2 : Int)) = 0 - j := by
          rcases Int.lt_trichotomy j 0 with hj | rfl | hj
          · rw [rn j hj, if_pos rfl]; show (j.natAbs : Int) = _; omega
          · rw [rz, if_neg fun e => n2 e.symm]; rfl
          · rw [rp j hj, if_neg n3]; show 0 - (j.natAbs : Int) = _; omega
        show m * (i.natAbs : Int) + n * (if (rootF c q j).1 = c ++ undone q ++ undone c then ((rootF c q j).2 : Int) else 0 - ((rootF c q j).2 : Int)) = _
        rw [hb, mc, show (i.natAbs : Int) = 0 - i by omega, Int.mul_sub, Int.mul_sub]; simp; omega
      · exact absurd hi' hi
      · rw [rp i hi']
        refine .inl ⟨rfl, ?_⟩
        have hb : (if (rootF c q j).1 = c ++ q ++ undone c then ((rootF c q j).2 : Int) else 0 - ((rootF c q j).2 : Int)) = j := by
          rcases Int.lt_trichotomy j 0 with hj | rfl | hj
          · rw [rn j hj, if_neg n4]; show 0 - (j.natAbs : Int) = _; omega
          · rw [rz, if_neg fun e => n1 e.symm]; rfl
          · rw [rp j hj, if_pos rfl]; show (j.natAbs : Int) = _; omega
        show m * (i.natAbs : Int) + n * (if (rootF c q j).1 = c ++ q ++ undone c then ((rootF c q j).2 : Int) else 0 - ((rootF c q j).2 : Int)) = _
        rw [hb, mc, show (i.natAbs : Int) = i by omega]
end My
set_option maxHeartbeats 4000000
namespace My
open PySem PySem.Spec PyProof.Rows L2 SX
theorem rowD_lets {n : Int} {xs : List Int} (h : Lets n xs) (hl : xs.length ≤ 200) : rowD n (.tup (xs.map Dt.int)) = true := by
  unfold rowD
  rw [Bool.and_eq_true, List.all_eq_true]
  refine ⟨by simpa using hl, fun d hd => ?_⟩
  obtain ⟨x, hx, rfl⟩ := List.mem_map.mp hd
  have := h x hx
  unfold letterD betweenD
  simp
  omega
section
variable {P : Program} {w : World} {K : PySem.W.Frag} {mg : Str → Option Value} {base : Heap}
/-! ### product_of -/
@[irreducible] def spProd (K : PySem.W.Frag) : Sp := fun vs H Q _ => ∃ (a : Addr) (rs : List V) (xss : List (List Int)), vs = [.ref a] ∧ SqL K H a rs ∧ Rws H rs xss ∧ xss.flatten.length < 1000000 ∧ xss.length < 1000000 ∧ ∀ v H', Same H H' → Row H' v (plain xss.flatten) → Q v H'
theorem spProd_i {H : Hp} {a : Addr} {rs : List V} {xss : List (List Int)} {Q : VK} {E : XK} (h : SqL K H a rs) (h1 : Rws H rs xss) (h2 : xss.flatten.length < 1000000) (h3 : xss.length < 1000000) (q : ∀ v H', Same H H' → Row H' v (plain xss.flatten) → Q v H') : spProd K [.ref a] H Q E := by
  unfold spProd
  exact ⟨a, rs, xss, rfl, h, h1, h2, h3, q⟩
theorem ok_prod (B : Bt mg) (F : Fd K mg "product_of" s_product_of) (D1 : Df P w K mg base CX0 1 "plain_of" ["letters"] (spPlain K)) : Df P w K mg base CX0 2 "product_of" ["some"] (spProd K) := by
  refine .mk' F sc_product_of (fun _ _ _ _ _ _ us hl => match us, hl with | [_], _ => rfl) (fun vs H Q E h => ?_) (fun f cdv A outer s H vs Q E hr h => ?_)
  · unfold spProd at h
    obtain ⟨a, rs, xss, rfl, _⟩ := h
    rfl
  · unfold spProd at h
    obtain ⟨a, rs, xss, rfl, hs, hR, hl, hl2, q⟩ := h
    have nd := sc_product_of.nd
    refine ⟨_, PSs.nox (pss_one (ps_ret (pe_df D1 hr rfl pass0 (pa_cons (pe_lc2 (own := [("row", 1), ("letter", 2)]) (vs1 := [2]) (wi1 := iTup K _) (g := gName 1) (g1 := gName 2) rfl nd (pi_list (pv 0)) (blkOk_by (own := [("row", 1), ("letter", 2)]) (N := ["some", "row", "letter"]) (sc := defScope s_product_of) (by decide +kernel)) (by decide)
      (fun _ _ _ _ _ => pg_name (i := 1) nd rfl (Or.inl rfl)) (fun _ _ _ _ _ => pts_nil) (fun _ _ _ _ _ => pi_tup (pv 1)) (fun _ _ _ _ _ => pg_name (i := 2) nd rfl (Or.inl rfl)) (fun _ _ _ _ _ => pts_nil) (fun _ _ _ _ _ => pv 2)) pa_nil)))), ?_⟩
    refine ⟨_, rfl, a, rfl, ⟨rs, hs⟩, fun D hD => ?_⟩
    refine lc_flat xss (wk_list hs) hR.len hD (by rw [PySem.sizeLine_eq]; omega) (fun _ => rfl) (fun _ _ => rfl) (fun i H' hi e Q' q' => ?_) (fun x y H' Q' q' => ⟨_, rfl, q'⟩) (fun H' e hD' => ?_)
    · obtain ⟨v, e1, b, rfl, hb⟩ := hR.get (i := i) (by rw [← hR.len]; exact hi)
      have ev : rs.getD i .non = .ref b := by rw [List.getD_eq_getElem?_getD, e1]; rfl
      rw [ev]
      have hT : SqT K H b (iV (xss.getD i [])) := .inl (.inl hb)
      refine ⟨_, rfl, b, rfl, ⟨_, SqT.same e hT⟩, ?_⟩
      refine q' _ ?_
      have := wk_tup hT
      have el : (iV (xss.getD i [])).length = (xss.getD i []).length := by simp [iV]
      rw [el] at this
      refine ⟨this.go, this.stop, fun j H2 x H3 e2 hj y => ?_⟩
      obtain ⟨e3, e4⟩ := this.yld j H2 x H3 e2 hj y
      exact ⟨e3, by rw [e4, iV_getD hj]⟩
    · exact spPlain_i (.inl (SqL.of hD')) hl fun v H2 s2 r2 => q v H2 (e.trans s2) r2
end
end My
namespace My
open PySem PySem.Spec PyProof.Rows L2 SX
theorem rep_pw (x : List Int) : ∀ m : Nat, (List.replicate m x).flatten = pw x m
  | 0 => rfl
  | m + 1 => by rw [List.replicate_succ, List.flatten_cons, rep_pw x m]; rfl
theorem rws_rep {H : Hp} {v : V} {xs : List Int} (h : Row H v xs) : ∀ m : Nat, Rws H (List.replicate m v) (List.replicate m xs)
  | 0 => .nil
  | m + 1 => .cons h (rws_rep h m)
section
variable {P : Program} {w : World} {K : PySem.W.Frag} {mg : Str → Option Value} {base : Heap}
/-! ### beside -/
@[irreducible] def spBeside : Sp := fun vs H Q _ => ∃ (n : Int) (v u : V) (xs ys : List Int), vs = [.int n, v, u] ∧ 1 ≤ n ∧ n ≤ 4 ∧ Row H v xs ∧ Row H u ys ∧ Lets n xs ∧ Lets n ys ∧ xs.length ≤ 200 ∧ ys.length ≤ 200 ∧ ∀ v' H', Same H H' → Row H' v' (plain (xs ++ ys)) → Q v' H'
theorem spBeside_i {H : Hp} {n : Int} {v u : V} {xs ys : List Int} {Q : VK} {E : XK} (n1 : 1 ≤ n) (n2 : n ≤ 4) (h1 : Row H v xs) (h2 : Row H u ys) (l1 : Lets n xs) (l2 : Lets n ys) (m1 : xs.length ≤ 200) (m2 : ys.length ≤ 200) (q : ∀ v' H', Same H H' → Row H' v' (plain (xs ++ ys)) → Q v' H') : spBeside [.int n, v, u] H Q E := by
  unfold spBeside
  exact ⟨n, v, u, xs, ys, rfl, n1, n2, h1, h2, l1, l2, m1, m2, q⟩
theorem need_ok {C : Addr} {H : Hp} {n : Int} {v : V} {xs : List Int} {Q : VK} {E : XK} (h : Row H v xs) (l : Lets n xs) (m : xs.length ≤ 200) (q : ∀ v' H', Same H H' → Row H' v' (plain xs) → Q v' H') : spNeedRow C [.int n, v] H Q E :=
  spNeedRow_i h.dv (fun ys v' H' _ e s r => by
    have e1 : xs.map Dt.int = ys.map Dt.int := Dt.tup.inj e
    have e2 : xs = ys := by
      have := congrArg (List.map fun d => match d with | Dt.int x => x | _ => 0) e1
      simpa [List.map_map, Function.comp_def] using this
    exact q v' H' s (by rw [e2]; exact r)) fun e => by rw [rowD_lets l m] at e; cases e
theorem deeds_ok {C : Addr} {H : Hp} {n : Int} {Q : VK} {E : XK} (n1 : 1 ≤ n) (n2 : n ≤ 4) (q : Q .non H) : spDeeds C [.int n] H Q E :=
  spDeeds_i (.int n) (fun _ => q) fun e => by
    simp [betweenD] at e
    omega
theorem ok_beside {CD CR : Addr} (F : Fd K mg "beside" s_beside) (D3 : Df P w K mg base (L2.CX P w) 3 "need_deeds" ["deeds"] (spDeeds CD)) (D5 : Df P w K mg base (L2.CX P w) 5 "need_row" ["deeds", "row"] (spNeedRow CR)) (DP : Df P w K mg base CX0 2 "product_of" ["some"] (spProd K)) :
    Df P w K mg base (L2.CX P w) 6 "beside" ["deeds", "one", "other"] spBeside := by
  refine .mk' F sc_beside (fun _ _ _ _ _ _ us hl => match us, hl with | [_, _, _], _ => rfl) (fun vs H Q E h => ?_) (fun f cdv A outer s H vs Q E hr h => ?_)
  · unfold spBeside at h
    obtain ⟨n, v, u, xs, ys, rfl, _⟩ := h
    rfl
  · unfold spBeside at h
    obtain ⟨n, v, u, xs, ys, rfl, n1, n2, h1, h2, l1, l2, m1, m2, q⟩ := h
    have nd := sc_beside.nd
    refine ⟨_, pss_cons (ps_expr (pe_df (D3.mono (by decide)) hr rfl (passR (takes_of rfl rfl rfl rfl)) (pa_cons (pv 0) pa_nil)))
      (pss_cons (ps_set (i := 3) nd rfl (Or.inl rfl) (pe_df D5 hr rfl (passR (takes_of rfl rfl rfl rfl)) (pa_cons (pv 0) (pa_cons (pv 1) pa_nil))))
      (pss_one (ps_ret (pe_df (DP.mono (by decide)) hr rfl pass0 (pa_cons (pe_lst (pa_cons (pv 3) (pa_cons (pe_df D5 hr rfl (passR (takes_of rfl rfl rfl rfl)) (pa_cons (pv 0) (pa_cons (pv 2) pa_nil))) pa_nil))) pa_nil))))), ?_⟩
    refine ⟨_, rfl, deeds_ok n1 n2 ?_⟩
    refine ⟨_, rfl, _, rfl, need_ok h1 l1 m1 fun v1 H1 s1 r1 => ?_⟩
    refine ⟨_, rfl, _, rfl, _, rfl, need_ok (h2.same s1) l2 m2 fun v2 H2 s2 r2 => ?_⟩
    have p1 := plain_len xs
    have p2 := plain_len ys
    refine ⟨by rw [PySem.sizeLine_eq]; simp, fun p hp => ?_⟩
    have s3 : Same H2 (upd H2 p (.lst [v1, v2])) := Same.new hp
    refine spProd_i (rs := [v1, v2]) (xss := [plain xs, plain ys]) (SqL.of upd_same) (.cons ((r1.same s2).same s3) (.cons (r2.same s3) .nil)) (by simp; omega) (by simp) fun v' H' s4 r4 => ?_
    refine q v' H' (((s1.trans s2).trans s3).trans s4) ?_
    have e : plain [plain xs, plain ys].flatten = plain (xs ++ ys) := by
      simp only [List.flatten_cons, List.flatten_nil, List.append_nil]
      exact plain_app xs ys
    rw [e] at r4; exact r4
end
end My
namespace My
open PySem PySem.Spec PyProof.Rows L2 SX
theorem pw_len (q : List Int) (m : Nat) : (pw q m).length = m * q.length := by rw [← rep_pw, rep_len]
section
variable {P : Program} {w : World} {K : PySem.W.Frag} {mg : Str → Option Value} {base : Heap}
/-! ### times_row -/
@[irreducible] def spTimesRow : Sp := fun vs H Q _ => ∃ (n m : Int) (v : V) (xs : List Int), vs = [.int n, v, .int m] ∧ 1 ≤ n ∧ n ≤ 4 ∧ Row H v xs ∧ Lets n xs ∧ xs.length ≤ 200 ∧ -20 ≤ m ∧ m ≤ 20 ∧ ∀ v' H', Same H H' → Row H' v' (plain (zq (plain xs) m)) → Q v' H'
theorem spTimesRow_i {H : Hp} {n m : Int} {v : V} {xs : List Int} {Q : VK} {E : XK} (n1 : 1 ≤ n) (n2 : n ≤ 4) (h1 : Row H v xs) (l1 : Lets n xs) (m1 : xs.length ≤ 200) (a1 : -20 ≤ m) (a2 : m ≤ 20) (q : ∀ v' H', Same H H' → Row H' v' (plain (zq (plain xs) m)) → Q v' H') : spTimesRow [.int n, v, .int m] H Q E := by
  unfold spTimesRow
  exact ⟨n, m, v, xs, rfl, n1, n2, h1, l1, m1, a1, a2, q⟩
theorem ok_times_row {CD CR CN : Addr} (B : Bt mg) (EN : Er K mg "BadNumber" CN) (gM : ∃ t, mg "MOST_TIMES" = some (.int 20 t)) (F : Fd K mg "times_row" s_times_row) (D3 : Df P w K mg base (L2.CX P w) 3 "need_deeds" ["deeds"] (spDeeds CD)) (D5 : Df P w K mg base (L2.CX P w) 5 "need_row" ["deeds", "row"] (spNeedRow CR)) (DB : Df P w K mg base CX0 2 "is_between" ["value", "low", "high"] spBetween) (DU : Df P w K mg base CX0 1 "undone_of" ["row"] spUndone) (DP : Df P w K mg base CX0 2 "product_of" ["some"] (spProd K)) :
    Df P w K mg base (L2.CX P w) 6 "times_row" ["deeds", "row", "many"] spTimesRow := by
  obtain ⟨tM, gM⟩ := gM
  refine .mk' F sc_times_row (fun _ _ _ _ _ _ us hl => match us, hl with | [_, _, _], _ => rfl) (fun vs H Q E h => ?_) (fun f cdv A outer s H vs Q E hr h => ?_)
  · unfold spTimesRow at h
    obtain ⟨n, m, v, xs, rfl, _⟩ := h
    rfl
  · unfold spTimesRow at h
    obtain ⟨n, m, v, xs, rfl, n1, n2, h1, l1, m1, a1, a2, q⟩ := h
    have nd := sc_times_row.nd
    refine ⟨_, pss_cons (ps_expr (pe_df (D3.mono (by decide)) hr rfl (passR (takes_of rfl rfl rfl rfl)) (pa_cons (pv 0) pa_nil)))
      (pss_cons (ps_set (i := 3) nd rfl (Or.inl rfl) (pe_df D5 hr rfl (passR (takes_of rfl rfl rfl rfl)) (pa_cons (pv 0) (pa_cons (pv 1) pa_nil))))
      (pss_cons (ps_if (pt_not (pt_val (pe_df (DB.mono (by decide)) hr rfl pass0 (pa_cons (pv 2) (pa_cons (pe_op op_sub (pe_int) (pe_glob (v := .int 20) rfl gM ⟨_, rfl⟩)) (pa_cons (pe_glob (v := .int 20) rfl gM ⟨_, rfl⟩) pa_nil))))))
      (pss_one (ps_raise rfl (takes_of rfl rfl rfl rfl) (pmk_own PySem.F.excBase_ValueError EN.x EN.g EN.k (raises_own EN.b EN.t) rfl))) (pss_nil))
      (pss_cons (ps_if (pt_cmpR op_lt (pv 2) (pe_int) (nomark _))
      (pss_one (ps_set (i := 3) nd rfl (Or.inl rfl) (pe_df (DU.mono (by decide)) hr rfl pass0 (pa_cons (pv 3) pa_nil)))) (pss_nil))
      (pss_one (ps_ret (pe_df (DP.mono (by decide)) hr rfl pass0 (pa_cons (pe_op op_repLA (pe_lst (pa_cons (pv 3) pa_nil)) (pe_callB call_abs (by rfl) B.abs (by decide +kernel) (pa_cons (pv 2) pa_nil))) pa_nil))))))), ?_⟩
    refine ⟨_, rfl, deeds_ok n1 n2 ?_⟩
    refine ⟨_, rfl, _, rfl, need_ok h1 l1 m1 fun v1 H1 s1 r1 => ?_⟩
    have p1 := plain_len xs
    have hz : (if m < 0 then -m else m) ≤ 20 ∧ 0 ≤ (if m < 0 then -m else m) := by split <;> omega
    refine ⟨_, rfl, _, _, rfl, rfl, spBetween_i (.int m) ⟨_, rfl, ?_⟩⟩
    have eb : betweenD (.int m) (0 - 20) 20 = true := by simp [betweenD]; omega
    rw [eb]
    refine iteF_of rfl ?_
    refine ⟨_, rfl, _, _, rfl, rfl, _, rfl, ite_of (fun hm => ?_) (fun hm => ?_)⟩
    · have hm : m < 0 := by simpa using hm
      have u1 := undone_len (plain xs)
      refine ⟨_, rfl, spUndone_i r1 (by omega) fun v2 H2 s2 r2 => ?_⟩
      refine ⟨_, rfl, by rw [PySem.sizeLine_eq]; simp, fun p hp => ?_⟩
      have s3 : Same H2 (upd H2 p (.lst [v2])) := Same.new hp
      refine ⟨_, rfl, m, rfl, p, _, [v2], rfl, rfl, SqL.of upd_same, hz.2, by omega, by simp, fun p2 hp2 => ?_⟩
      have s4 := Same.new (o := .lst (List.replicate (if m < 0 then -m else m).toNat [v2]).flatten) hp2
      rw [if_pos hm] at *
      refine spProd_i (rs := List.replicate (-m).toNat v2) (xss := List.replicate (-m).toNat (undone (plain xs))) (SqL.of (by rw [upd_same]; simp)) (rws_rep ((r2.same s3).same s4) _) ?_ (by simp; omega) fun v' H' s5 r5 => ?_
      · rw [rep_pw, pw_len, u1]
        have := Nat.mul_le_mul (show (-m).toNat ≤ 20 by omega) (show (plain xs).length ≤ 200 by omega)
        omega
      · refine q v' H' ((((s1.trans s2).trans s3).trans s4).trans s5) ?_
        have e : zq (plain xs) m = pw (undone (plain xs)) (-m).toNat := by
          unfold zq
          rw [if_neg (by omega), show 0 - m = -m by omega]
        rw [e, ← rep_pw]; exact r5
    · have hm : ¬ m < 0 := by simpa using hm
      refine ⟨_, rfl, by rw [PySem.sizeLine_eq]; simp, fun p hp => ?_⟩
      have s3 : Same H1 (upd H1 p (.lst [v1])) := Same.new hp
      refine ⟨_, rfl, m, rfl, p, _, [v1], rfl, rfl, SqL.of upd_same, hz.2, by omega, by simp, fun p2 hp2 => ?_⟩
      have s4 := Same.new (o := .lst (List.replicate (if m < 0 then -m else m).toNat [v1]).flatten) hp2
      rw [if_neg hm] at *
      refine spProd_i (rs := List.replicate m.toNat v1) (xss := List.replicate m.toNat (plain xs)) (SqL.of (by rw [upd_same]; simp)) (rws_rep ((r1.same s3).same s4) _) ?_ (by simp; omega) fun v' H' s5 r5 => ?_
      · rw [rep_pw, pw_len]
        have := Nat.mul_le_mul (show m.toNat ≤ 20 by omega) (show (plain xs).length ≤ 200 by omega)
        omega
      · refine q v' H' (((s1.trans s3).trans s4).trans s5) ?_
        have e : zq (plain xs) m = pw (plain xs) m.toNat := by
          unfold zq
          rw [if_pos (by omega)]
        rw [e, ← rep_pw]; exact r5
end
end My
namespace My
open PySem PySem.Spec PyProof.Rows L2 SX
section
variable {P : Program} {w : World} {K : PySem.W.Frag} {mg : Str → Option Value} {base : Heap}
/-! ### tail_of -/
@[irreducible] def spTail : Sp := fun vs H Q _ => ∃ (v : V) (xs : List Int), vs = [v] ∧ Row H v xs ∧ xs.length ≤ 1000 ∧ Q (.int (tailN xs : Nat)) H
theorem spTail_i {H : Hp} {v : V} {xs : List Int} {Q : VK} {E : XK} (h : Row H v xs) (hl : xs.length ≤ 1000) (q : Q (.int (tailN xs : Nat)) H) : spTail [v] H Q E := by
  unfold spTail
  exact ⟨v, xs, rfl, h, hl, q⟩
theorem ok_tail (B : Bt mg) (F : Fd K mg "tail_of" s_tail_of) : Df P w K mg base CX0 1 "tail_of" ["row"] spTail := by
  refine .mk' F sc_tail_of (fun _ _ _ _ _ _ us hl => match us, hl with | [_], _ => rfl) (fun vs H Q E h => ?_) (fun f cdv A outer s H vs Q E hr h => ?_)
  · unfold spTail at h
    obtain ⟨v, xs, rfl, _⟩ := h
    rfl
  · unfold spTail at h
    obtain ⟨v, xs, rfl, h1, hl, q⟩ := h
    have nd := sc_tail_of.nd
    obtain ⟨a, rfl, ha⟩ := h1
    refine ⟨_, PSs.nox (pss_cons (ps_set (i := 1) nd rfl (Or.inl rfl) (pe_int))
      (pss_cons (ps_while PassesOwn.never (PW.pt (pw_and (pt_cmpR op_gt (pe_op op_sub (pe_callB call_lenK (by rfl) B.len boot_len (pa_cons (pv 0) pa_nil)) (pe_op op_mul (pe_int) (pv 1))) (pe_int) (nomark _)) (pw_and1 (pt_cmpR op_eq (pe_ix ix_tup (pv 0) (pv 1) (fun _ _ => rfl)) (pe_op op_sub (pe_int) (pe_ix ix_tup (pv 0) (pe_op op_sub (pe_op op_sub (pe_callB call_lenK (by rfl) B.len boot_len (pa_cons (pv 0) pa_nil)) (pe_int)) (pv 1)) (fun _ _ => rfl))) (nomark _)))))
      (pss_one (ps_aug (i := 1) nd rfl (.inl rfl) (pe_int) ip_add)))
      (pss_one (ps_ret (pv 1))))), ?_⟩
    refine ⟨fun k σ H' => ∃ c : Nat, σ = [some (.ref a), some (.int c)] ∧ H' = H ∧ (∀ k, k < c → tCond xs k) ∧ k = xs.length - c ∧ c ≤ xs.length, ⟨_, 0, rfl, rfl, fun k hk => by omega, rfl, Nat.zero_le _⟩, ?_⟩
    rintro k σ H' ⟨c, rfl, rfl, hc, rfl, hcl⟩
    have fin : ¬ tCond xs c → tRet (tVar 1) { nx := fun _ H' => Q .non H', rt := Q } [some (.ref a), some (.int c)] H' := fun e => ⟨_, rfl, by rw [(tailN_is xs).uniq ⟨hc, e⟩] at q; exact q⟩
    have el : ((iV xs).length : Int) = (xs.length : Int) := by simp [iV]
    refine ⟨_, rfl, a, _, rfl, .inr (.inl (.inl ha)), _, rfl, 2, c, rfl, rfl, Or.inl ⟨by omega, by omega⟩, _, _, rfl, rfl, _, _, rfl, rfl, _, rfl, ?_⟩
    rw [el]
    refine ite_of (fun hlt => ?_) (fun hlt => ?_)
    · have hlt : 1 < (xs.length : Int) - 2 * c := by simpa using hlt
      refine ⟨_, rfl, _, rfl, ?_⟩
      refine ixT_row (j := c) (x := xs.getD c 0) ⟨a, rfl, ha⟩ rfl (by simp [List.getD_eq_getElem?_getD]; rw [List.getElem?_eq_getElem (by omega)]; rfl) ?_
      refine ⟨_, rfl, _, rfl, a, _, rfl, .inr (.inl (.inl ha)), _, _, rfl, rfl, _, rfl, _, _, rfl, rfl, ?_⟩
      refine ixT_row (j := xs.length - 1 - c) (x := xs.getD (xs.length - 1 - c) 0) ⟨a, rfl, ha⟩ (by simp [iV]; omega) (by simp [List.getD_eq_getElem?_getD]; rw [List.getElem?_eq_getElem (by omega)]; rfl) ?_
      refine ⟨_, _, rfl, rfl, rfl, _, rfl, ?_⟩
      refine ite_of (fun hz => ?_) (fun hz => ?_)
      · rw [decI, decide_eq_true_eq] at hz
        have hcc : tCond xs c := ⟨by omega, hz⟩
        exact ⟨fun σ' H'' => σ' = [some (.ref a), some (.int (c + 1))] ∧ H'' = H', fun σ' H'' ⟨e1, e2⟩ => ⟨xs.length - (c + 1), by omega, c + 1, e1, e2, fun k hk => by
          by_cases h' : k = c
          · subst h'; exact hcc
          · exact hc k (by omega), rfl, by omega⟩, _, rfl, _, _, rfl, rfl, rfl, rfl⟩
      · rw [decI, decide_eq_false_iff_not] at hz
        exact fin fun e => hz e.2
    · have hlt : ¬ 1 < (xs.length : Int) - 2 * c := by simpa using hlt
      exact fin fun e => by have := e.1; omega
end
end My
namespace My
open PySem PySem.Spec PyProof.Rows L2 SX
theorem tailN_le (xs : List Int) : tailN xs ≤ xs.length := by
  have h := tailN_is xs
  by_cases e : tailN xs = 0
  · omega
  · have := (h.1 (tailN xs - 1) (by omega)).1; omega
theorem cut_mid (xs : List Int) (c : Nat) (h : c ≤ xs.length) : cut xs (some (c : Int)) (some ((xs.length : Int) - c)) = (xs.drop c).take (xs.length - 2 * c) := by
  unfold cut HT.sIx
  simp only [Int.toNat_natCast]
  rw [if_neg (by omega), if_neg (by omega)]
  congr 1
  · omega
  · congr 1; omega
section
variable {P : Program} {w : World} {K : PySem.W.Frag} {mg : Str → Option Value} {base : Heap}
/-! ### middle_of -/
@[irreducible] def spMid : Sp := fun vs H Q _ => ∃ (v : V) (xs : List Int), vs = [v] ∧ Row H v xs ∧ xs.length ≤ 1000 ∧ ∀ v' H', Same H H' → Row H' v' (midN xs) → Q v' H'
theorem spMid_i {H : Hp} {v : V} {xs : List Int} {Q : VK} {E : XK} (h : Row H v xs) (hl : xs.length ≤ 1000) (q : ∀ v' H', Same H H' → Row H' v' (midN xs) → Q v' H') : spMid [v] H Q E := by
  unfold spMid
  exact ⟨v, xs, rfl, h, hl, q⟩
theorem ok_mid (B : Bt mg) (F : Fd K mg "middle_of" s_middle_of) (DT : Df P w K mg base CX0 1 "tail_of" ["row"] spTail) : Df P w K mg base CX0 2 "middle_of" ["row"] spMid := by
  refine .mk' F sc_middle_of (fun _ _ _ _ _ _ us hl => match us, hl with | [_], _ => rfl) (fun vs H Q E h => ?_) (fun f cdv A outer s H vs Q E hr h => ?_)
  · unfold spMid at h
    obtain ⟨v, xs, rfl, _⟩ := h
    rfl
  · unfold spMid at h
    obtain ⟨v, xs, rfl, h1, hl, q⟩ := h
    have nd := sc_middle_of.nd
    obtain ⟨a, rfl, ha⟩ := h1
    refine ⟨_, PSs.nox (pss_cons (ps_set (i := 1) nd rfl (Or.inl rfl) (pe_df DT hr rfl pass0 (pa_cons (pv 0) pa_nil)))
      (pss_one (ps_ret (pe_slice sl_tupA (pv 0) (po_some (pv 1)) (po_some (pe_op op_sub (pe_callB call_lenK (by rfl) B.len boot_len (pa_cons (pv 0) pa_nil)) (pv 1))))))), ?_⟩
    refine ⟨_, rfl, spTail_i ⟨a, rfl, ha⟩ hl ?_⟩
    have el : ((iV xs).length : Int) = (xs.length : Int) := by simp [iV]
    refine ⟨_, rfl, _, rfl, _, rfl, _, rfl, a, _, rfl, .inr (.inl (.inl ha)), _, rfl, _, _, rfl, rfl, _, rfl, ?_⟩
    refine slA_row (xs := xs) ⟨a, rfl, ha⟩ fun v1 H1 e1 r1 => ?_
    have r1 : Row H1 v1 (cut xs (some (tailN xs : Int)) (some (((iV xs).length : Int) - tailN xs))) := r1
    rw [el, cut_mid xs _ (tailN_le xs)] at r1
    exact q v1 H1 e1 r1
end
end My
namespace My
open PySem PySem.Spec PyProof.Rows L2 SX
theorem cut_drop8 (xs : List Int) (m : Nat) : cut xs (some (m : Int)) none = xs.drop m := by
  unfold cut HT.sIx
  simp only [Int.toNat_natCast]
  rw [if_neg (by omega), List.take_of_length_le (by simp)]
  by_cases h : m ≤ xs.length
  · rw [Nat.min_eq_left h]
  · rw [List.drop_eq_nil_of_le (by omega), List.drop_eq_nil_of_le (by omega)]
theorem cut_take8 (xs : List Int) (m : Nat) : cut xs none (some (m : Int)) = xs.take m := by
  unfold cut HT.sIx
  simp
  rw [if_neg (by omega)]
  omega
section
variable {P : Program} {w : World} {K : PySem.W.Frag} {mg : Str → Option Value} {base : Heap}
/-! ### root_in -/
/-- a row and a number in a tuple -/
def RowN (H : Hp) (v : V) (r : List Int × Nat) : Prop := ∃ p v1, v = .ref p ∧ H p = some (.tup [v1, .int (r.2 : Nat)]) ∧ Row H v1 r.1
@[irreducible] def spRootIn : Sp := fun vs H Q _ => ∃ (v : V) (xs : List Int), vs = [v] ∧ Row H v xs ∧ xs.length ≤ 200 ∧ adjOk xs = true ∧ (∀ x ∈ xs, x ≠ 0) ∧ ∀ v' H', Same H H' → RowN H' v' (rootR xs) → Q v' H'
theorem spRootIn_i {H : Hp} {v : V} {xs : List Int} {Q : VK} {E : XK} (h : Row H v xs) (hl : xs.length ≤ 200) (ha : adjOk xs = true) (nz : ∀ x ∈ xs, x ≠ 0) (q : ∀ v' H', Same H H' → RowN H' v' (rootR xs) → Q v' H') : spRootIn [v] H Q E := by
  unfold spRootIn
  exact ⟨v, xs, rfl, h, hl, ha, nz, q⟩
theorem ok_root_in (B : Bt mg) (F : Fd K mg "root_in" s_root_in) (DT : Df P w K mg base CX0 1 "tail_of" ["row"] spTail) (DM : Df P w K mg base CX0 2 "middle_of" ["row"] spMid) (DU : Df P w K mg base CX0 1 "undone_of" ["row"] spUndone) : Df P w K mg base CX0 3 "root_in" ["row"] spRootIn := by
  refine .mk' F sc_root_in (fun _ _ _ _ _ _ us hl => match us, hl with | [_], _ => rfl) (fun vs H Q E h => ?_) (fun f cdv A outer s H vs Q E hr h => ?_)
  · unfold spRootIn at h
    obtain ⟨v, xs, rfl, _⟩ := h
    rfl
  · unfold spRootIn at h
    obtain ⟨v, xs, rfl, h1, hl, had, hnz, q⟩ := h
    have nd := sc_root_in.nd
    refine ⟨_, PSs.nox (pss_cons (ps_if (pt_cmpR (op_eqD hr.units) (pv 0) (pe_tup (pa_nil)) (nomark _))
      (pss_one (ps_ret (pe_tup (pa_cons (pe_tup (pa_nil)) (pa_cons (pe_int) pa_nil))))) (pss_nil))
      (pss_cons (ps_par (i := 1) (j := 2) (by rfl) nd rfl rfl (by decide) rfl rfl (pa_cons (pe_df (DT.mono (by decide)) hr rfl pass0 (pa_cons (pv 0) pa_nil)) (pa_cons (pe_df DM hr rfl pass0 (pa_cons (pv 0) pa_nil)) pa_nil)) (by rfl))
      (pss_cons (ps_set (i := 3) nd rfl (Or.inl rfl) (pe_callB call_lenK (by rfl) B.len boot_len (pa_cons (pv 2) pa_nil)))
      (pss_cons (ps_for PassesOwn.never rfl (pi_range2 (by rfl) B.range (pa_cons (pe_int) (pa_cons (pe_op op_add (pv 3) (pe_int)) pa_nil))) (pg_name (i := 4) nd rfl (Or.inl rfl))
      (pss_one (ps_if (PW.pt (pw_and (pt_cmpR op_eq (pe_op op_mod (pv 3) (pv 4)) (pe_int) (nomark _)) (pw_and1 (pt_cmpR (op_eqD hr.units) (pe_op op_catA (pe_slice sl_tupA (pv 2) (po_some (pv 4)) po_none) (pe_slice sl_tupA (pv 2) po_none (po_some (pv 4)))) (pv 2) (nomark _)))))
      (pss_one (ps_break)) (pss_nil))))
      (pss_one (ps_ret (pe_tup (pa_cons (pe_op op_catA (pe_op op_catA (pe_slice sl_tupA (pv 0) po_none (po_some (pv 1))) (pe_slice sl_tupA (pv 2) po_none (po_some (pv 4)))) (pe_df (DU.mono (by decide)) hr rfl pass0 (pa_cons (pe_slice sl_tupA (pv 0) po_none (po_some (pv 1))) pa_nil))) (pa_cons (pe_op op_fdiv (pv 3) (pv 4)) pa_nil))))))))), ?_⟩
    refine ⟨_, rfl, Nat.zero_le _, fun l hll => eqD_int (t := true) (xs := xs) (ys := []) (h1.same (Same.new hll)).intD (.tup (.inl (.inl upd_same))) ⟨_, rfl, ?_⟩⟩
    have s0 : Same H (upd H l (.tup [])) := Same.new hll
    refine ite_of (fun e => ?_) (fun e => ?_)
    · have e : xs = [] := by simpa using e
      subst e
      refine ⟨Nat.zero_le _, fun p hp => ⟨by rw [PySem.sizeLine_eq]; simp, fun p2 hp2 => q _ _ ((s0.trans (Same.new hp)).trans (Same.new hp2)) ⟨p2, .ref p, rfl, upd_same, p, rfl, (Same.new hp2 : Same _ _) _ _ upd_same⟩⟩⟩
    · have e : xs ≠ [] := by simpa using e
      obtain ⟨t1, t2, t3, t4⟩ := tail_shape e had hnz
      refine ⟨_, rfl, spTail_i (h1.same s0) (by omega) ?_⟩
      refine ⟨_, rfl, spMid_i (h1.same s0) (by omega) fun v1 H1 s1 r1 => ?_⟩
      obtain ⟨b, rfl, hb⟩ := len_row (K := K) r1
      refine ⟨_, _, rfl, _, rfl, b, _, rfl, .inr hb, ?_⟩
      have eL : ((iV (midN xs)).length : Int) = ((midN xs).length : Int) := by simp [iV]
      rw [eL]
      have hL : (midN xs).length ≤ 200 := by
        unfold midN; rw [List.length_take, List.length_drop]; omega
      have hp := partN_is t3
      refine ⟨_, rfl, _, _, rfl, rfl, ?_⟩
      refine ⟨1, _, rfl, ⟨by omega, by omega, by omega, by omega⟩, ?_⟩
      rw [show (((midN xs).length : Int) + 1 - 1).toNat = (midN xs).length by omega]
      refine for_wk (wk_range (H1 := H1)) (fun i σ H' => ∃ x4, σ = [some v, some (.int (tailN xs)), some (.ref b), some (.int (midN xs).length), x4] ∧ Same H1 H' ∧ ∀ j, j ≤ i → ¬ pCond (midN xs) j) ⟨_, rfl, Same.refl _, fun j hj hc => by have := hc.1; omega⟩ (fun i σ H' ⟨_, _, h, _⟩ => h) ?_ ?_
      · rintro i σ H2 hi ⟨x4, rfl, e2, hj⟩
        refine ⟨_, rfl, _, rfl, _, _, rfl, rfl, by omega, rfl, _, rfl, ?_⟩
        have next : ¬ pCond (midN xs) (1 + i) → ∀ H3, Same H2 H3 → ∃ x4, [some v, some (.int (tailN xs)), some (.ref b), some (.int (midN xs).length), some (.int (1 + (i : Int)))] = [some v, some (.int (tailN xs)), some (.ref b), some (.int (midN xs).length), x4] ∧ Same H1 H3 ∧ ∀ j, j ≤ i + 1 → ¬ pCond (midN xs) j := fun h H3 e3 => ⟨_, rfl, e2.trans e3, fun j hj' => by
          by_cases h' : j = 1 + i
          · rw [h']; exact h
          · exact hj j (by omega)⟩
        refine ite_of (fun hz => ?_) (fun hz => ?_)
        · rw [decI, decide_eq_true_eq] at hz
          have r2 : Row H2 (.ref b) (midN xs) := r1.same e2
          refine ⟨_, rfl, _, rfl, _, rfl, ?_⟩
          refine noPart ?_
          refine slA_row r2 fun v3 H3 e3 r3 => ?_
          have r3 : Row H3 v3 (cut (midN xs) (some (1 + (i : Int))) none) := r3
          rw [show 1 + (i : Int) = ((1 + i : Nat) : Int) by omega, cut_drop8] at r3
          refine ⟨_, rfl, _, rfl, _, rfl, ?_⟩
          refine slA_row (r2.same e3) fun v4 H4 e4 r4 => ?_
          have r4 : Row H4 v4 (cut (midN xs) none (some (1 + (i : Int)))) := r4
          rw [show 1 + (i : Int) = ((1 + i : Nat) : Int) by omega, cut_take8] at r4
          refine catA_row (r3.same e4) r4 (by rw [PySem.sizeLine_eq, List.length_drop, List.length_take]; omega) fun v5 H5 e5 r5 => ?_
          have e25 := (e3.trans e4).trans e5
          refine ⟨_, rfl, eqD_int (t := true) r5.intD (r2.same e25).intD ⟨_, rfl, ?_⟩⟩
          refine ite_of (fun hz2 => ?_) (fun hz2 => ?_)
          · have hz2 : rot (midN xs) (1 + i) = midN xs := by simpa [rot] using hz2
            have hpc : pCond (midN xs) (1 + i) := ⟨by omega, by
              rw [show 1 + (i : Int) = ((1 + i : Nat) : Int) by omega, ← Int.natCast_emod] at hz
              omega, hz2⟩
            have ek : partN (midN xs) = 1 + i := hp.uniq ⟨hpc, by omega, fun j hj' => hj j (by omega)⟩
            have r0 := ((h1.same s0).same s1).same (e2.trans e25)
            have tl := tailN_le xs
            have lm := t1
            refine ⟨_, rfl, _, rfl, _, rfl, ?_⟩
            refine slA_row r0 fun v6 H6 e6 r6 => ?_
            have r6 : Row H6 v6 (cut xs none (some (tailN xs : Int))) := r6
            rw [cut_take8] at r6
            refine ⟨_, rfl, _, rfl, _, rfl, ?_⟩
            refine slA_row (r2.same (e25.trans e6)) fun v7 H7 e7 r7 => ?_
            have r7 : Row H7 v7 (cut (midN xs) none (some (1 + (i : Int)))) := r7
            rw [show 1 + (i : Int) = ((1 + i : Nat) : Int) by omega, cut_take8] at r7
            refine catA_row (r6.same e7) r7 (by rw [PySem.sizeLine_eq, List.length_take, List.length_take]; omega) fun v8 H8 e8 r8 => ?_
            refine ⟨_, rfl, _, rfl, _, rfl, ?_⟩
            refine slA_row (r0.same ((e6.trans e7).trans e8)) fun v9 H9 e9 r9 => ?_
            have r9 : Row H9 v9 (cut xs none (some (tailN xs : Int))) := r9
            rw [cut_take8] at r9
            refine spUndone_i r9 (by rw [List.length_take]; omega) fun v10 H10 e10 r10 => ?_
            refine catA_row ((r8.same e9).same e10) r10 (by rw [PySem.sizeLine_eq, List.length_append, undone_length, List.length_take, List.length_take]; omega) fun v11 H11 e11 r11 => ?_
            refine ⟨_, rfl, _, rfl, _, _, rfl, rfl, ⟨by omega, by omega⟩, by rw [PySem.sizeLine_eq]; simp, fun p hp3 => ?_⟩
            have e12 := Same.new (o := .tup [v11, .int ((midN xs).length / (1 + (i : Int)))]) hp3
            refine q _ _ ((((((((s0.trans s1).trans e2).trans e25).trans ((e6.trans e7).trans e8)).trans e9).trans e10).trans e11).trans e12) ⟨p, v11, rfl, ?_, ?_⟩
            · rw [upd_same]
              have : (rootR xs).2 = (midN xs).length / (1 + i) := by unfold rootR; rw [if_neg e, ek]
              rw [this, Int.natCast_ediv]
              rfl
            · have : (rootR xs).1 = xs.take (tailN xs) ++ (midN xs).take (1 + i) ++ undone (xs.take (tailN xs)) := by unfold rootR; rw [if_neg e, ek]
              rw [this]
              exact r11.same e12
          · have hz2 : ¬ rot (midN xs) (1 + i) = midN xs := by simpa [rot] using hz2
            exact next (fun h => hz2 h.2.2) H5 e25
        · rw [decI, decide_eq_false_iff_not] at hz
          exact next (fun h => hz (by rw [show 1 + (i : Int) = ((1 + i : Nat) : Int) by omega, ← Int.natCast_emod, h.2.1]; rfl)) H2 (Same.refl _)
      · rintro σ H2 ⟨x4, rfl, e2, hj⟩
        exact absurd (part_self t3) (hj _ (Nat.le_refl _))
end
end My
namespace My
open PySem PySem.Spec PyProof.Rows L2 SX
section
variable {P : Program} {w : World} {K : PySem.W.Frag} {mg : Str → Option Value} {base : Heap}
/-! ### root -/
@[irreducible] def spRoot : Sp := fun vs H Q _ => ∃ (n : Int) (v : V) (xs : List Int), vs = [.int n, v] ∧ 1 ≤ n ∧ n ≤ 4 ∧ Row H v xs ∧ Lets n xs ∧ xs.length ≤ 200 ∧ ∀ v' H', Same H H' → RowN H' v' (rootR (plain xs)) → Q v' H'
theorem spRoot_i {H : Hp} {n : Int} {v : V} {xs : List Int} {Q : VK} {E : XK} (n1 : 1 ≤ n) (n2 : n ≤ 4) (h : Row H v xs) (l : Lets n xs) (hl : xs.length ≤ 200) (q : ∀ v' H', Same H H' → RowN H' v' (rootR (plain xs)) → Q v' H') : spRoot [.int n, v] H Q E := by
  unfold spRoot
  exact ⟨n, v, xs, rfl, n1, n2, h, l, hl, q⟩
theorem ok_root {CD CR : Addr} (F : Fd K mg "root" s_root) (D3 : Df P w K mg base (L2.CX P w) 3 "need_deeds" ["deeds"] (spDeeds CD)) (D5 : Df P w K mg base (L2.CX P w) 5 "need_row" ["deeds", "row"] (spNeedRow CR)) (DR : Df P w K mg base CX0 3 "root_in" ["row"] spRootIn) :
    Df P w K mg base (L2.CX P w) 6 "root" ["deeds", "row"] spRoot := by
  refine .mk' F sc_root (fun _ _ _ _ _ _ us hl => match us, hl with | [_, _], _ => rfl) (fun vs H Q E h => ?_) (fun f cdv A outer s H vs Q E hr h => ?_)
  · unfold spRoot at h
    obtain ⟨n, v, xs, rfl, _⟩ := h
    rfl
  · unfold spRoot at h
    obtain ⟨n, v, xs, rfl, n1, n2, h1, l1, m1, q⟩ := h
    have nd := sc_root.nd
    refine ⟨_, pss_cons (ps_expr (pe_df (D3.mono (by decide)) hr rfl (passR (takes_of rfl rfl rfl rfl)) (pa_cons (pv 0) pa_nil)))
      (pss_one (ps_ret (pe_df (DR.mono (by decide)) hr rfl pass0 (pa_cons (pe_df D5 hr rfl (passR (takes_of rfl rfl rfl rfl)) (pa_cons (pv 0) (pa_cons (pv 1) pa_nil))) pa_nil)))), ?_⟩
    refine ⟨_, rfl, deeds_ok n1 n2 ?_⟩
    refine ⟨_, rfl, _, rfl, need_ok h1 l1 m1 fun v1 H1 s1 r1 => ?_⟩
    have p1 := plain_len xs
    exact spRootIn_i r1 (by omega) (plain_adj xs) (fun x hx => (l1 x (plain_mem hx)).2.2) fun v' H' s2 r2 => q v' H' (s1.trans s2) r2
end
end My
namespace My
open PySem PySem.Spec PyProof.Rows L2 SX
section
variable {P : Program} {w : World} {K : PySem.W.Frag} {mg : Str → Option Value} {base : Heap}
/-! ### _law_mr_commute -/
@[irreducible] def spCommute : Sp := fun vs H Q _ => ∃ (v u : V) (xs ys : List Int), vs = [v, u] ∧ Row H v xs ∧ Row H u ys ∧ xs.length ≤ 1000 ∧ ys.length ≤ 1000 ∧ ∀ H', Same H H' → Q (.bl (decide (plain (xs ++ ys) = plain (ys ++ xs)))) H'
theorem spCommute_i {H : Hp} {v u : V} {xs ys : List Int} {Q : VK} {E : XK} (h1 : Row H v xs) (h2 : Row H u ys) (l1 : xs.length ≤ 1000) (l2 : ys.length ≤ 1000) (q : ∀ H', Same H H' → Q (.bl (decide (plain (xs ++ ys) = plain (ys ++ xs)))) H') : spCommute [v, u] H Q E := by
  unfold spCommute
  exact ⟨v, u, xs, ys, rfl, h1, h2, l1, l2, q⟩
theorem ok_commute (F : Fd K mg "_law_mr_commute" s_l_mr_commute) (D_l_mk_plain : Df P w K mg base CX0 1 "_law_mk_plain" ["_law_letters"] (spPlain K)) : Df P w K mg base CX0 2 "_law_mr_commute" ["_law_one", "_law_other"] spCommute := by
  refine .mk' F sc_l_mr_commute (fun _ _ _ _ _ _ us hl => match us, hl with | [_, _], _ => rfl) (fun vs H Q E h => ?_) (fun f cdv A outer s H vs Q E hr h => ?_)
  · unfold spCommute at h
    obtain ⟨v, u, xs, ys, rfl, _⟩ := h
    rfl
  · unfold spCommute at h
    obtain ⟨v, u, xs, ys, rfl, h1, h2, l1, l2, q⟩ := h
    have nd := sc_l_mr_commute.nd
    refine ⟨_, PSs.nox (pss_one (ps_ret (pe_cmpR (op_eqD hr.units) (pe_df (D_l_mk_plain.mono (by decide)) hr rfl pass0 (pa_cons (pe_op op_catA (pv 0) (pv 1)) pa_nil)) (pe_df (D_l_mk_plain.mono (by decide)) hr rfl pass0 (pa_cons (pe_op op_catA (pv 1) (pv 0)) pa_nil)) (nomark _)))), ?_⟩
    refine ⟨_, rfl, _, rfl, catA_row h1 h2 (by rw [PySem.sizeLine_eq]; omega) fun v1 H1 s1 r1 => ?_⟩
    refine spPlain_row r1 (by rw [List.length_append]; omega) fun v2 H2 s2 r2 => ?_
    have s12 := s1.trans s2
    refine ⟨_, rfl, _, rfl, catA_row (h2.same s12) (h1.same s12) (by rw [PySem.sizeLine_eq]; omega) fun v3 H3 s3 r3 => ?_⟩
    refine spPlain_row r3 (by rw [List.length_append]; omega) fun v4 H4 s4 r4 => ?_
    exact eqD_int (t := true) ((r2.same s3).same s4).intD r4.intD (q H4 ((s12.trans s3).trans s4))
end
end My
namespace My
open PySem PySem.Spec PyProof.Rows L2 SX
section
variable {P : Program} {w : World} {K : PySem.W.Frag} {mg : Str → Option Value} {base : Heap}
/-! ### _law_mr_times -/
@[irreducible] def spTimesA : Sp := fun vs H Q _ => ∃ (v : V) (xs : List Int) (m : Int), vs = [v, .int m] ∧ Row H v xs ∧ xs.length ≤ 500 ∧ -20 ≤ m ∧ m ≤ 20 ∧ ∀ v' H', Same H H' → Row H' v' (plain (zq xs m)) → Q v' H'
theorem spTimesA_i {H : Hp} {v : V} {xs : List Int} {m : Int} {Q : VK} {E : XK} (h : Row H v xs) (h2 : xs.length ≤ 500) (h3 : -20 ≤ m) (h4 : m ≤ 20) (q : ∀ v' H', Same H H' → Row H' v' (plain (zq xs m)) → Q v' H') : spTimesA [v, .int m] H Q E := by
  unfold spTimesA
  exact ⟨v, xs, m, rfl, h, h2, h3, h4, q⟩
theorem rep_row {K : PySem.W.Frag} {H : Hp} {v : V} {xs : List Int} {m : Int} {Q : VK} (h : Row H v xs) (h1 : 0 ≤ m) (h2 : m ≤ 20) (h3 : xs.length ≤ 500) (q : ∀ v' H', Same H H' → Row H' v' (pw xs m.toNat) → Q v' H') : rRepTA K v (.int m) H Q := by
  obtain ⟨a, rfl, ha⟩ := h
  have e : (List.replicate m.toNat (iV xs)).flatten = iV (pw xs m.toNat) := by
    rw [← rep_pw]
    unfold iV
    rw [List.map_flatten, List.map_replicate]
  refine ⟨a, m, iV xs, rfl, rfl, .inl (.inl ha), h1, by omega, by simp [iV]; omega, fun hc => ?_, fun _ p hp => ?_⟩
  · refine q _ H (Same.refl H) ⟨a, rfl, ?_⟩
    rw [ha]
    rcases hc with hc | hc
    · have : xs = [] := by simpa [iV] using hc
      subst this
      rw [nil_pw]
    · subst hc
      show _ = some (HO.tup (iV (xs ++ [])))
      rw [List.append_nil]
  · exact q _ _ (Same.new hp) ⟨p, rfl, by rw [upd_same, e]⟩
theorem ok_timesA (B : Bt mg) (F : Fd K mg "_law_mr_times" s_l_mr_times) (D_l_mk_undone : Df P w K mg base CX0 1 "_law_mk_undone" ["_law_row"] spUndone) (D_l_mk_plain : Df P w K mg base CX0 1 "_law_mk_plain" ["_law_letters"] (spPlain K)) : Df P w K mg base CX0 2 "_law_mr_times" ["_law_row", "_law_many"] spTimesA := by
  refine .mk' F sc_l_mr_times (fun _ _ _ _ _ _ us hl => match us, hl with | [_, _], _ => rfl) (fun vs H Q E h => ?_) (fun f cdv A outer s H vs Q E hr h => ?_)
  · unfold spTimesA at h
    obtain ⟨v, xs, m, rfl, _⟩ := h
    rfl
  · unfold spTimesA at h
    obtain ⟨v, xs, m, rfl, h1, hl, m1, m2, q⟩ := h
    have nd := sc_l_mr_times.nd
    refine ⟨_, PSs.nox (pss_cons (ps_set (i := 2) nd rfl (Or.inl rfl) (pe_ifExp (pt_cmpR op_ge (pv 1) (pe_int) (nomark _)) (pv 0) (pe_df (D_l_mk_undone.mono (by decide)) hr rfl pass0 (pa_cons (pv 0) pa_nil))))
      (pss_one (ps_ret (pe_df (D_l_mk_plain.mono (by decide)) hr rfl pass0 (pa_cons (pe_op op_repTA (pv 2) (pe_callB call_abs (by rfl) B.abs (by decide +kernel) (pa_cons (pv 1) pa_nil))) pa_nil))))), ?_⟩
    have hz : (if m < 0 then -m else m) ≤ 20 ∧ 0 ≤ (if m < 0 then -m else m) := by split <;> omega
    refine ⟨_, rfl, _, _, rfl, rfl, _, rfl, ite_of (fun hm => ?_) (fun hm => ?_)⟩
    · have hm : 0 ≤ m := by simpa using hm
      refine ⟨_, rfl, _, rfl, _, rfl, m, rfl, ?_⟩
      rw [if_neg (by omega)]
      refine rep_row h1 hm m2 hl fun v1 H1 s1 r1 => ?_
      refine spPlain_row r1 ?_ fun v2 H2 s2 r2 => q v2 H2 (s1.trans s2) ?_
      · rw [pw_len]
        have := Nat.mul_le_mul (show m.toNat ≤ 20 by omega) hl
        omega
      · have e : zq xs m = pw xs m.toNat := by unfold zq; rw [if_pos hm]
        rw [e]; exact r2
    · have hm : ¬ 0 ≤ m := by simpa using hm
      refine ⟨_, rfl, spUndone_i h1 (by omega) fun v0 H0 s0 r0 => ?_⟩
      have ul := undone_length xs
      refine ⟨_, rfl, _, rfl, m, rfl, ?_⟩
      rw [if_pos (by omega)]
      refine rep_row r0 (by omega) (by omega) (by omega) fun v1 H1 s1 r1 => ?_
      refine spPlain_row r1 ?_ fun v2 H2 s2 r2 => q v2 H2 ((s0.trans s1).trans s2) ?_
      · rw [pw_len, ul]
        have := Nat.mul_le_mul (show (-m).toNat ≤ 20 by omega) hl
        omega
      · have e : zq xs m = pw (undone xs) (-m).toNat := by unfold zq; rw [if_neg hm, show 0 - m = -m by omega]
        rw [e]; exact r2
end
end My
namespace My
open PySem PySem.Spec PyProof.Rows L2 SX
theorem comm_iff {x y : List Int} : plain (x ++ y ++ undone x ++ undone y) = [] ↔ Comm x y := by
  constructor
  · intro h
    have h : Eqv (x ++ y ++ undone x ++ undone y) [] := h
    have h1 := h.app (Eqv.refl (y ++ x))
    have h2 : Eqv (x ++ y ++ undone x ++ undone y ++ (y ++ x)) (x ++ y) := by
      have e1 := ((Eqv.refl (x ++ y ++ undone x)).app (undo_left y)).app (Eqv.refl x)
      have e2 := (Eqv.refl (x ++ y)).app (undo_left x)
      simp at e1 e2 ⊢
      exact e1.trans e2
    rw [List.nil_append] at h1
    exact h2.symm.trans h1
  · intro h
    have h1 : Eqv (x ++ y ++ undone x ++ undone y) (y ++ x ++ undone x ++ undone y) := (h.app (Eqv.refl _)).app (Eqv.refl _)
    have h2 := ((Eqv.refl y).app (show Eqv (x ++ undone x) [] from plain_undo x)).app (Eqv.refl (undone y))
    have h3 : Eqv (y ++ undone y) [] := plain_undo y
    show Eqv _ []
    refine h1.trans ?_
    simp at h2 ⊢
    exact h2.trans h3
section
variable {P : Program} {w : World} {K : PySem.W.Frag} {mg : Str → Option Value} {base : Heap}
/-! ### meet_power -/
/-- what meet_power tells -/
def Met (H : Hp) (v : V) (xs ys : List Int) : Prop := ∃ p, v = .ref p ∧
  ((Comm xs ys ∧ ∃ v1, H p = some (.tup [.str (PySem.Str.ofString "powers"), v1, .int (meetR xs ys).2.1, .int (meetR xs ys).2.2]) ∧ Row H v1 (meetR xs ys).1) ∨
   (¬ Comm xs ys ∧ ∃ v1, H p = some (.tup [.str (PySem.Str.ofString "apart"), v1]) ∧ Row H v1 (plain (xs ++ ys ++ undone xs ++ undone ys))))
@[irreducible] def spMeet : Sp := fun vs H Q _ => ∃ (n : Int) (v u : V) (xs ys : List Int), vs = [.int n, v, u] ∧ 1 ≤ n ∧ n ≤ 4 ∧ Row H v xs ∧ Row H u ys ∧ Lets n xs ∧ Lets n ys ∧ adjOk xs = true ∧ adjOk ys = true ∧ xs.length ≤ 100 ∧ ys.length ≤ 100 ∧ ∀ v' H', Same H H' → Met H' v' xs ys → Q v' H'
theorem spMeet_i {H : Hp} {n : Int} {v u : V} {xs ys : List Int} {Q : VK} {E : XK} (n1 : 1 ≤ n) (n2 : n ≤ 4) (h1 : Row H v xs) (h2 : Row H u ys) (l1 : Lets n xs) (l2 : Lets n ys) (a1 : adjOk xs = true) (a2 : adjOk ys = true) (m1 : xs.length ≤ 100) (m2 : ys.length ≤ 100) (q : ∀ v' H', Same H H' → Met H' v' xs ys → Q v' H') : spMeet [.int n, v, u] H Q E := by
  unfold spMeet
  exact ⟨n, v, u, xs, ys, rfl, n1, n2, h1, h2, l1, l2, a1, a2, m1, m2, q⟩
theorem ok_meet {CD CR : Addr} (B : Bt mg) (F : Fd K mg "meet_power" s_meet_power) (D3 : Df P w K mg base (L2.CX P w) 3 "need_deeds" ["deeds"] (spDeeds CD)) (D5 : Df P w K mg base (L2.CX P w) 5 "need_row" ["deeds", "row"] (spNeedRow CR)) (DU : Df P w K mg base CX0 1 "undone_of" ["row"] spUndone) (DP : Df P w K mg base CX0 2 "product_of" ["some"] (spProd K)) (DR : Df P w K mg base CX0 3 "root_in" ["row"] spRootIn) :
    Df P w K mg base (L2.CX P w) 6 "meet_power" ["deeds", "one", "other"] spMeet := by
  refine .mk' F sc_meet_power (fun _ _ _ _ _ _ us hl => match us, hl with | [_, _, _], _ => rfl) (fun vs H Q E h => ?_) (fun f cdv A outer s H vs Q E hr h => ?_)
  · unfold spMeet at h
    obtain ⟨n, v, u, xs, ys, rfl, _⟩ := h
    rfl
  · unfold spMeet at h
    obtain ⟨n, v, u, xs, ys, rfl, n1, n2, h1, h2, l1, l2, a1, a2, m1, m2, q⟩ := h
    have nd := sc_meet_power.nd
    refine ⟨_, pss_cons (ps_expr (pe_df (D3.mono (by decide)) hr rfl (passR (takes_of rfl rfl rfl rfl)) (pa_cons (pv 0) pa_nil)))
      (pss_cons (ps_set (i := 3) nd rfl (Or.inl rfl) (pe_df D5 hr rfl (passR (takes_of rfl rfl rfl rfl)) (pa_cons (pv 0) (pa_cons (pv 1) pa_nil))))
      (pss_cons (ps_set (i := 4) nd rfl (Or.inl rfl) (pe_df D5 hr rfl (passR (takes_of rfl rfl rfl rfl)) (pa_cons (pv 0) (pa_cons (pv 2) pa_nil))))
      (pss_cons (ps_set (i := 5) nd rfl (Or.inl rfl) (pe_df (DP.mono (by decide)) hr rfl pass0 (pa_cons (pe_lst (pa_cons (pv 3) (pa_cons (pv 4) (pa_cons (pe_df (DU.mono (by decide)) hr rfl pass0 (pa_cons (pv 3) pa_nil)) (pa_cons (pe_df (DU.mono (by decide)) hr rfl pass0 (pa_cons (pv 4) pa_nil)) pa_nil))))) pa_nil)))
      (pss_cons (ps_if (pt_cmpR (op_neD hr.units) (pv 5) (pe_tup (pa_nil)) (nomark _))
      (pss_one (ps_ret (pe_tup (pa_cons (pe_str) (pa_cons (pv 5) pa_nil))))) (pss_nil))
      (pss_cons (ps_asg (pe_df (DR.mono (by decide)) hr rfl pass0 (pa_cons (pv 3) pa_nil)) (pg_tup rfl (pgs_cons (pg_name (i := 6) nd rfl (Or.inl rfl)) (pgs_cons (pg_name (i := 7) nd rfl (Or.inl rfl)) pgs_nil))))
      (pss_cons (ps_asg (pe_df (DR.mono (by decide)) hr rfl pass0 (pa_cons (pv 4) pa_nil)) (pg_tup rfl (pgs_cons (pg_name (i := 8) nd rfl (Or.inl rfl)) (pgs_cons (pg_name (i := 9) nd rfl (Or.inl rfl)) pgs_nil))))
      (pss_cons (ps_if (pt_cmpR (op_eqD hr.units) (pv 3) (pe_tup (pa_nil)) (nomark _))
      (pss_one (ps_ret (pe_tup (pa_cons (pe_str) (pa_cons (pv 8) (pa_cons (pe_int) (pa_cons (pv 9) pa_nil))))))) (pss_nil))
      (pss_one (ps_ret (pe_tup (pa_cons (pe_str) (pa_cons (pv 6) (pa_cons (pv 7) (pa_cons (pe_ifExp (pt_cmpR (op_eqD hr.units) (pv 8) (pv 6) (nomark _)) (pv 9) (pe_op op_sub (pe_int) (pv 9))) pa_nil)))))))))))))), ?_⟩
    refine ⟨_, rfl, deeds_ok n1 n2 ?_⟩
    refine ⟨_, rfl, _, rfl, need_ok h1 l1 (by omega) fun v1 H1 s1 r1 => ?_⟩
    refine ⟨_, rfl, _, rfl, need_ok (h2.same s1) l2 (by omega) fun v2 H2 s2 r2 => ?_⟩
    have px := plain_id a1
    have py := plain_id a2
    rw [px] at r1
    rw [py] at r2
    have ux := undone_length xs
    have uy := undone_length ys
    have r1' := r1.same s2
    refine ⟨_, rfl, _, rfl, _, rfl, spUndone_i r1' (by omega) fun v3 H3 s3 r3 => ?_⟩
    refine ⟨_, rfl, spUndone_i (r2.same s3) (by omega) fun v4 H4 s4 r4 => ?_⟩
    refine ⟨by rw [PySem.sizeLine_eq]; simp, fun p hp => ?_⟩
    have s5 : Same H4 (upd H4 p (.lst [v1, v2, v3, v4])) := Same.new hp
    refine spProd_i (rs := [v1, v2, v3, v4]) (xss := [xs, ys, undone xs, undone ys]) (SqL.of upd_same) (.cons (((r1'.same s3).same s4).same s5) (.cons (((r2.same s3).same s4).same s5) (.cons ((r3.same s4).same s5) (.cons (r4.same s5) .nil)))) (by simp; omega) (by simp) fun v5 H5 s6 r5 => ?_
    have er : [xs, ys, undone xs, undone ys].flatten = xs ++ ys ++ undone xs ++ undone ys := by simp
    rw [er] at r5
    have sA := ((s3.trans s4).trans s5).trans s6
    refine ⟨_, rfl, Nat.zero_le _, fun l hll => neD_int (t := true) (ys := []) (r5.same (Same.new hll)).intD (.tup (.inl (.inl upd_same))) ⟨_, rfl, ?_⟩⟩
    have sl : Same H5 (upd H5 l (.tup [])) := Same.new hll
    refine ite_of (fun hz => ?_) (fun hz => ?_)
    · have hz : ¬ plain (xs ++ ys ++ undone xs ++ undone ys) = [] := by simpa using hz
      refine ⟨_, rfl, by rw [PySem.sizeLine_eq]; simp, fun p2 hp2 => ?_⟩
      have s7 := Same.new (o := .tup [.str (PySem.Str.ofString "apart"), v5]) hp2
      exact q _ _ (((((s1.trans s2).trans sA).trans sl)).trans s7) ⟨p2, rfl, .inr ⟨fun hc => hz (comm_iff.mpr hc), v5, upd_same, (r5.same sl).same s7⟩⟩
    · have hz : plain (xs ++ ys ++ undone xs ++ undone ys) = [] := by simpa using hz
      have hcm := comm_iff.mp hz
      have pk := (r1'.same (sA.trans sl))
      have pk2 := (r2.same (sA.trans sl))
      refine ⟨_, rfl, spRootIn_i pk (by omega) a1 (fun x hx => (l1 x hx).2.2) fun v6 H6 s7 m6 => ?_⟩
      obtain ⟨p6, w6, rfl, hp6, hr6⟩ := m6
      refine ⟨p6, _, rfl, .inl (.inl hp6), rfl, _, _, rfl, _, _, rfl, rfl, ?_⟩
      refine ⟨_, rfl, spRootIn_i (pk2.same s7) (by omega) a2 (fun x hx => (l2 x hx).2.2) fun v7 H7 s8 m7 => ?_⟩
      obtain ⟨p7, w7, rfl, hp7, hr7⟩ := m7
      refine ⟨p7, _, rfl, .inl (.inl hp7), rfl, _, _, rfl, _, _, rfl, rfl, ?_⟩
      have sB := (((s1.trans s2).trans sA).trans sl).trans (s7.trans s8)
      refine ⟨_, rfl, Nat.zero_le _, fun l3 hl3 => eqD_int (t := true) (xs := xs) (ys := []) ((pk.same (s7.trans s8)).same (Same.new hl3)).intD (.tup (.inl (.inl upd_same))) ⟨_, rfl, ?_⟩⟩
      have s9 : Same H7 (upd H7 l3 (.tup [])) := Same.new hl3
      refine ite_of (fun hx => ?_) (fun hx => ?_)
      · have hx : xs = [] := by simpa using hx
        refine ⟨_, rfl, _, rfl, by rw [PySem.sizeLine_eq]; simp, fun p8 hp8 => ?_⟩
        have s10 := Same.new (o := .tup [.str (PySem.Str.ofString "powers"), w7, .int 0, .int ((rootR ys).2 : Nat)]) hp8
        refine q _ _ ((sB.trans s9).trans s10) ⟨p8, rfl, .inl ⟨hcm, w7, ?_, ?_⟩⟩
        · rw [upd_same]; unfold meetR; rw [if_pos hx]
        · unfold meetR; rw [if_pos hx]; exact (hr7.same s9).same s10
      · have hx : xs ≠ [] := by simpa using hx
        have rm := (hr6.same s8).same s9
        have rt := hr7.same s9
        refine ⟨_, rfl, _, rfl, _, rfl, _, rfl, eqD_int (t := true) rt.intD rm.intD ⟨_, rfl, ?_⟩⟩
        refine ite_of (fun hz2 => ?_) (fun hz2 => ?_)
        · have hz2 : (rootR ys).1 = (rootR xs).1 := by simpa using hz2
          refine ⟨_, rfl, by rw [PySem.sizeLine_eq]; simp, fun p8 hp8 => ?_⟩
          have s10 := Same.new (o := .tup [.str (PySem.Str.ofString "powers"), w6, .int ((rootR xs).2 : Nat), .int ((rootR ys).2 : Nat)]) hp8
          refine q _ _ ((sB.trans s9).trans s10) ⟨p8, rfl, .inl ⟨hcm, w6, ?_, ?_⟩⟩
          · rw [upd_same]; unfold meetR; rw [if_neg hx, if_pos hz2]
          · unfold meetR; rw [if_neg hx]; exact rm.same s10
        · have hz2 : ¬ (rootR ys).1 = (rootR xs).1 := by simpa using hz2
          refine ⟨_, rfl, _, _, rfl, rfl, by rw [PySem.sizeLine_eq]; simp, fun p8 hp8 => ?_⟩
          have s10 := Same.new (o := .tup [.str (PySem.Str.ofString "powers"), w6, .int ((rootR xs).2 : Nat), .int (0 - ((rootR ys).2 : Nat))]) hp8
          refine q _ _ ((sB.trans s9).trans s10) ⟨p8, rfl, .inl ⟨hcm, w6, ?_, ?_⟩⟩
          · rw [upd_same]; unfold meetR; rw [if_neg hx, if_neg hz2]
          · unfold meetR; rw [if_neg hx]; exact rm.same s10
end
end My
namespace My
open PySem PySem.Spec PyProof.Rows L2 SX
/-! ### powers of rows that do not commute -/
theorem comm_undone {x y : List Int} (h : Comm (undone x) y) : Comm x y := by
  have := (cen_sub y).undone h
  rwa [undone_undone] at this
theorem pw_side {x y : List Int} (ax : adjOk x = true) (lx : Lets 4 x) (m : Int) (h : ¬ Comm x y) : ∃ x', zq x m = pw x' m.natAbs ∧ adjOk x' = true ∧ Lets 4 x' ∧ ¬ Comm x' y := by
  unfold zq
  split
  · exact ⟨x, by rw [show m.toNat = m.natAbs by omega], ax, lx, h⟩
  · exact ⟨undone x, by rw [show (0 - m).toNat = m.natAbs by omega], undone_adj ax, lx.undone, fun e => h (comm_undone e)⟩
theorem zq_lets {n : Int} {x : List Int} (h : Lets n x) (m : Int) : Lets n (zq x m) := by
  unfold zq
  split
  · rw [← rep_pw]; exact fun z hz => by
      obtain ⟨ys, hy, hx⟩ := List.mem_flatten.mp hz
      rw [(List.mem_replicate.mp hy).2] at hx
      exact h z hx
  · rw [← rep_pw]; exact fun z hz => by
      obtain ⟨ys, hy, hx⟩ := List.mem_flatten.mp hz
      rw [(List.mem_replicate.mp hy).2] at hx
      exact h.undone z hx
theorem zq_len (x : List Int) (m : Int) : (zq x m).length = m.natAbs * x.length := by
  unfold zq
  split
  · rw [pw_len, show m.toNat = m.natAbs by omega]
  · rw [pw_len, undone_length, show (0 - m).toNat = m.natAbs by omega]
theorem plain_two (a b : List Int) : plain (plain a ++ plain b) = plain (a ++ b) := by
  exact plain_app a b
theorem apart_alone {x y : List Int} (ax : adjOk x = true) (ay : adjOk y = true) (lx : Lets 4 x) (ly : Lets 4 y) (h : ¬ Comm x y) {m n : Int} (hm : 2 ≤ m.natAbs) (hn : 2 ≤ n.natAbs) :
    plain (zq x m ++ zq y n) ≠ [] ∧ rootR (plain (zq x m ++ zq y n)) = (plain (zq x m ++ zq y n), 1) := by
  have nz : ∀ z ∈ plain (zq x m ++ zq y n), z ≠ 0 := fun z hz => (((zq_lets lx m).app (zq_lets ly n)) z (plain_mem hz)).2.2
  obtain ⟨x', ex, ax', lx', h1⟩ := pw_side ax lx m h
  obtain ⟨y', ey, ay', ly', h2⟩ := pw_side ay ly n (fun e => h1 e.symm)
  have F := free_of _ x' y' rfl ax' ay' lx' ly' (fun e => h2 e.symm)
  have N := noPow_mul F hm hn
  rw [← ex, ← ey] at N
  exact root_alone (plain_adj _) nz (N.eqv (plain_plain _).symm)
theorem comm_alone {x y : List Int} (ax : adjOk x = true) (ay : adjOk y = true) (lx : Lets 4 x) (ly : Lets 4 y) (h : ¬ Comm x y) :
    plain (x ++ y ++ undone x ++ undone y) ≠ [] ∧ rootR (plain (x ++ y ++ undone x ++ undone y)) = (plain (x ++ y ++ undone x ++ undone y), 1) := by
  have nz : ∀ z ∈ plain (x ++ y ++ undone x ++ undone y), z ≠ 0 := fun z hz => ((((lx.app ly).app lx.undone).app ly.undone) z (plain_mem hz)).2.2
  have F := free_of _ x y rfl ax ay lx ly h
  exact root_alone (plain_adj _) nz ((noPow_comm F).eqv (plain_plain _).symm)
/-! ### a row with a number as a datum -/
def pairPy (r : List Int × Nat) : PyData := .tuple [intPy true r.1, .int (r.2 : Nat)]
theorem RowN.dp {K : PySem.W.Frag} {H : Hp} {v : V} {r : List Int × Nat} (h : RowN H v r) : Dp K H v (pairPy r) := by
  obtain ⟨p, v1, rfl, hp, hr⟩ := h
  exact .tup (.inl (.inl hp)) (.cons hr.intD.dp (.cons (.int _) .nil))
theorem RowN.same {H H' : Hp} {v : V} {r : List Int × Nat} (e : Same H H') (h : RowN H v r) : RowN H' v r := by
  obtain ⟨p, v1, rfl, hp, hr⟩ := h
  exact ⟨p, v1, rfl, e _ _ hp, hr.same e⟩
theorem shaped_pair (r : List Int × Nat) : SeqAt.shaped (pairPy r) = true := by
  have hd := depthAll_int r.1
  unfold SeqAt.shaped pairPy intPy
  simp only [if_true]
  rw [PyData.canLay0, PyData.canLayAll0, PyData.canLayAll0, PyData.canLayAll0, PyData.canLay0, PyData.canLay0, canAll_int, PyData.depth, PyData.depthAll, PyData.depthAll, PyData.depthAll, PyData.depth, PyData.depth]
  simp [PyData.canLay0]; omega
theorem eqv_pair (r : List Int × Nat) : PyData.eqv (pairPy r) (pairPy r) = true := by
  have h := eqv_intPy true r.1 r.1
  unfold pairPy
  rw [PyData.eqv, PyData.eqvAll, h, PyData.eqvAll, PyData.eqvAll]
  simp [PyData.eqv]
theorem eqD_pair {K : PySem.W.Frag} {H : Hp} {v w : V} {r : List Int × Nat} {Q : VK} (h : RowN H v r) (h' : RowN H w r) (q : Q (.bl true) H) : rEqD K v w H Q := ⟨_, _, h.dp, h'.dp, shaped_pair _, shaped_pair _, by rw [eqv_pair]; exact q⟩
theorem neD_pair {K : PySem.W.Frag} {H : Hp} {v w : V} {r : List Int × Nat} {Q : VK} (h : RowN H v r) (h' : RowN H w r) (q : Q (.bl false) H) : rNeD K v w H Q := ⟨_, _, h.dp, h'.dp, shaped_pair _, shaped_pair _, by rw [eqv_pair]; exact q⟩
section
variable {P : Program} {w : World} {K : PySem.W.Frag} {mg : Str → Option Value} {base : Heap}
/-! ### _law_mr_pair -/
def PairQ (H : Hp) (p : Addr) (n : Int) : Prop := ∃ (v1 v2 : V) (xs ys : List Int), H p = some (.tup [v1, v2]) ∧ Row H v1 xs ∧ Row H v2 ys ∧ adjOk xs = true ∧ adjOk ys = true ∧ Lets n xs ∧ Lets n ys ∧ xs.length ≤ 16 ∧ ys.length ≤ 20
@[irreducible] def spPair : Sp := fun vs H Q _ => ∃ (u : Sd) (k : Nat) (n : Int), vs = [.ref u.s, .int n] ∧ 1 ≤ n ∧ n ≤ 4 ∧ Dst H u (k + 500) ∧ ∀ (p : Addr) H', Kp u H H' → Dst H' u k → PairQ H' p n → Q (.ref p) H'
theorem spPair_i {H : Hp} {u : Sd} {k : Nat} {n : Int} {Q : VK} {E : XK} (h1 : 1 ≤ n) (h2 : n ≤ 4) (h : Dst H u (k + 500)) (q : ∀ (p : Addr) H', Kp u H H' → Dst H' u k → PairQ H' p n → Q (.ref p) H') : spPair [.ref u.s, .int n] H Q E := by
  unfold spPair
  exact ⟨u, k, n, rfl, h1, h2, h, q⟩
theorem ok_pair (F : Fd K mg "_law_mr_pair" s_l_mr_pair) (D_l_draw : Df P w K mg base CX0 2 "_law_draw" ["_law_state", "_law_room"] spDraw) (D_l_mk_row : Df P w K mg base CX0 4 "_law_mk_row" ["_law_state", "_law_deeds", "_law_least", "_law_most"] spMkRow) (D_l_mr_times : Df P w K mg base CX0 2 "_law_mr_times" ["_law_row", "_law_many"] spTimesA)
    (D_l_mk_plain : Df P w K mg base CX0 1 "_law_mk_plain" ["_law_letters"] (spPlain K)) (D_l_mr_turned : Df P w K mg base CX0 2 "_law_mr_turned" ["_law_row", "_law_by"] spTurned) : Df P w K mg base CX0 5 "_law_mr_pair" ["_law_state", "_law_deeds"] spPair := by
  refine .mk' F sc_l_mr_pair (fun _ _ _ _ _ _ us hl => match us, hl with | [_, _], _ => rfl) (fun vs H Q E h => ?_) (fun f cdv A outer s H vs Q E hr h => ?_)
  · unfold spPair at h
    obtain ⟨u, k, n, rfl, _⟩ := h
    rfl
  · unfold spPair at h
    obtain ⟨u, k, n, rfl, n1, n2, hd, q⟩ := h
    have nd := sc_l_mr_pair.nd
    refine ⟨_, PSs.nox (pss_cons (ps_par (i := 2) (j := 3) (by rfl) nd rfl rfl (by decide) rfl rfl (pa_cons (pe_df (D_l_mk_row.mono (by decide)) hr rfl pass0 (pa_cons (pv 0) (pa_cons (pv 1) (pa_cons (pe_int) (pa_cons (pe_int) pa_nil))))) (pa_cons (pe_df (D_l_draw.mono (by decide)) hr rfl pass0 (pa_cons (pv 0) (pa_cons (pe_int) pa_nil))) pa_nil)) (by rfl))
      (pss_cons (ps_set (i := 4) nd rfl (Or.inl rfl) (pe_df (D_l_mk_row.mono (by decide)) hr rfl pass0 (pa_cons (pv 0) (pa_cons (pv 1) (pa_cons (pe_int) (pa_cons (pe_int) pa_nil))))))
      (pss_cons (ps_par (i := 5) (j := 6) (by rfl) nd rfl rfl (by decide) rfl rfl (pa_cons (pe_df (D_l_mr_times.mono (by decide)) hr rfl pass0 (pa_cons (pv 2) (pa_cons (pe_op op_sub (pe_df (D_l_draw.mono (by decide)) hr rfl pass0 (pa_cons (pv 0) (pa_cons (pe_int) pa_nil))) (pe_int)) pa_nil))) (pa_cons (pe_df (D_l_mr_times.mono (by decide)) hr rfl pass0 (pa_cons (pv 2) (pa_cons (pe_op op_sub (pe_df (D_l_draw.mono (by decide)) hr rfl pass0 (pa_cons (pv 0) (pa_cons (pe_int) pa_nil))) (pe_int)) pa_nil))) pa_nil)) (by rfl))
      (C8.pss_cut (ps_if (pt_cmpR op_eq (pv 3) (pe_int) (nomark _))
      (pss_one (ps_set (i := 6) nd rfl (Or.inl rfl) (pe_df (D_l_mk_plain.mono (by decide)) hr rfl pass0 (pa_cons (pe_op op_catA (pv 6) (pe_df (D_l_mk_row.mono (by decide)) hr rfl pass0 (pa_cons (pv 0) (pa_cons (pv 1) (pa_cons (pe_int) (pa_cons (pe_int) pa_nil)))))) pa_nil)))) (pss_one (ps_if (pt_cmpR op_eq (pv 3) (pe_int) (nomark _))
      (pss_one (ps_set (i := 6) nd rfl (Or.inl rfl) (pe_df (D_l_mk_row.mono (by decide)) hr rfl pass0 (pa_cons (pv 0) (pa_cons (pv 1) (pa_cons (pe_int) (pa_cons (pe_int) pa_nil))))))) (pss_one (ps_if (pt_cmpR op_eq (pv 3) (pe_int) (nomark _))
      (pss_one (ps_ret (pe_tup (pa_cons (pe_df (D_l_mr_turned.mono (by decide)) hr rfl pass0 (pa_cons (pv 5) (pa_cons (pv 4) pa_nil))) (pa_cons (pe_df (D_l_mr_turned.mono (by decide)) hr rfl pass0 (pa_cons (pv 6) (pa_cons (pe_df (D_l_mk_row.mono (by decide)) hr rfl pass0 (pa_cons (pv 0) (pa_cons (pv 1) (pa_cons (pe_int) (pa_cons (pe_int) pa_nil))))) pa_nil))) pa_nil))))) (pss_nil))))))
      (pss_one (ps_ret (pe_tup (pa_cons (pe_df (D_l_mr_turned.mono (by decide)) hr rfl pass0 (pa_cons (pv 5) (pa_cons (pv 4) pa_nil))) (pa_cons (pe_df (D_l_mr_turned.mono (by decide)) hr rfl pass0 (pa_cons (pv 6) (pa_cons (pv 4) pa_nil))) pa_nil))))))))), ?_⟩
    refine ⟨_, rfl, _, rfl, spMkRow_i (k := k + 400) n1 n2 (by omega) (by omega) (by omega) hd fun bs vb H1 kp1 ds1 rb pb _ lb => ?_⟩
    refine ⟨_, rfl, spDraw_i (k := k + 399) (by omega) (by omega) ds1 fun way H2 w0 w1 kp2 ds2 => ?_⟩
    refine ⟨_, _, rfl, _, rfl, _, rfl, spMkRow_i (k := k + 299) n1 n2 (by omega) (by omega) (by omega) ds2 fun ts vt H3 kp3 ds3 rt pt _ lt => ?_⟩
    have rb3 := (rb.tst (kp2.tst ds1)).tst (kp3.tst ds2)
    refine ⟨_, rfl, _, rfl, spDraw_i (k := k + 298) (by omega) (by omega) ds3 fun d1 H4 d10 d11 kp4 ds4 => ⟨_, _, rfl, rfl, ?_⟩⟩
    have rb4 := rb3.tst (kp4.tst ds3)
    refine spTimesA_i rb4 (by omega) (by omega) (by omega) fun v1 H5 s5 r1 => ?_
    have ds5 := ds4.same s5
    refine ⟨_, rfl, _, rfl, spDraw_i (k := k + 297) (by omega) (by omega) ds5 fun d2 H6 d20 d21 kp6 ds6 => ⟨_, _, rfl, rfl, ?_⟩⟩
    have rb6 := (rb4.same s5).tst (kp6.tst ds5)
    have r16 := r1.tst (kp6.tst ds5)
    refine spTimesA_i rb6 (by omega) (by omega) (by omega) fun v2 H7 s7 r2 => ?_
    refine ⟨_, _, rfl, ?_⟩
    have A (d : Int) (h0 : 0 ≤ d) (h1 : d < 7) : adjOk (plain (zq bs (d - 3))) = true ∧ Lets n (plain (zq bs (d - 3))) ∧ (plain (zq bs (d - 3))).length ≤ 12 := by
      refine ⟨plain_adj _, Lets.plain (zq_lets pb.1 _), ?_⟩
      have h := plain_len (zq bs (d - 3))
      rw [zq_len] at h
      have : (d - 3).natAbs * bs.length ≤ 3 * 4 := Nat.mul_le_mul (by omega) (by omega)
      omega
    obtain ⟨a1, l1, m1⟩ := A d1 d10 d11
    obtain ⟨a2, l2, m2⟩ := A d2 d20 d21
    have r17 := r16.same s7
    have ds7 := ds6.same s7
    have kp67 := kp6.trans (Kp.of s7)
    have rt7 := ((rt.tst (kp4.tst ds3)).same s5).tst (kp67.tst ds5)
    have kp7 := (((kp1.trans kp2).trans kp3).trans kp4).trans ((Kp.of s5).trans kp67)
    generalize plain (zq bs (d1 - 3)) = xs at r17 a1 l1 m1
    generalize plain (zq bs (d2 - 3)) = ys at r2 a2 l2 m2
    have T {zs ws : List Int} (hz : Lets n zs) (hw : Lets n ws) (hw2 : ws.length ≤ 2) : adjOk (plain (ws ++ zs ++ undone ws)) = true ∧ Lets n (plain (ws ++ zs ++ undone ws)) ∧ (plain (ws ++ zs ++ undone ws)).length ≤ zs.length + 4 := by
      refine ⟨plain_adj _, Lets.plain ((hw.app hz).app hw.undone), ?_⟩
      have h := plain_len (ws ++ zs ++ undone ws)
      rw [List.length_append, List.length_append, undone_len] at h
      omega
    obtain ⟨a3, l3, m3⟩ := T l1 pt.1 (by omega)
    refine ⟨fun σ' H' => ∃ (v : V) (zs : List Int), σ' = [some (.ref u.s), some (.int n), some vb, some (.int way), some vt, some v1, some v] ∧ Kp u H7 H' ∧ Dst H' u (k + 100) ∧ Row H' v zs ∧ adjOk zs = true ∧ Lets n zs ∧ zs.length ≤ 13, ?_, ?_⟩
    · refine ⟨_, rfl, rfl, _, rfl, ?_⟩
      refine ite_of (fun h => ?_) (fun h => ?_)
      · refine ⟨_, rfl, _, rfl, _, rfl, spMkRow_i (k := k + 190) n1 n2 (by omega) (by omega) (by omega) (ds7.le (by omega)) fun ws vw H8 kp8 ds8 rw8 pw8 _ lw => ?_⟩
        refine catA_row (r2.tst (kp8.tst ds7)) rw8 (by rw [PySem.sizeLine_eq]; omega) fun v9 H9 s9 r9 => ?_
        refine spPlain_row r9 (by rw [List.length_append]; omega) fun v10 H10 s10 r10 => ?_
        refine ⟨v10, _, rfl, (kp8.trans (Kp.of s9)).trans (Kp.of s10), ((ds8.same s9).same s10).le (by omega), r10, plain_adj _, Lets.plain (l2.app pw8.1), ?_⟩
        have h := plain_len (ys ++ ws)
        rw [List.length_append] at h
        omega
      · refine ⟨_, rfl, rfl, _, rfl, ?_⟩
        refine ite_of (fun h => ?_) (fun h => ?_)
        · refine ⟨_, rfl, _, rfl, spMkRow_i (k := k + 190) n1 n2 (by omega) (by omega) (by omega) (ds7.le (by omega)) fun ws vw H8 kp8 ds8 rw8 pw8 _ lw => ?_⟩
          exact ⟨vw, ws, rfl, kp8, ds8.le (by omega), rw8, pw8.2, pw8.1, by omega⟩
        · refine ⟨_, rfl, rfl, _, rfl, ?_⟩
          refine ite_of (fun h => ?_) (fun h => ?_)
          · refine ⟨_, rfl, _, rfl, spTurned_i r17 rt7 (by omega) (by omega) fun v8 H8 s8 r8 => ?_⟩
            refine ⟨_, rfl, _, rfl, _, rfl, spMkRow_i (k := k + 190) n1 n2 (by omega) (by omega) (by omega) ((ds7.same s8).le (by omega)) fun ws vw H9 kp9 ds9 rw9 pw9 _ lw => ?_⟩
            refine spTurned_i ((r2.same s8).tst (kp9.tst (ds7.same s8))) rw9 (by omega) (by omega) fun v10 H10 s10 r10 => ?_
            refine ⟨by rw [PySem.sizeLine_eq]; simp, fun p hp => ?_⟩
            obtain ⟨a4, l4, m4⟩ := T l2 pw9.1 (by omega)
            have s11 := Same.new (o := .tup [v8, v10]) hp
            refine q p _ (kp7.trans (((Kp.of s8).trans kp9).trans (Kp.of (s10.trans s11)))) (((ds9.same s10).same s11).le (by omega)) ⟨v8, v10, _, _, upd_same, ((r8.tst (kp9.tst (ds7.same s8))).same s10).same s11, r10.same s11, a3, a4, l3, l4, by omega, by omega⟩
          · exact ⟨v2, ys, rfl, Kp.refl _ _, ds7.le (by omega), r2, a2, l2, by omega⟩
    · rintro σ' H8 ⟨v, zs, rfl, kp8, ds8, r8, az, lz, mz⟩
      have t8 := kp8.tst ds7
      refine ⟨_, rfl, _, rfl, spTurned_i (r17.tst t8) (rt7.tst t8) (by omega) (by omega) fun v9 H9 s9 r9 => ?_⟩
      refine ⟨_, rfl, _, rfl, spTurned_i (r8.same s9) ((rt7.tst t8).same s9) (by omega) (by omega) fun v10 H10 s10 r10 => ?_⟩
      refine ⟨by rw [PySem.sizeLine_eq]; simp, fun p hp => ?_⟩
      obtain ⟨a4, l4, m4⟩ := T lz pt.1 (by omega)
      have s11 := Same.new (o := .tup [v9, v10]) hp
      refine q p _ ((kp7.trans kp8).trans (Kp.of ((s9.trans s10).trans s11))) (((ds8.same s9).same s10).same s11 |>.le (by omega)) ⟨v9, v10, _, _, upd_same, (r9.same s10).same s11, r10.same s11, a3, a4, l3, l4, by omega, by omega⟩
/-! ### _law_mr_alone -/
@[irreducible] def spAlone : Sp := fun vs H Q _ => ∃ (n : Int) (v : V) (xs : List Int), vs = [.int n, v] ∧ 1 ≤ n ∧ n ≤ 4 ∧ Row H v xs ∧ Lets n xs ∧ adjOk xs = true ∧ xs.length ≤ 200 ∧ xs ≠ [] ∧ rootR xs = (xs, 1) ∧ ∀ H', Same H H' → Q (.bl true) H'
theorem spAlone_i {H : Hp} {n : Int} {v : V} {xs : List Int} {Q : VK} {E : XK} (n1 : 1 ≤ n) (n2 : n ≤ 4) (h : Row H v xs) (l : Lets n xs) (a : adjOk xs = true) (hl : xs.length ≤ 200) (h0 : xs ≠ []) (h1 : rootR xs = (xs, 1)) (q : ∀ H', Same H H' → Q (.bl true) H') : spAlone [.int n, v] H Q E := by
  unfold spAlone
  exact ⟨n, v, xs, rfl, n1, n2, h, l, a, hl, h0, h1, q⟩
theorem ok_alone (F : Fd K mg "_law_mr_alone" s_l_mr_alone) (D_root : Df P w K mg base (L2.CX P w) 6 "root" ["deeds", "row"] spRoot) (D_l_mr_whole : Df P w K mg base CX0 1 "_law_mr_whole" ["_law_thing"] spWhole) :
    Df P w K mg base (L2.CX P w) 7 "_law_mr_alone" ["_law_deeds", "_law_row"] spAlone := by
  refine .mk' F sc_l_mr_alone (fun _ _ _ _ _ _ us hl => match us, hl with | [_, _], _ => rfl) (fun vs H Q E h => ?_) (fun f cdv A outer s H vs Q E hr h => ?_)
  · unfold spAlone at h
    obtain ⟨n, v, xs, rfl, _⟩ := h
    rfl
  · unfold spAlone at h
    obtain ⟨n, v, xs, rfl, n1, n2, h, l, a, hl, h0, h1, q⟩ := h
    have nd := sc_l_mr_alone.nd
    refine ⟨_, pss_cons (ps_set (i := 2) nd rfl (Or.inl rfl) (pe_df D_root hr rfl (passR (takes_of rfl rfl rfl rfl)) (pa_cons (pv 0) (pa_cons (pv 1) pa_nil))))
      (pss_one (ps_ret (pe_and (pe_cmpR (op_neD hr.units) (pv 1) (pe_tup (pa_nil)) (nomark _)) (pe_and (pe_cmpR (op_eqD hr.units) (pv 2) (pe_tup (pa_cons (pv 1) (pa_cons (pe_int) pa_nil))) (nomark _)) (pe_one (pe_df (D_l_mr_whole.mono (by decide)) hr rfl pass0 (pa_cons (pe_ix ix_tup (pv 2) (pe_int) (fun _ _ => rfl)) pa_nil))))))), ?_⟩
    refine ⟨_, rfl, _, rfl, spRoot_i n1 n2 h l hl fun v1 H1 s1 r1 => ?_⟩
    rw [plain_id a, h1] at r1
    refine ⟨_, rfl, Nat.zero_le _, fun p hp => neD_int (t := true) (ys := []) ((h.same s1).same (Same.new hp)).intD (.tup (.inl (.inl upd_same))) ⟨_, rfl, ?_⟩⟩
    have s2 := Same.new (o := .tup []) hp
    rw [decide_eq_false h0]
    refine iteT ⟨_, rfl, _, rfl, by rw [PySem.sizeLine_eq]; simp, fun p2 hp2 => ?_⟩
    have s3 := Same.new (o := .tup [v, .int 1]) hp2
    have r3 := (r1.same s2).same s3
    refine eqD_pair r3 ⟨p2, v, rfl, upd_same, ((h.same s1).same s2).same s3⟩ ⟨_, rfl, iteT ?_⟩
    obtain ⟨p1, w1, rfl, hp1, _⟩ := r3
    refine ⟨_, rfl, p1, _, _, _, rfl, rfl, .inl (.inl hp1), rfl, ?_⟩
    exact spWhole_i (.int _) (q _ ((s1.trans s2).trans s3))
end
end My
namespace My
open PySem PySem.Spec PyProof.Rows L2 SX
theorem root_len (x : List Int) : (rootR x).1.length ≤ 3 * x.length := by
  unfold rootR
  split
  · simp
  · have h : (midN x).length ≤ x.length := by
      unfold midN
      rw [List.length_take, List.length_drop]
      omega
    show ((x.take (tailN x) ++ (midN x).take (partN (midN x))) ++ undone (x.take (tailN x))).length ≤ _
    rw [List.length_append, List.length_append, undone_length, List.length_take, List.length_take]
    omega
theorem meet_len (x y : List Int) : (meetR x y).1.length ≤ 3 * x.length + 3 * y.length := by
  have hx := root_len x
  have hy := root_len y
  unfold meetR
  split <;> (show (rootR _).1.length ≤ _; omega)
section
variable {P : Program} {w : World} {K : PySem.W.Frag} {mg : Str → Option Value} {base : Heap}
@[irreducible] def spLaw68 (K : PySem.W.Frag) : Sp := fun vs H Q _ => ∃ (a : Addr) (ns : List Int), vs = [.ref a] ∧ SqL K H a (iV ns) ∧ ns.length < 1000 ∧ ∀ H', Q (.bl true) H'
theorem spLaw68_i {H : Hp} {a : Addr} {ns : List Int} {Q : VK} {E : XK} (h : SqL K H a (iV ns)) (hl : ns.length < 1000) (q : ∀ H', Q (.bl true) H') : spLaw68 K [.ref a] H Q E := by
  unfold spLaw68
  exact ⟨a, ns, rfl, h, hl, q⟩
theorem ok_law68 (B : Bt mg) (F : Fd K mg "law" s_law) (D_meet : Df P w K mg base (L2.CX P w) 6 "meet_power" ["deeds", "one", "other"] spMeet) (D_root : Df P w K mg base (L2.CX P w) 6 "root" ["deeds", "row"] spRoot) (D_beside : Df P w K mg base (L2.CX P w) 6 "beside" ["deeds", "one", "other"] spBeside)
    (D_times_row : Df P w K mg base (L2.CX P w) 6 "times_row" ["deeds", "row", "many"] spTimesRow) (D_alone : Df P w K mg base (L2.CX P w) 7 "_law_mr_alone" ["_law_deeds", "_law_row"] spAlone)
    (D_l_begun : Df P w K mg base CX0 1 "_law_begun" ["_law_script"] (spBegun K)) (D_l_draw : Df P w K mg base CX0 2 "_law_draw" ["_law_state", "_law_room"] spDraw) (D_l_pick : Df P w K mg base CX0 3 "_law_pick" ["_law_state", "_law_some"] (spPick K)) (D_l_mk_row : Df P w K mg base CX0 4 "_law_mk_row" ["_law_state", "_law_deeds", "_law_least", "_law_most"] spMkRow)
    (D_l_mk_plain : Df P w K mg base CX0 1 "_law_mk_plain" ["_law_letters"] (spPlain K)) (D_l_mk_undone : Df P w K mg base CX0 1 "_law_mk_undone" ["_law_row"] spUndone) (D_l_mr_times : Df P w K mg base CX0 2 "_law_mr_times" ["_law_row", "_law_many"] spTimesA) (D_l_mr_turned : Df P w K mg base CX0 2 "_law_mr_turned" ["_law_row", "_law_by"] spTurned)
    (D_l_mr_commute : Df P w K mg base CX0 2 "_law_mr_commute" ["_law_one", "_law_other"] spCommute) (D_l_mr_pair : Df P w K mg base CX0 5 "_law_mr_pair" ["_law_state", "_law_deeds"] spPair) :
    Df P w K mg base (L2.CX P w) 8 "law" ["_law_script"] (spLaw68 K) := by
  refine .mk' F sc_law (fun _ _ _ _ _ _ us hl => match us, hl with | [_], _ => rfl) (fun vs H Q E h => ?_) (fun f cdv A outer s H vs Q E hr h => ?_)
  · unfold spLaw68 at h
    obtain ⟨a, ns, rfl, _⟩ := h
    rfl
  · unfold spLaw68 at h
    obtain ⟨a, ns, rfl, hS, hl, q⟩ := h
    have nd := sc_law.nd
    refine ⟨_, pss_cons (ps_set (i := 1) nd rfl (Or.inl rfl) (pe_df (D_l_begun.mono (by decide)) hr rfl pass0 (pa_cons (pv 0) pa_nil)))
      (pss_cons (ps_for (passes_of rfl) rfl (pi_range1 (by rfl) B.range (pa_cons (pe_op op_add (pe_int) (pe_callB (call_min2 rfl) (by rfl) B.min (by decide +kernel) (pa_cons (pe_callB call_lenK (by rfl) B.len boot_len (pa_cons (pv 0) pa_nil)) (pa_cons (pe_int) pa_nil)))) pa_nil)) (pg_name (i := 2) nd rfl (Or.inl rfl))
      (pss_cons (ps_set (i := 3) nd rfl (Or.inl rfl) (pe_op op_add (pe_int) (pe_df (D_l_draw.mono (by decide)) hr rfl pass0 (pa_cons (pv 1) (pa_cons (pe_int) pa_nil)))))
      (pss_cons (ps_asg (pe_df (D_l_mr_pair.mono (by decide)) hr rfl pass0 (pa_cons (pv 1) (pa_cons (pv 3) pa_nil))) (pg_tup rfl (pgs_cons (pg_name (i := 4) nd rfl (Or.inl rfl)) (pgs_cons (pg_name (i := 5) nd rfl (Or.inl rfl)) pgs_nil))))
      (C8.pss_cut (ps_if (pt_cmpR op_eq (pe_df (D_l_draw.mono (by decide)) hr rfl pass0 (pa_cons (pv 1) (pa_cons (pe_int) pa_nil))) (pe_int) (nomark _))
      (pss_one (ps_set (i := 5) nd rfl (Or.inl rfl) (pe_df (D_l_mr_turned.mono (by decide)) hr rfl pass0 (pa_cons (pv 4) (pa_cons (pe_df (D_l_mk_row.mono (by decide)) hr rfl pass0 (pa_cons (pv 1) (pa_cons (pv 3) (pa_cons (pe_int) (pa_cons (pe_int) pa_nil))))) pa_nil))))) (pss_nil))
      (pss_cons (ps_set (i := 6) nd rfl (Or.inl rfl) (pe_df (D_meet.mono (by decide)) hr rfl (passR (takes_of rfl rfl rfl rfl)) (pa_cons (pv 3) (pa_cons (pv 4) (pa_cons (pv 5) pa_nil)))))
      (pss_cons (ps_for (passes_of rfl) rfl (pi_range1 (by rfl) B.range (pa_cons (pe_int) pa_nil)) (pg_name (i := 7) nd rfl (Or.inl rfl))
      (pss_cons (ps_par (i := 8) (j := 9) (by rfl) nd rfl rfl (by decide) rfl rfl (pa_cons (pe_df (D_l_pick.mono (by decide)) hr rfl pass0 (pa_cons (pv 1) (pa_cons (pe_lst (pa_cons (pe_int) (pa_cons (pe_un un_neg (pe_int)) (pa_cons (pe_int) (pa_cons (pe_int) (pa_cons (pe_un un_neg (pe_int)) pa_nil)))))) pa_nil))) (pa_cons (pe_df (D_l_pick.mono (by decide)) hr rfl pass0 (pa_cons (pv 1) (pa_cons (pe_lst (pa_cons (pe_int) (pa_cons (pe_un un_neg (pe_int)) (pa_cons (pe_int) (pa_cons (pe_un un_neg (pe_int)) (pa_cons (pe_int) pa_nil)))))) pa_nil))) pa_nil)) (by rfl))
      (pss_cons (ps_set (i := 10) nd rfl (Or.inl rfl) (pe_df (D_beside.mono (by decide)) hr rfl (passR (takes_of rfl rfl rfl rfl)) (pa_cons (pv 3) (pa_cons (pe_df (D_times_row.mono (by decide)) hr rfl (passR (takes_of rfl rfl rfl rfl)) (pa_cons (pv 3) (pa_cons (pv 4) (pa_cons (pv 8) pa_nil)))) (pa_cons (pe_df (D_times_row.mono (by decide)) hr rfl (passR (takes_of rfl rfl rfl rfl)) (pa_cons (pv 3) (pa_cons (pv 5) (pa_cons (pv 9) pa_nil)))) pa_nil)))))
      (pss_cons (ps_if (pt_cmpR (op_neD hr.units) (pv 10) (pe_df (D_l_mk_plain.mono (by decide)) hr rfl pass0 (pa_cons (pe_op op_catA (pe_df (D_l_mr_times.mono (by decide)) hr rfl pass0 (pa_cons (pv 4) (pa_cons (pv 8) pa_nil))) (pe_df (D_l_mr_times.mono (by decide)) hr rfl pass0 (pa_cons (pv 5) (pa_cons (pv 9) pa_nil)))) pa_nil)) (nomark _))
      (pss_one (ps_ret (pe_bl))) (pss_nil))
      (pss_one (ps_if (pt_val (pe_df (D_l_mr_commute.mono (by decide)) hr rfl pass0 (pa_cons (pv 4) (pa_cons (pv 5) pa_nil))))
      (pss_cons (ps_set (i := 11) nd rfl (Or.inl rfl) (pe_op op_add (pe_op op_mul (pv 8) (pe_ix ix_tup (pv 6) (pe_int) (fun _ _ => rfl))) (pe_op op_mul (pv 9) (pe_ix ix_tup (pv 6) (pe_int) (fun _ _ => rfl)))))
      (pss_cons (ps_set (i := 12) nd rfl (Or.inl rfl) (pe_ifExp (pt_cmpR op_gt (pv 11) (pe_int) (nomark _)) (pe_ix ix_tup (pv 6) (pe_int) (fun _ _ => rfl)) (pe_df (D_l_mk_undone.mono (by decide)) hr rfl pass0 (pa_cons (pe_ix ix_tup (pv 6) (pe_int) (fun _ _ => rfl)) pa_nil))))
      (pss_one (ps_if (pt_cmpR (op_neD hr.units) (pe_df (D_root.mono (by decide)) hr rfl (passR (takes_of rfl rfl rfl rfl)) (pa_cons (pv 3) (pa_cons (pv 10) pa_nil))) (pe_ifExp (pt_cmpR op_ne (pv 11) (pe_int) (nomark _)) (pe_tup (pa_cons (pv 12) (pa_cons (pe_callB call_abs (by rfl) B.abs (by decide +kernel) (pa_cons (pv 11) pa_nil)) pa_nil))) (pe_tup (pa_cons (pe_tup (pa_nil)) (pa_cons (pe_int) pa_nil)))) (nomark _))
      (pss_one (ps_ret (pe_bl))) (pss_nil))))) (pss_one (ps_if (pt_not (pt_val (pe_df (D_alone.mono (by decide)) hr rfl (passR (takes_of rfl rfl rfl rfl)) (pa_cons (pv 3) (pa_cons (pv 10) pa_nil)))))
      (pss_one (ps_ret (pe_bl))) (pss_nil)))))))))
      (pss_one (ps_if (pt_not (pt_val (pe_df (D_l_mr_commute.mono (by decide)) hr rfl pass0 (pa_cons (pv 4) (pa_cons (pv 5) pa_nil)))))
      (pss_one (ps_if (PW.pt (pw_or (pt_cmpR op_ne (pe_ix ix_tup (pv 6) (pe_int) (fun _ _ => rfl)) (pe_str) (nomark _)) (pw_or1 (pt_not (pt_val (pe_df (D_alone.mono (by decide)) hr rfl (passR (takes_of rfl rfl rfl rfl)) (pa_cons (pv 3) (pa_cons (pe_ix ix_tup (pv 6) (pe_int) (fun _ _ => rfl)) pa_nil))))))))
      (pss_one (ps_ret (pe_bl))) (pss_nil))) (pss_nil)))))))))
      (pss_one (ps_ret (pe_bl)))), ?_⟩
    refine ⟨_, rfl, spBegun_i hS (by omega) fun u H1 s1 ds1 => ?_⟩
    have hlen : ((iV ns).length : Int) = (ns.length : Int) := by simp only [iV, List.length_map]
    refine ⟨_, rfl, a, _, rfl, .inl (s1.seq hS), _, _, rfl, _, _, rfl, rfl, _, rfl, by rw [hlen]; split <;> omega, by rw [hlen]; split <;> omega, ?_⟩
    rw [hlen]
    have hN : (4 + (if (4 : Int) < (ns.length : Int) then (4 : Int) else (ns.length : Int))).toNat ≤ 8 := by split <;> omega
    generalize (4 + (if (4 : Int) < (ns.length : Int) then (4 : Int) else (ns.length : Int))).toNat = N at hN
    refine for_wk (wk_range (H1 := noHp)) (fun i σ H' => ∃ (x2 x3 x4 x5 x6 x7 x8 x9 x10 x11 x12 : Option V), σ = [some (.ref a), some (.ref u.s), x2, x3, x4, x5, x6, x7, x8, x9, x10, x11, x12] ∧ Dst H' u (10000 - 1000 * i)) ⟨_, _, _, _, _, _, _, _, _, _, _, rfl, ds1.le (by decide)⟩ (fun i σ H' _ => fun _ _ z => by cases z) ?_ ?_
    · rintro i σ H2 hi ⟨x2, x3, x4, x5, x6, x7, x8, x9, x10, x11, x12, rfl, ds2⟩
      refine ⟨_, rfl, spDraw_i (k := 9000 - 1000 * i + 900) (by omega) (by omega) (ds2.le (by omega)) fun d H3 d0 d1 kp3 ds3 => ⟨_, _, rfl, rfl, ?_⟩⟩
      have n1 : 1 ≤ 1 + d := by omega
      have n4 : 1 + d ≤ 4 := by omega
      refine ⟨_, rfl, _, rfl, spPair_i (k := 9000 - 1000 * i + 400) n1 n4 ds3 fun p H4 kp4 ds4 hpq => ?_⟩
      obtain ⟨v1, v2, xs, ys, hp, r1, r2, a1, a2, l1, l2, m1, m2⟩ := hpq
      refine ⟨p, _, rfl, .inl (.inl hp), rfl, _, _, rfl, _, _, rfl, rfl, ?_⟩
      have t3 {n : Int} (h : n ≤ 4) {zs : List Int} (l : Lets n zs) : Lets 4 zs := fun x hx => by have := l x hx; omega
      refine ⟨fun σ' H' => ∃ (v : V) (zs : List Int), σ' = [some (.ref a), some (.ref u.s), some (.int (0 + (i : Int))), some (.int (1 + d)), some v1, some v, x6, x7, x8, x9, x10, x11, x12] ∧ Kp u H4 H' ∧ Dst H' u (9000 - 1000 * i + 200) ∧ Row H' v zs ∧ adjOk zs = true ∧ Lets (1 + d) zs ∧ zs.length ≤ 20, ?_, ?_⟩
      · refine ⟨_, rfl, spDraw_i (k := 9000 - 1000 * i + 300) (by omega) (by omega) (ds4.le (by omega)) fun e H5 e0 e1 kp5 ds5 => ⟨rfl, _, rfl, ?_⟩⟩
        refine ite_of (fun h => ?_) (fun h => ?_)
        · refine ⟨_, rfl, _, rfl, _, rfl, spMkRow_i (k := 9000 - 1000 * i + 200) n1 n4 (by omega) (by omega) (by omega) ds5 fun ws vw H6 kp6 ds6 rw6 pw6 _ lw => ?_⟩
          have t6 := (kp5.tst ds4).trans (kp6.tst ds5)
          refine spTurned_i (r1.tst t6) rw6 (by omega) (by omega) fun v7 H7 s7 r7 => ?_
          refine ⟨v7, _, rfl, (kp5.trans kp6).trans (Kp.of s7), ds6.same s7, r7, plain_adj _, Lets.plain ((Lets.app pw6.1 l1).app (Lets.undone pw6.1)), ?_⟩
          have h := plain_len (ws ++ xs ++ undone ws)
          rw [List.length_append, List.length_append, undone_len] at h
          omega
        · exact ⟨v2, ys, rfl, kp5, ds5.le (by omega), r2.tst (kp5.tst ds4), a2, l2, m2⟩
      · rintro σ' H5 ⟨v, zs, rfl, kp5, ds5, r5, az, lz, mz⟩
        have r15 := r1.tst (kp5.tst ds4)
        refine ⟨_, rfl, _, rfl, _, rfl, spMeet_i n1 n4 r15 r5 l1 lz a1 az (by omega) (by omega) fun vf H6 s6 m6 => ?_⟩
        have ds6 := ds5.same s6
        have r16 := r15.same s6
        have r6 := r5.same s6
        clear kp5 ds5 r15 r5
        have l14 := t3 n4 l1
        have lz4 := t3 n4 lz
        have rt7 : Row H6 v zs := r6
        refine ⟨_, rfl, by omega, by omega, ?_⟩
        refine for_wk (wk_range (H1 := noHp)) (fun j σ H' => ∃ (x7 x8 x9 x10 x11 x12 : Option V), σ = [some (.ref a), some (.ref u.s), some (.int (0 + (i : Int))), some (.int (1 + d)), some v1, some v, some vf, x7, x8, x9, x10, x11, x12] ∧ Kp u H6 H' ∧ Dst H' u (9000 - 1000 * i + 200 - 10 * j)) ⟨_, _, _, _, _, _, rfl, Kp.refl _ _, ds6⟩ (fun i σ H' _ => fun _ _ z => by cases z) ?_ ?_
        · rintro j σ H7 hj ⟨x7, x8, x9, x10, x11, x12, rfl, kp7, ds7⟩
          have hj : j < 3 := hj
          refine ⟨_, rfl, _, rfl, _, rfl, by rw [PySem.sizeLine_eq]; simp, fun pA hpA => ?_⟩
          have s8 := Same.new (o := .lst [.int 2, .int (-2), .int 3, .int 4, .int (-5)]) hpA
          have oA := ds7.off hpA
          have ds8 := ds7.same s8
          refine spPick_i (k := 9000 - 1000 * i + 195 - 10 * j) (xs := [.int 2, .int (-2), .int 3, .int 4, .int (-5)]) oA.1 oA.2.1 (SqL.of upd_same) (by simp) (by simp) (ds8.le (by omega)) fun iA vA H9 hvA kp9 ds9 => ?_
          obtain ⟨m, rfl, hm2, hm5⟩ : ∃ m : Int, vA = .int m ∧ 2 ≤ m.natAbs ∧ m.natAbs ≤ 5 := by
            have hi : iA < 5 := (List.getElem?_eq_some_iff.mp hvA).1
            match iA, hi with
            | 0, _ => cases hvA; exact ⟨_, rfl, by decide, by decide⟩
            | 1, _ => cases hvA; exact ⟨_, rfl, by decide, by decide⟩
            | 2, _ => cases hvA; exact ⟨_, rfl, by decide, by decide⟩
            | 3, _ => cases hvA; exact ⟨_, rfl, by decide, by decide⟩
            | 4, _ => cases hvA; exact ⟨_, rfl, by decide, by decide⟩
          refine ⟨_, rfl, _, rfl, _, rfl, by rw [PySem.sizeLine_eq]; simp, fun pB hpB => ?_⟩
          have s10 := Same.new (o := .lst [.int 2, .int (-2), .int 3, .int (-3), .int 5]) hpB
          have oB := ds9.off hpB
          have ds10 := ds9.same s10
          refine spPick_i (k := 9000 - 1000 * i + 194 - 10 * j) (xs := [.int 2, .int (-2), .int 3, .int (-3), .int 5]) oB.1 oB.2.1 (SqL.of upd_same) (by simp) (by simp) (ds10.le (by omega)) fun iB vB H11 hvB kp11 ds11 => ?_
          obtain ⟨r, rfl, hr2, hr5⟩ : ∃ m : Int, vB = .int m ∧ 2 ≤ m.natAbs ∧ m.natAbs ≤ 5 := by
            have hi : iB < 5 := (List.getElem?_eq_some_iff.mp hvB).1
            match iB, hi with
            | 0, _ => cases hvB; exact ⟨_, rfl, by decide, by decide⟩
            | 1, _ => cases hvB; exact ⟨_, rfl, by decide, by decide⟩
            | 2, _ => cases hvB; exact ⟨_, rfl, by decide, by decide⟩
            | 3, _ => cases hvB; exact ⟨_, rfl, by decide, by decide⟩
            | 4, _ => cases hvB; exact ⟨_, rfl, by decide, by decide⟩
          refine ⟨_, _, rfl, ?_⟩
          have kp611 : Kp u H6 H11 := kp7.trans (((Kp.of s8).trans kp9).trans ((Kp.of s10).trans kp11))
          have t611 := kp611.tst ds6
          have q1 := r16.tst t611
          have q2 := r6.tst t611
          refine ⟨_, rfl, _, rfl, _, rfl, _, rfl, spTimesRow_i n1 n4 q1 l1 (by omega) (by omega) (by omega) fun vC H12 s12 rC => ?_⟩
          rw [plain_id a1] at rC
          refine ⟨_, rfl, _, rfl, _, rfl, spTimesRow_i n1 n4 (q2.same s12) lz (by omega) (by omega) (by omega) fun vD H13 s13 rD => ?_⟩
          rw [plain_id az] at rD
          have hC : (zq xs m).length ≤ 80 := by
            rw [zq_len]
            have : m.natAbs * xs.length ≤ 5 * 16 := Nat.mul_le_mul (by omega) (by omega)
            omega
          have hD : (zq zs r).length ≤ 100 := by
            rw [zq_len]
            have : r.natAbs * zs.length ≤ 5 * 20 := Nat.mul_le_mul (by omega) (by omega)
            omega
          have pC := plain_len (zq xs m)
          have pD := plain_len (zq zs r)
          have lC := zq_lets l1 m
          have lD := zq_lets lz r
          refine spBeside_i n1 n4 (rC.same s13) rD lC.plain lD.plain (by omega) (by omega) fun vE H14 s14 rE => ?_
          rw [plain_two] at rE
          have s124 := s12.trans (s13.trans s14)
          have q1' := q1.same s124
          have q2' := q2.same s124
          refine ⟨_, rfl, _, rfl, _, rfl, spTimesA_i q1' (by omega) (by omega) (by omega) fun vF H15 s15 rF => ?_⟩
          refine ⟨_, rfl, _, rfl, spTimesA_i (q2'.same s15) (by omega) (by omega) (by omega) fun vG H16 s16 rG => ?_⟩
          refine catA_row (rF.same s16) rG (by rw [PySem.sizeLine_eq]; omega) fun vH H17 s17 rH => ?_
          refine spPlain_row rH (by rw [List.length_append]; omega) fun vI H18 s18 rI => ?_
          rw [plain_two] at rI
          have s158 := ((s15.trans s16).trans s17).trans s18
          have rE' := rE.same s158
          refine neD_int (t := true) rE'.intD rI.intD ⟨_, rfl, ?_⟩
          rw [decide_eq_true rfl]
          refine iteF ?_
          refine ⟨_, rfl, _, rfl, spCommute_i (q1'.same s158) (q2'.same s158) (by omega) (by omega) fun H19 s19 => ⟨_, rfl, ?_⟩⟩
          have s29 := s124.trans (s158.trans s19)
          have kp19 := kp611.trans (Kp.of s29)
          have ds19 := ds11.same s29
          have t19 := kp19.tst ds6
          have rE9 := rE'.same s19
          have lE := (lC.app lD).plain
          have hE : (plain (zq xs m ++ zq zs r)).length ≤ 180 := by
            have h := plain_len (zq xs m ++ zq zs r)
            rw [List.length_append] at h
            omega
          refine ite_of (fun h => ?_) (fun h => ?_)
          · have h' : plain (xs ++ zs) = plain (zs ++ xs) := of_decide_eq_true h
            have hc : Comm xs zs := h'
            obtain ⟨p6, rfl, ⟨_, w6, hp6, rw6⟩ | ⟨hn, _⟩⟩ := m6
            case inr => exact absurd hc hn
            have hp9 : H19 p6 = some (.tup [.str (PySem.Str.ofString "powers"), w6, .int (meetR xs zs).2.1, .int (meetR xs zs).2.2]) := t19 _ _ hp6
            have rw9 := rw6.tst t19
            have hroot := commute_root a1 az l14 lz4 hc m r
            refine ⟨_, rfl, _, rfl, p6, _, _, _, rfl, rfl, .inl (.inl hp9), rfl, _, _, rfl, rfl, .inl ⟨by omega, by omega⟩, ?_⟩
            refine ⟨_, rfl, _, rfl, p6, _, _, _, rfl, rfl, .inl (.inl hp9), rfl, _, _, rfl, rfl, .inl ⟨by omega, by omega⟩, _, _, rfl, rfl, ?_⟩
            have hab (i : Int) : (if i < 0 then -i else i) = (i.natAbs : Int) := by split <;> omega
            rcases Int.lt_trichotomy (m * (meetR xs zs).2.1 + r * (meetR xs zs).2.2) 0 with hneg | hzero | hpos
            · have g0 : ¬ m * (meetR xs zs).2.1 + r * (meetR xs zs).2.2 = 0 := by omega
              have g1 : ¬ 0 < m * (meetR xs zs).2.1 + r * (meetR xs zs).2.2 := by omega
              rw [if_neg g0, if_neg g1] at hroot
              refine ⟨_, rfl, _, _, rfl, rfl, _, rfl, iteF_of (decide_eq_false g1) ⟨_, rfl, p6, _, _, _, rfl, rfl, .inl (.inl hp9), rfl, ?_⟩⟩
              have mw : (meetR xs zs).1.length < 1000000 := by have := meet_len xs zs; omega
              refine spUndone_i rw9 mw fun vJ H20 s20 rJ => ?_
              refine ⟨_, rfl, _, rfl, spRoot_i n1 n4 (rE9.same s20) lE (by omega) fun vR H21 s21 rR => ?_⟩
              rw [plain_plain, hroot] at rR
              refine ⟨_, rfl, rfl, _, rfl, iteT_of (by simp [g0]) ⟨_, rfl, _, rfl, _, rfl, by rw [PySem.sizeLine_eq]; simp, fun pT hpT => ?_⟩⟩
              have s22 := Same.new (o := .tup [vJ, .int (if m * (meetR xs zs).2.1 + r * (meetR xs zs).2.2 < 0 then -(m * (meetR xs zs).2.1 + r * (meetR xs zs).2.2) else m * (meetR xs zs).2.1 + r * (meetR xs zs).2.2)]) hpT
              refine neD_pair (rR.same s22) ⟨pT, vJ, rfl, ?_, (rJ.same s21).same s22⟩ ⟨_, rfl, iteF ?_⟩
              · rw [upd_same, hab]
              · exact ⟨_, _, _, _, _, _, rfl, kp19.trans (Kp.of ((s20.trans s21).trans s22)), ((ds19.le (by omega)).same ((s20.trans s21).trans s22))⟩
            · rw [if_pos hzero] at hroot
              have g1 : ¬ 0 < m * (meetR xs zs).2.1 + r * (meetR xs zs).2.2 := by omega
              refine ⟨_, rfl, _, _, rfl, rfl, _, rfl, iteF_of (decide_eq_false g1) ⟨_, rfl, p6, _, _, _, rfl, rfl, .inl (.inl hp9), rfl, ?_⟩⟩
              have mw : (meetR xs zs).1.length < 1000000 := by have := meet_len xs zs; omega
              refine spUndone_i rw9 mw fun vJ H20 s20 rJ => ?_
              refine ⟨_, rfl, _, rfl, spRoot_i n1 n4 (rE9.same s20) lE (by omega) fun vR H21 s21 rR => ?_⟩
              rw [plain_plain, hroot] at rR
              refine ⟨_, rfl, rfl, _, rfl, iteF_of (by simp [hzero]) ⟨by rw [PySem.sizeLine_eq]; simp, fun pT hpT => ⟨by rw [PySem.sizeLine_eq]; simp, fun pU hpU => ?_⟩⟩⟩
              have s22 := Same.new (o := .tup []) hpT
              have s23 := Same.new (o := .tup [.ref pT, .int 0]) hpU
              refine neD_pair ((rR.same s22).same s23) ⟨pU, .ref pT, rfl, upd_same, pT, rfl, s23 _ _ upd_same⟩ ⟨_, rfl, iteF ?_⟩
              exact ⟨_, _, _, _, _, _, rfl, kp19.trans (Kp.of (((s20.trans s21).trans s22).trans s23)), ((ds19.le (by omega)).same (((s20.trans s21).trans s22).trans s23))⟩
            · have g0 : ¬ m * (meetR xs zs).2.1 + r * (meetR xs zs).2.2 = 0 := by omega
              rw [if_neg g0, if_pos hpos] at hroot
              refine ⟨_, rfl, _, _, rfl, rfl, _, rfl, iteT_of (decide_eq_true hpos) ⟨_, rfl, p6, _, _, _, rfl, rfl, .inl (.inl hp9), rfl, ?_⟩⟩
              refine ⟨_, rfl, _, rfl, spRoot_i n1 n4 rE9 lE (by omega) fun vR H21 s21 rR => ?_⟩
              rw [plain_plain, hroot] at rR
              refine ⟨_, rfl, rfl, _, rfl, iteT_of (by simp [g0]) ⟨_, rfl, _, rfl, _, rfl, by rw [PySem.sizeLine_eq]; simp, fun pT hpT => ?_⟩⟩
              have s22 := Same.new (o := .tup [w6, .int (if m * (meetR xs zs).2.1 + r * (meetR xs zs).2.2 < 0 then -(m * (meetR xs zs).2.1 + r * (meetR xs zs).2.2) else m * (meetR xs zs).2.1 + r * (meetR xs zs).2.2)]) hpT
              refine neD_pair (rR.same s22) ⟨pT, w6, rfl, ?_, (rw9.same s21).same s22⟩ ⟨_, rfl, iteF ?_⟩
              · rw [upd_same, hab]
              · exact ⟨_, _, _, _, _, _, rfl, kp19.trans (Kp.of (s21.trans s22)), ((ds19.le (by omega)).same (s21.trans s22))⟩
          · have h' : ¬ plain (xs ++ zs) = plain (zs ++ xs) := of_decide_eq_false h
            have hc : ¬ Comm xs zs := h'
            obtain ⟨e1, e2⟩ := apart_alone a1 az l14 lz4 hc hm2 hr2
            refine ⟨_, rfl, _, rfl, spAlone_i n1 n4 rE9 lE (plain_adj _) (by omega) e1 e2 fun H20 s20 => ⟨_, rfl, iteF ?_⟩⟩
            exact ⟨_, _, _, _, _, _, rfl, kp19.trans (Kp.of s20), ((ds19.le (by omega)).same s20)⟩
        · rintro σ H7 ⟨x7, x8, x9, x10, x11, x12, rfl, kp7, ds7⟩
          have t7 := kp7.tst ds6
          have q1 := r16.tst t7
          have q2 := r6.tst t7
          refine ⟨_, rfl, _, rfl, spCommute_i q1 q2 (by omega) (by omega) fun H8 s8 => ⟨_, rfl, ?_⟩⟩
          refine ite_of (fun h => ?_) (fun h => ?_)
          · have h' : ¬ plain (xs ++ zs) = plain (zs ++ xs) := by simpa using h
            have hc : ¬ Comm xs zs := h'
            obtain ⟨p6, rfl, ⟨hn, _⟩ | ⟨_, w6, hp6, rw6⟩⟩ := m6
            case inl => exact absurd hn hc
            have hp8 := s8 _ _ (t7 _ _ hp6)
            have rw8 := (rw6.tst t7).same s8
            obtain ⟨e1, e2⟩ := comm_alone a1 az l14 lz4 hc
            refine ⟨_, rfl, p6, _, _, _, rfl, rfl, .inl (.inl hp8), rfl, rfl, _, rfl, ?_⟩
            refine iteF_of (by decide +kernel) ?_
            refine ⟨_, rfl, _, rfl, p6, _, _, _, rfl, rfl, .inl (.inl hp8), rfl, ?_⟩
            have hW : (plain (xs ++ zs ++ undone xs ++ undone zs)).length ≤ 200 := by
              have h := plain_len (xs ++ zs ++ undone xs ++ undone zs)
              rw [List.length_append, List.length_append, List.length_append, undone_len, undone_len] at h
              omega
            refine spAlone_i n1 n4 rw8 (Lets.plain (((l1.app lz).app (Lets.undone l1)).app (Lets.undone lz))) (plain_adj _) hW e1 e2 fun H9 s9 => ⟨_, rfl, iteF ?_⟩
            exact ⟨_, _, _, _, _, _, _, _, _, _, _, rfl, ((ds7.le (by omega)).same s8).same s9⟩
          · exact ⟨_, _, _, _, _, _, _, _, _, _, _, rfl, (ds7.le (by omega)).same s8⟩
    · rintro σ H2 ⟨x2, x3, x4, x5, x6, x7, x8, x9, x10, x11, x12, rfl, ds2⟩
      exact q _
end
end My
namespace My
open PySem PySem.Spec PyProof.Rows L2 SX
/-- what the top leaves, as far as the law leans on it -/
structure TopF68 (K : PySem.W.Frag) (mg : Str → Option Value) (CD CR CN : Addr) : Prop where
  B : Bt mg
  gMD : ∃ t, mg "MOST_DEEDS" = some (.int 4 t)
  gMR : ∃ t, mg "MOST_IN_ROW" = some (.int 200 t)
  gMT : ∃ t, mg "MOST_TIMES" = some (.int 20 t)
  ED : Er K mg "BadDeeds" CD
  ER : Er K mg "BadRow" CR
  EN : Er K mg "BadNumber" CN
  f_is_whole : Fd K mg "is_whole" s_is_whole
  f_is_between : Fd K mg "is_between" s_is_between
  f_need_deeds : Fd K mg "need_deeds" s_need_deeds
  f_fits_letter : Fd K mg "fits_letter" s_fits_letter
  f_fits_row : Fd K mg "fits_row" s_fits_row
  f_plain_of : Fd K mg "plain_of" s_plain_of
  f_undone_of : Fd K mg "undone_of" s_undone_of
  f_need_row : Fd K mg "need_row" s_need_row
  f_l_blended : Fd K mg "_law_blended" s_l_blended
  f_l_draw : Fd K mg "_law_draw" s_l_draw
  f_l_pick : Fd K mg "_law_pick" s_l_pick
  f_l_begun : Fd K mg "_law_begun" s_l_begun
  f_l_mk_plain : Fd K mg "_law_mk_plain" s_l_mk_plain
  f_l_mk_undone : Fd K mg "_law_mk_undone" s_l_mk_undone
  f_l_mk_letters : Fd K mg "_law_mk_letters" s_l_mk_letters
  f_l_mk_row : Fd K mg "_law_mk_row" s_l_mk_row
  f_l_mr_turned : Fd K mg "_law_mr_turned" s_l_mr_turned
  f_l_mr_whole : Fd K mg "_law_mr_whole" s_l_mr_whole
  f_product_of : Fd K mg "product_of" s_product_of
  f_beside : Fd K mg "beside" s_beside
  f_times_row : Fd K mg "times_row" s_times_row
  f_tail_of : Fd K mg "tail_of" s_tail_of
  f_middle_of : Fd K mg "middle_of" s_middle_of
  f_root_in : Fd K mg "root_in" s_root_in
  f_root : Fd K mg "root" s_root
  f_l_mr_commute : Fd K mg "_law_mr_commute" s_l_mr_commute
  f_l_mr_times : Fd K mg "_law_mr_times" s_l_mr_times
  f_meet_power : Fd K mg "meet_power" s_meet_power
  f_l_mr_pair : Fd K mg "_law_mr_pair" s_l_mr_pair
  f_l_mr_alone : Fd K mg "_law_mr_alone" s_l_mr_alone
  f_law : Fd K mg "law" s_law
theorem all_law68 {P : Program} {w : World} {K : PySem.W.Frag} {mg : Str → Option Value} {base : Heap} {CD CR CN : Addr} (h : TopF68 K mg CD CR CN) :
    Df P w K mg base (L2.CX P w) 8 "law" ["_law_script"] (spLaw68 K) := by
  have d_is_whole : Df P w K mg base _ _ "is_whole" _ _ := ok_is_whole h.B h.f_is_whole
  have d_is_between : Df P w K mg base _ _ "is_between" _ _ := ok_is_between h.f_is_between d_is_whole
  have d_need_deeds : Df P w K mg base _ _ "need_deeds" _ _ := ok_need_deeds h.ED h.gMD h.f_need_deeds d_is_between
  have d_fits_letter : Df P w K mg base _ _ "fits_letter" _ _ := ok_fits_letter h.f_fits_letter d_is_between
  have d_fits_row : Df P w K mg base _ _ "fits_row" _ _ := ok_fits_row h.B h.gMR h.f_fits_row d_fits_letter
  have d_plain_of : Df P w K mg base _ _ "plain_of" _ _ := ok_plain h.B h.f_plain_of
  have d_undone_of : Df P w K mg base _ _ "undone_of" _ _ := ok_undone h.B h.f_undone_of
  have d_need_row : Df P w K mg base _ _ "need_row" _ _ := ok_need_row h.ER h.f_need_row d_fits_row d_plain_of
  have d_l_blended : Df P w K mg base _ _ "_law_blended" _ _ := ok_blended h.B h.f_l_blended
  have d_l_draw : Df P w K mg base _ _ "_law_draw" _ _ := ok_draw h.B h.f_l_draw d_l_blended
  have d_l_pick : Df P w K mg base _ _ "_law_pick" _ _ := ok_pick h.B h.f_l_pick d_l_draw
  have d_l_begun : Df P w K mg base _ _ "_law_begun" _ _ := ok_begun h.B h.f_l_begun
  have d_l_mk_plain : Df P w K mg base _ _ "_law_mk_plain" _ _ := ok_mk_plain h.B h.f_l_mk_plain
  have d_l_mk_undone : Df P w K mg base _ _ "_law_mk_undone" _ _ := ok_mk_undone h.B h.f_l_mk_undone
  have d_l_mk_letters : Df P w K mg base _ _ "_law_mk_letters" _ _ := ok_mk_letters h.B h.f_l_mk_letters
  have d_l_mk_row : Df P w K mg base _ _ "_law_mk_row" _ _ := ok_mk_row h.B h.f_l_mk_row d_l_draw d_l_pick d_l_mk_letters
  have d_l_mr_turned : Df P w K mg base _ _ "_law_mr_turned" _ _ := ok_turned h.f_l_mr_turned d_l_mk_undone d_l_mk_plain
  have d_l_mr_whole : Df P w K mg base _ _ "_law_mr_whole" _ _ := ok_lwhole h.B h.f_l_mr_whole
  have d_product_of : Df P w K mg base _ _ "product_of" _ _ := ok_prod h.B h.f_product_of d_plain_of
  have d_beside : Df P w K mg base _ _ "beside" _ _ := ok_beside h.f_beside d_need_deeds d_need_row d_product_of
  have d_times_row : Df P w K mg base _ _ "times_row" _ _ := ok_times_row h.B h.EN h.gMT h.f_times_row d_need_deeds d_need_row d_is_between d_undone_of d_product_of
  have d_tail_of : Df P w K mg base _ _ "tail_of" _ _ := ok_tail h.B h.f_tail_of
  have d_middle_of : Df P w K mg base _ _ "middle_of" _ _ := ok_mid h.B h.f_middle_of d_tail_of
  have d_root_in : Df P w K mg base _ _ "root_in" _ _ := ok_root_in h.B h.f_root_in d_tail_of d_middle_of d_undone_of
  have d_root : Df P w K mg base _ _ "root" _ _ := ok_root h.f_root d_need_deeds d_need_row d_root_in
  have d_l_mr_commute : Df P w K mg base _ _ "_law_mr_commute" _ _ := ok_commute h.f_l_mr_commute d_l_mk_plain
  have d_l_mr_times : Df P w K mg base _ _ "_law_mr_times" _ _ := ok_timesA h.B h.f_l_mr_times d_l_mk_undone d_l_mk_plain
  have d_meet_power : Df P w K mg base _ _ "meet_power" _ _ := ok_meet h.B h.f_meet_power d_need_deeds d_need_row d_undone_of d_product_of d_root_in
  have d_l_mr_pair : Df P w K mg base _ _ "_law_mr_pair" _ _ := ok_pair h.f_l_mr_pair d_l_draw d_l_mk_row d_l_mr_times d_l_mk_plain d_l_mr_turned
  have d_l_mr_alone : Df P w K mg base _ _ "_law_mr_alone" _ _ := ok_alone h.f_l_mr_alone d_root d_l_mr_whole
  exact ok_law68 h.B h.f_law d_meet_power d_root d_beside d_times_row d_l_mr_alone d_l_begun d_l_draw d_l_pick d_l_mk_row d_l_mk_plain d_l_mk_undone d_l_mr_times d_l_mr_turned d_l_mr_commute d_l_mr_pair
end My
set_option maxHeartbeats 0
namespace Hd
open PySem PySem.Spec PyProof.Rows L2
open My (Er TopF68 Fd Bt)
def dd (x : Str) (s : Stmt) : He.DefD := ⟨(x, none), x, x, defArgs s, defBody s, defScope s, [], []⟩
def fn : List He.DefD := [dd "is_whole" My.s_is_whole, dd "is_between" My.s_is_between, dd "need_deeds" My.s_need_deeds, dd "fits_letter" My.s_fits_letter, dd "fits_row" My.s_fits_row, dd "plain_of" My.s_plain_of, dd "undone_of" My.s_undone_of, dd "product_of" My.s_product_of, dd "need_row" My.s_need_row, dd "beside" My.s_beside, dd "times_row" My.s_times_row, dd "tail_of" My.s_tail_of, dd "middle_of" My.s_middle_of, dd "root_in" My.s_root_in, dd "root" My.s_root, dd "meet_power" My.s_meet_power, dd "_law_begun" My.s_l_begun, dd "_law_blended" My.s_l_blended, dd "_law_draw" My.s_l_draw, dd "_law_pick" My.s_l_pick, dd "_law_mk_plain" My.s_l_mk_plain, dd "_law_mk_undone" My.s_l_mk_undone, dd "_law_mk_letters" My.s_l_mk_letters, dd "_law_mk_row" My.s_l_mk_row, dd "_law_mr_whole" My.s_l_mr_whole, dd "_law_mr_times" My.s_l_mr_times, dd "_law_mr_turned" My.s_l_mr_turned, dd "_law_mr_commute" My.s_l_mr_commute, dd "_law_mr_pair" My.s_l_mr_pair, dd "_law_mr_alone" My.s_l_mr_alone, dd "law" My.s_law]
def fa0 : List He.Fa := [.glo "is_whole", .glo "is_between", .glo "need_deeds", .glo "fits_letter", .glo "fits_row", .glo "plain_of", .glo "undone_of", .glo "product_of", .glo "need_row", .glo "beside", .glo "times_row", .glo "tail_of", .glo "middle_of", .glo "root_in", .glo "root", .glo "meet_power", .glo "_law_begun", .glo "_law_blended", .glo "_law_draw", .glo "_law_pick"]
def fa1 : List He.Fa := [.glo "_law_mk_plain", .glo "_law_mk_undone", .glo "_law_mk_letters", .glo "_law_mk_row", .glo "_law_mr_whole", .glo "_law_mr_times", .glo "_law_mr_turned", .glo "_law_mr_commute", .glo "_law_mr_pair", .glo "_law_mr_alone", .glo "law", .glo "KeepError", .glo "BadDeeds", .glo "BadRow", .glo "BadNumber", .free "isinstance", .free "int", .free "bool", .free "str", .free "tuple"]
def fa2 : List He.Fa := [.free "list", .free "len", .free "all", .free "abs", .free "range", .free "min", .free "sorted", .free "reversed", .free "enumerate", .int "MOST_DEEDS" 4, .int "MOST_IN_ROW" 200, .int "MOST_TIMES" 20, .exc "BadDeeds", .exc "BadRow", .exc "BadNumber"]
def fa : List He.Fa := fa0 ++ (fa1 ++ (fa2))
section
variable {P : Program} {h : Heap} {K : PySem.W.Frag} {mg : Str → Option Value}
theorem er_of {x : Str} (X : K.In h) (G : h.Ns mainGlobals mg) (h1 : (He.Fa.glo x).ok K = true) (h2 : (He.Fa.exc x).ok K = true) : Er K mg x (He.ga K x) := by
  obtain ⟨e1, e2, e3, e4⟩ := He.exc_ok h2
  exact ⟨He.glo_ok X G h1, e1, e2, e3, e4⟩
theorem fd_of {x : Str} {st : Stmt} (X : K.In h) (G : h.Ns mainGlobals mg) (h1 : (He.Fa.glo x).ok K = true) (h2 : ∃ fd, FunD K x x (defArgs st) (defBody st) (defScope st) [] [] (He.fAd K (x, none)) fd) : Fd K mg x st := by
  obtain ⟨fd, F⟩ := h2
  exact ⟨He.ga K x, fd, F, He.glo_ok X G h1⟩
theorem top_of (X : K.In h) (G : h.Ns mainGlobals mg) (d : He.SaysD fa fn K) : TopF68 K mg (He.ga K "BadDeeds") (He.ga K "BadRow") (He.ga K "BadNumber") := by
  refine ⟨⟨(He.free_ok X G (d.fact 35 (f := .free "isinstance") rfl)), (He.free_ok X G (d.fact 36 (f := .free "int") rfl)), (He.free_ok X G (d.fact 37 (f := .free "bool") rfl)), (He.free_ok X G (d.fact 38 (f := .free "str") rfl)), (He.free_ok X G (d.fact 39 (f := .free "tuple") rfl)), (He.free_ok X G (d.fact 40 (f := .free "list") rfl)), (He.free_ok X G (d.fact 41 (f := .free "len") rfl)), (He.free_ok X G (d.fact 42 (f := .free "all") rfl)), (He.free_ok X G (d.fact 43 (f := .free "abs") rfl)), (He.free_ok X G (d.fact 44 (f := .free "range") rfl)), (He.free_ok X G (d.fact 45 (f := .free "min") rfl)), (He.free_ok X G (d.fact 46 (f := .free "sorted") rfl)), (He.free_ok X G (d.fact 47 (f := .free "reversed") rfl)), (He.free_ok X G (d.fact 48 (f := .free "enumerate") rfl))⟩, He.int_ok X G (d.fact 49 (f := .int "MOST_DEEDS" 4) rfl), He.int_ok X G (d.fact 50 (f := .int "MOST_IN_ROW" 200) rfl), He.int_ok X G (d.fact 51 (f := .int "MOST_TIMES" 20) rfl), (er_of X G (d.fact 32 (f := .glo "BadDeeds") rfl) (d.fact 52 (f := .exc "BadDeeds") rfl)), (er_of X G (d.fact 33 (f := .glo "BadRow") rfl) (d.fact 53 (f := .exc "BadRow") rfl)), (er_of X G (d.fact 34 (f := .glo "BadNumber") rfl) (d.fact 54 (f := .exc "BadNumber") rfl)),
    (fd_of X G (d.fact 0 (f := .glo "is_whole") rfl) (d.def_ 0 (d := dd "is_whole" My.s_is_whole) rfl)),
    (fd_of X G (d.fact 1 (f := .glo "is_between") rfl) (d.def_ 1 (d := dd "is_between" My.s_is_between) rfl)),
    (fd_of X G (d.fact 2 (f := .glo "need_deeds") rfl) (d.def_ 2 (d := dd "need_deeds" My.s_need_deeds) rfl)),
    (fd_of X G (d.fact 3 (f := .glo "fits_letter") rfl) (d.def_ 3 (d := dd "fits_letter" My.s_fits_letter) rfl)),
    (fd_of X G (d.fact 4 (f := .glo "fits_row") rfl) (d.def_ 4 (d := dd "fits_row" My.s_fits_row) rfl)),
    (fd_of X G (d.fact 5 (f := .glo "plain_of") rfl) (d.def_ 5 (d := dd "plain_of" My.s_plain_of) rfl)),
    (fd_of X G (d.fact 6 (f := .glo "undone_of") rfl) (d.def_ 6 (d := dd "undone_of" My.s_undone_of) rfl)),
    (fd_of X G (d.fact 8 (f := .glo "need_row") rfl) (d.def_ 8 (d := dd "need_row" My.s_need_row) rfl)),
    (fd_of X G (d.fact 17 (f := .glo "_law_blended") rfl) (d.def_ 17 (d := dd "_law_blended" My.s_l_blended) rfl)),
    (fd_of X G (d.fact 18 (f := .glo "_law_draw") rfl) (d.def_ 18 (d := dd "_law_draw" My.s_l_draw) rfl)),
    (fd_of X G (d.fact 19 (f := .glo "_law_pick") rfl) (d.def_ 19 (d := dd "_law_pick" My.s_l_pick) rfl)),
    (fd_of X G (d.fact 16 (f := .glo "_law_begun") rfl) (d.def_ 16 (d := dd "_law_begun" My.s_l_begun) rfl)),
    (fd_of X G (d.fact 20 (f := .glo "_law_mk_plain") rfl) (d.def_ 20 (d := dd "_law_mk_plain" My.s_l_mk_plain) rfl)),
    (fd_of X G (d.fact 21 (f := .glo "_law_mk_undone") rfl) (d.def_ 21 (d := dd "_law_mk_undone" My.s_l_mk_undone) rfl)),
    (fd_of X G (d.fact 22 (f := .glo "_law_mk_letters") rfl) (d.def_ 22 (d := dd "_law_mk_letters" My.s_l_mk_letters) rfl)),
    (fd_of X G (d.fact 23 (f := .glo "_law_mk_row") rfl) (d.def_ 23 (d := dd "_law_mk_row" My.s_l_mk_row) rfl)),
    (fd_of X G (d.fact 26 (f := .glo "_law_mr_turned") rfl) (d.def_ 26 (d := dd "_law_mr_turned" My.s_l_mr_turned) rfl)),
    (fd_of X G (d.fact 24 (f := .glo "_law_mr_whole") rfl) (d.def_ 24 (d := dd "_law_mr_whole" My.s_l_mr_whole) rfl)),
    (fd_of X G (d.fact 7 (f := .glo "product_of") rfl) (d.def_ 7 (d := dd "product_of" My.s_product_of) rfl)),
    (fd_of X G (d.fact 9 (f := .glo "beside") rfl) (d.def_ 9 (d := dd "beside" My.s_beside) rfl)),
    (fd_of X G (d.fact 10 (f := .glo "times_row") rfl) (d.def_ 10 (d := dd "times_row" My.s_times_row) rfl)),
    (fd_of X G (d.fact 11 (f := .glo "tail_of") rfl) (d.def_ 11 (d := dd "tail_of" My.s_tail_of) rfl)),
    (fd_of X G (d.fact 12 (f := .glo "middle_of") rfl) (d.def_ 12 (d := dd "middle_of" My.s_middle_of) rfl)),
    (fd_of X G (d.fact 13 (f := .glo "root_in") rfl) (d.def_ 13 (d := dd "root_in" My.s_root_in) rfl)),
    (fd_of X G (d.fact 14 (f := .glo "root") rfl) (d.def_ 14 (d := dd "root" My.s_root) rfl)),
    (fd_of X G (d.fact 27 (f := .glo "_law_mr_commute") rfl) (d.def_ 27 (d := dd "_law_mr_commute" My.s_l_mr_commute) rfl)),
    (fd_of X G (d.fact 25 (f := .glo "_law_mr_times") rfl) (d.def_ 25 (d := dd "_law_mr_times" My.s_l_mr_times) rfl)),
    (fd_of X G (d.fact 15 (f := .glo "meet_power") rfl) (d.def_ 15 (d := dd "meet_power" My.s_meet_power) rfl)),
    (fd_of X G (d.fact 28 (f := .glo "_law_mr_pair") rfl) (d.def_ 28 (d := dd "_law_mr_pair" My.s_l_mr_pair) rfl)),
    (fd_of X G (d.fact 29 (f := .glo "_law_mr_alone") rfl) (d.def_ 29 (d := dd "_law_mr_alone" My.s_l_mr_alone) rfl)),
    (fd_of X G (d.fact 30 (f := .glo "law") rfl) (d.def_ 30 (d := dd "law" My.s_law) rfl))⟩
end
end Hd
namespace Hd
open PySem PySem.Spec PyProof.Rows L2 LamX
abbrev R : PySem.W.OpenRow := PySem.W.OpenLaw.row PySem.Challenge.rw_meankept_k68_whole_no_product_of_powers
abbrev Pg : Program := (PySem.Challenge.rw_meankept_k68_whole_no_product_of_powers).prog
abbrev hk : PySem.W.Hook := He.hookD 6 fa fn
def ob (s : PySem.W.SharedT) : He.AlD := He.obsDG 6 fa fn (HandSHeadRun.getT s)
theorem ob_eq (s : PySem.W.SharedT) : ob s = hk.obs s.abs := He.obsDG_eq (HandSHeadRun.getT_eq s)
def nm0 : List PySem.Str := ["BadDeeds", "BadNumber", "BadRow", "KeepError", "MOST_DEEDS", "MOST_IN_ROW", "MOST_TIMES", "_law_begun", "_law_blended", "_law_draw", "_law_mk_letters", "_law_mk_plain", "_law_mk_row", "_law_mk_undone", "_law_mr_alone", "_law_mr_commute", "_law_mr_pair", "_law_mr_times", "_law_mr_turned", "_law_mr_whole"]
def nm1 : List PySem.Str := ["_law_pick", "beside", "fits_letter", "fits_row", "is_between", "is_whole", "meet_power", "middle_of", "need_deeds", "need_row", "plain_of", "product_of", "root", "root_in", "tail_of", "times_row", "undone_of"]
def names : List PySem.Str := nm0 ++ (nm1)
theorem run (w : World) : HandSHeadRun.RunEq R (PySem.W.view R.prog [42]) hk ob 4000 names w := by
  intro os
  kernel_rfl
theorem law_at {w : World} {mg : Str → Option Value} {fa0 : Addr} {h : Heap} {K : PySem.W.Frag} (X : K.In h) (G : h.Ns mainGlobals mg) (hfa : mg ("law" : Str) = some (.ref fa0)) (c : He.SaysD fa fn K) : LawAtS PySem.Challenge.rw_meankept_k68_whole_no_product_of_powers w K (L2.CX Pg w) 8 63 "_law_script" mg fa0 h := by
  have T := top_of X G c
  obtain ⟨f, fd, F, gm⟩ := T.f_law.ex
  rw [gm] at hfa
  obtain rfl : f = fa0 := Value.ref.inj (Option.some.inj hfa)
  have bA := F.bindsA (ps := ["_law_script"]) fun _ _ _ _ _ _ us hl => match us, hl with | [_], _ => rfl
  refine ⟨fd, [], My.spLaw68 K, ?_, ?_, ?_, ?_, ?_, fun base KB GB _ => ?_⟩
  · exact fun p hp => absurd hp List.not_mem_nil
  · exact fun p hp => absurd hp List.not_mem_nil
  · exact fun p hp => absurd hp List.not_mem_nil
  · exact fun s u => bA s [u] rfl
  · exact fun H a ns hl _ _ hS => My.spLaw68_i hS (by omega) fun _ => rfl
  have D := My.all_law68 (P := Pg) (w := w) (base := base) T
  obtain ⟨f2, fd2, FO, gm2, _, _, oc2, od2, osl2, lk2⟩ := D.ex
  rw [gm] at gm2
  obtain rfl : f = f2 := Value.ref.inj (Option.some.inj gm2)
  obtain ⟨oc, od, dV, kV, doc, pm, an, cdv, ct, osl, rfl, lk, _⟩ := F.ex
  rw [lk2] at lk
  have efd := Data.func.inj (congrArg Obj.data (Option.some.inj lk))
  subst efd
  exact FO
end Hd
open PySem PySem.W PySem.Calls PyProof.Rows
theorem PySem.Challenge.cw_meankept_k68_whole_no_product_of_powers_holds : PySem.Challenge.rw_meankept_k68_whole_no_product_of_powers.Holds := by
  w_on; o_law
  refine HandSHeadRun.head_any (r := OpenLaw.row PySem.Challenge.rw_meankept_k68_whole_no_product_of_powers) (q := view (OpenLaw.row PySem.Challenge.rw_meankept_k68_whole_no_product_of_powers).prog [42]) (H := Hd.hk) (ob := Hd.ob) (M := 4000) (loose := Hd.names) (d := HandSHeadRun.topDef (OpenLaw.row PySem.Challenge.rw_meankept_k68_whole_no_product_of_powers).prog 42) (kwd := []) Hd.ob_eq
    (by kernel_rfl) (fun s => by kernel_rfl) Hd.run (by kernel_rfl) (by kernel_rfl) (by kernel_rfl) (by rfl) (by first | assumption | decide +kernel) (by decide +kernel) ⟨rfl, rfl, rfl, rfl, rfl, by decide +kernel⟩ ?hw ?hc
  case hw => w_witness2
  case hc =>
    refine LamX.walk_ofTsE (l := PySem.Challenge.rw_meankept_k68_whole_no_product_of_powers) (n := 63) (k := 8) (x := "_law_script") (CX := fun w => L2.CX Hd.Pg w) rfl (by decide) (by kernel_rfl) ⟨rfl, by decide, by decide⟩ ?F (fun _ _ _ _ _ z => by
      obtain ⟨_, _, _, _, _, _, _, _, _, _, _, _, z⟩ := z
      exact z)
    intro w mg fa h Y G hmg0
    obtain ⟨K, KX, c⟩ := Y
    have hmg : mg ("law" : PySem.Str) = some (.ref fa) := by
      have e : (HandSHeadRun.topDef (OpenLaw.row PySem.Challenge.rw_meankept_k68_whole_no_product_of_powers).prog 42).name = ("law" : PySem.Str) := by kernel_rfl
      rw [← e]
      exact hmg0
    exact ⟨K, KX, Hd.law_at KX G hmg c⟩
