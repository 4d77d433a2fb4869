import PyProof.Rows.All
import Wide.All
import OpenK.AllK
import Wide.FinOn
import HandS.Base
import HandS.Call
import HandS.List
import HandS.Exc
import HandS.ExcOwn
import HandS.TryOnly
import HandS.Lambda
import HandS.Words
import HandS.IsInst
import HandS.ExcIs
import HandS.ExcField
import KE.KExcIs
import KE.KExcSuper
import KE.KSuper
import HandS.Defaults
import HandS.HeadWalk
import HandS.ForMost
import HandS.ForExc
import HandS.Rev
import HandS.Flow
import HandS.Style
import HandS.TupMul
import HandS.TupAny
import KE.SortData
import HandS.TupSets
import HandS.Conv
import HandS.SortInts
import HandS.FStr
import HandS.Codes
import HandS.StrMore
import KE.GoesMore
import HandS.ForDict
import KE.KRevSl
import PyProof.StrBlock2
import HandS.EndTab
import KE.KStateDown
import Lean
import HandS.Ends
import HandS.More
import HandS.WordsExc
import HandS.Head0
import HandS.Head1
import HandS.Head2
import HandS.HeadEnd
import HandS.HeadHook1
import HandS.HeadHook2
import HandS.HeadHook3
import HandS.HeadHook4
import PySem.Challenge.RW_meankept_k60_texts_of_rows_and_renamings
set_option Elab.async false
set_option linter.all false
set_option maxRecDepth 100000
set_option maxHeartbeats 4000000
namespace L2
open PySem PySem.Spec PyProof.Rows
/-- an exception object that is held: its class, its own dict -/
def XO (cls : Value) (d : Option Addr) (a : Addr) : HO := .ext fun h => ∃ (oe : Obj) (vs : Array Value), h.get? a = some oe ∧ Zc cls d oe ∧ oe.data = .fields vs
theorem xo_ok {P : Program} {w : World} {H : Hp} {h : Heap} {a : Addr} {cls : Value} {d : Option Addr} {oe : Obj} {vs : Array Value} (e : h.get? a = some oe) (z : Zc cls d oe) (hd : oe.data = .fields vs) : ObjOk P w H h a (XO cls d a) :=
  ⟨⟨oe, vs, e, z, hd⟩, ⟨oe, e⟩, fun _ _ ⟨o, v, q, r⟩ k => ⟨o, v, k o q, r⟩⟩
section
variable {X : Cx} {pins : List (Addr × Obj)} {σ : St} {H : Hp} {s : Shared}
theorem Inv.track {a : Addr} {oe : Obj} {vs : Array Value} {cls : Value} {d : Option Addr} (I : Inv X pins σ H s) (ha : s.heap.get? a = some oe) (hd : oe.data = .fields vs) (hz : Zc cls d oe) (na : H a = none)
    (n0 : X.s_0.heap.get? a = none) (nL : a ≠ X.env.locals) (npin : ∀ p ∈ X.pn ++ pins, p.1 ≠ a) : Inv X pins σ (upd H a (XO cls d a)) s := by
  have ne : ∀ b o, H b = some o → b ≠ a := fun b o e z => by rw [z, na] at e; cases e
  refine ⟨I.ok, I.os, I.bare, ⟨I.base.keep, I.base.slot, fun b o e n hx => ?_, I.base.there, fun b xs e => ?_, fun b o u e => ?_, fun b ps e => ?_⟩, I.loc, I.cell, ?_, fun x c e => ?_, fun p hp => ?_, fun b u e => ?_, I.len⟩
  · have hb : b ≠ a := fun z => by rw [z, n0] at e; cases e
    rw [upd_ne hb]
    exact I.base.free b o e n hx
  · have q := I.base.tups b xs e
    rw [upd_ne (ne b _ q)]
    exact q
  · have q := I.base.frzs b o u e
    rw [upd_ne (ne b _ q)]
    exact q
  · obtain ⟨m, q⟩ := I.base.tbls b ps e
    exact ⟨m, by rw [upd_ne (ne b _ q)]; exact q⟩
  · rw [upd_ne (Ne.symm nL)]
    exact I.free
  · have hc : c ≠ a := fun z => by
      obtain ⟨v, o, ho, hv⟩ := I.cell x c e
      rw [z, ha] at ho
      cases ho
      rw [hd] at hv
      cases hv
    rw [upd_ne hc]
    exact I.freeC x c e
  · obtain ⟨e1, e2, e3, e4, e5⟩ := I.pin p hp
    exact ⟨e1, by rw [upd_ne (npin p hp)]; exact e2, e3, e4, e5⟩
  · by_cases hb : b = a
    · rw [hb] at e ⊢
      rw [upd_same] at e
      cases e
      exact xo_ok ha hz hd
    · rw [upd_ne hb] at e
      refine (I.hok b u e).stay (fun c v _ q => q) (fun c q => ?_) fun c xs q => ?_
      · rw [upd_ne (ne c _ q)]
        exact q
      · rw [upd_ne (ne c _ q)]
        exact q
end
end L2
namespace L2
open PySem PySem.Spec PyProof.Rows
/-- what the clause 'except x as n' wishes; the exception stays known behind the suite -/
def wKeep (K : PySem.W.Frag) (c : Value) (i : Nat) (ts : Addr → Value → Option Addr → TS) (Wout : WX) (D : Ends) : WX := fun cls d σ H =>
  ∃ b, PySem.W.exmOne K cls c = some b ∧ (b = true → ∀ a, H a = none → ts a cls d { nx := fun σ' H' => D.nx (σ'.set i none) (upd H' a (XO cls d a)), rt := fun _ _ => False, bk := fun _ _ => False, ct := fun _ _ => False } (σ.set i (some (.ref a))) H) ∧
    (b = false → Wout cls d σ H)
section
variable {X : Cx} {x n : Str} {c : Value} {i : Nat} {body suite : List Stmt} {b₀ : Stmt} {np pos pos' : Pos} {tb : WX → TS} {ts : Addr → Value → Option Addr → TS} {Wout : WX}
theorem ps_try_keep (hs : X.stack = X.env :: X.outer) (hf : X.env.frame = some X.env.locals) (hex : X.ex = []) (hN : X.N.Nodup) (hi : X.N[i]? = some n) (hln : X.env.kindOf n = some .local) (hc : Names X x c) (tk : Takes X Wout)
    (hb : ∀ (W : WX) (pn : List (Addr × Obj)) (xe : Value → Shared → Prop), Takes (X.tr pn xe) W → PassesOwn (model X.prog X.w) X.A X.env xe → PSs (X.tr pn xe) body (tb W))
    (hsu : ∀ (a : Addr) (oe : Obj) (cls : Value) (d : Option Addr) (pn : List (Addr × Obj)), Zc cls d oe → (∃ vs, oe.data = .fields vs) → PSs (X.suite a ((a, oe) :: pn)) (b₀ :: suite) (ts a cls d)) :
    PS X (.Try body [.ExceptHandler (some (.Name x np)) (some n) (b₀ :: suite) pos'] [] [] pos) (fun D σ H => tb (wKeep X.K c i ts Wout D) D σ H) := by
  refine ⟨fun pins s σ H D I h => ?_⟩
  have ok := I.ok
  have hfr : X.A.frames = some (X.env :: X.outer) := by rw [ok.frames, hs]
  have hloc : Loc X.env.scope n := .inl hln
  refine wpAny_Try_except ?_
  refine wpAny_mono ((hb (wKeep X.K c i ts Wout D) (X.pn ++ pins) (fun e s₁ => wpAny (model X.prog X.w) X.A (noteFrame e X.env) (fun _ s₂ => wpAny (model X.prog X.w) X.A (setFlight e none) (fun _ s₃ =>
    wpAny (model X.prog X.w) X.A (handleBy e X.env [.ExceptHandler (some (.Name x np)) (some n) (b₀ :: suite) pos']) (SP X pins D) X.xe s₃) X.xe s₂) X.xe s₁) (fun u s' xx => ?_) PassesOwn.looking).run [] s σ H D (I.toTry _) h) (fun f s1 hsp => ?_) (fun e s1 he => he)
  · obtain ⟨a, B, sI, pins', σ', H', cls, d, rfl, J', nb, up, sky, na, os, ag, b, hb1, hyes, hno⟩ := xx
    have J : Inv X pins σ' H' sI := J'.ofTry ok
    have sky' : Sky B (X.env :: X.outer) a (Zc cls d) X.env.locals s'.heap := by rw [← hs]; exact sky
    show wpAny (model X.prog X.w) X.A (noteFrame (.ref a) X.env) _ _ _
    refine Sky.land Zc.steady hfr hf sky' fun h3 fl3 up3 => ?_
    have J3 : Inv X pins σ' H' { s' with heap := h3 } := J.landed nb fl3.1 (up.trans up3) os ag
    obtain ⟨oe3, vs3, he3, hz3, hd3⟩ := fl3.there
    have notFr : ∀ {h : Heap} {o : Obj} {vs : Array Value}, h.FunFrames B (X.env :: X.outer) → h.get? a = some o → o.data = .fields vs → a ∉ frs (X.env :: X.outer) := fun {h o vs} ff e dd hm => by
      obtain ⟨_, o', e', hnf⟩ := ff.mem hm
      rw [e] at e'; cases e'
      exact hnf _ dd
    have nfr := notFr fl3.2.2.1 he3 hd3
    have nL : a ≠ X.env.locals := fun z => nfr (List.mem_filterMap.mpr ⟨X.env, List.mem_cons_self, by rw [hf, z]⟩)
    have nF : a ∉ X.fs := fun hm => by
      obtain ⟨e, he, q⟩ := List.mem_filterMap.mp hm
      exact nfr (List.mem_filterMap.mpr ⟨e, List.mem_cons_of_mem _ he, q⟩)
    have nI : ∀ o, sI.heap.get? a = some o → False := fun o e => by
      have q := nb a o e (by rw [hs]; exact nfr)
      rw [fl3.2.1] at q
      cases q
    have n0 : X.s_0.heap.get? a = none := by
      cases e : X.s_0.heap.get? a with
      | none => rfl
      | some o =>
        obtain ⟨o', e'⟩ := J.base.there a o e (by rw [hex]; exact fun z => nomatch z)
        exact (nI o' e').elim
    have npin : ∀ p ∈ X.pn ++ pins, p.1 ≠ a := fun p hp z => by
      have q := (J.pin p hp).1
      rw [z] at q
      exact nI _ q
    have S3 := J3.suite he3 hd3 na nL nF
    refine wpAny_handleBy_cons (codeAny_handlers_test ?_) (by intro q; cases q)
    have LT : PySem.W.Looks (model X.prog X.w) h3 (typeOf (.ref a)) cls := fun A Q E s k q => wpAny_typeOf_ref (k _ _ he3) (by rw [hz3.1]; exact q)
    have LM := PySem.W.exm_one (M := model X.prog X.w) (J3.kIn) LT hb1
    have test : ∀ {Q : Value → Shared → Prop} {E : Value → Shared → Prop}, Q c { s' with heap := h3 } → wpAny (model X.prog X.w) (X.A.mark (some (.ref a))) (eval (.Name x np) X.env) Q E { s' with heap := h3 } := fun {Q E} q => by
      obtain ⟨hg, hdbg, hm | ⟨hm, hv, hnn⟩⟩ := hc
      · exact ld_glob (X := X.suite a ((a, oe3) :: (X.pn ++ pins))) S3 hg hm q hdbg
      · exact ld_blt (X := X.suite a ((a, oe3) :: (X.pn ++ pins))) S3 hg hm hv q hnn hdbg
    refine test (LM.here ?_)
    cases b with
    | true =>
      refine codeAny_handlers_suite_as ?_
      refine HandSPX.lands_againZ fl3 fun h4 fl4 up4 => ?_
      have J4 : Inv X pins σ' H' { s' with heap := h4 } := J.landed nb fl4.1 ((up.trans up3).trans up4) os ag
      obtain ⟨oe4, vs4, he4, hz4, hd4⟩ := fl4.there
      have S4 := J4.suite he4 hd4 na nL nF
      refine store_ok (X := X.suite a ((a, oe4) :: (X.pn ++ pins))) (v := .ref a) S4 hN hi hloc rfl (fun s5 S5 => ?_) (.inr hln)
      refine wpAny_mono ((hsu a oe4 cls d (X.pn ++ pins) hz4 ⟨_, hd4⟩).run [] s5 _ H' _ S5 (hyes rfl a na)) (fun f s6 hsp => ?_) (fun _ _ z => False.elim z)
      cases f with
      | next =>
        obtain ⟨σ6, H6, S6, q6⟩ := hsp
        obtain ⟨p1, p2, _⟩ := S6.pin (a, oe4) (List.mem_append_left _ List.mem_cons_self)
        have T6 := (S6.unsuite ok).track (vs := vs4) p1 hd4 hz4 p2 n0 nL npin
        exact gone_ok T6 hN hi hln fun s7 J7 => ⟨_, _, J7, q6⟩
      | brk =>
        obtain ⟨σ6, H6, S6, q6⟩ := hsp
        exact q6.elim
      | cont =>
        obtain ⟨σ6, H6, S6, q6⟩ := hsp
        exact q6.elim
      | ret u =>
        obtain ⟨v6, σ6, H6, S6, r6, q6⟩ := hsp
        exact q6.elim
    | false =>
      show wpAny _ X.A (handleBy (.ref a) X.env []) _ _ _
      refine wpAny_handleBy_nil ?_
      obtain ⟨k1, k2, k3, oe, vs, T, oT, ts', he, hz, hd, h1, hr⟩ := id fl3
      unfold PySem.passOn
      refine wpAny_bind (wpAny_field he hd h1 ?_)
      rw [if_neg (show ¬ ((Value.ref T == Value.none) = true) from by simp)]
      have fin : wpAny (model X.prog X.w) X.A (setFlight (.ref a) X.env.frame) (fun _ s4 => wpAny (model X.prog X.w) X.A (throw (.ref a) : Sem Flow) (SP X pins D) X.xe s4) X.xe { s' with heap := h3 } := by
        rw [hf]
        refine HandSPX.setFlight_upZ fl3 fun h4 hh4 up4 => wpAny_throw (tk _ _ ?_)
        exact ⟨a, B, sI, pins, σ', H', cls, d, rfl, J, nb, (up.trans up3).trans up4, .inr (.inr (by rw [hs]; exact hh4)), na, os, ag, hno rfl⟩
      first
        | exact wpAny_bind (wpAny_pure (wpAny_bind fin))
        | exact wpAny_bind fin
  · cases f with
    | next =>
      obtain ⟨σ', H', J', q⟩ := hsp
      exact wpAny_execs_nil ⟨σ', H', J'.ofTry ok, q⟩
    | brk =>
      obtain ⟨σ', H', J', q⟩ := hsp
      exact ⟨σ', H', J'.ofTry ok, q⟩
    | cont =>
      obtain ⟨σ', H', J', q⟩ := hsp
      exact ⟨σ', H', J'.ofTry ok, q⟩
    | ret u =>
      obtain ⟨v, σ', H', J', r, q⟩ := hsp
      exact ⟨v, σ', H', J'.ofTry ok, r, q⟩
end
end L2
namespace L2
open PySem PySem.Spec PyProof.Rows LamX
/-- found = None / try: action() / except KeepError as error: found = error / return found -/
def TTcaught (K : PySem.W.Frag) (CS : Addr) : (XK → Hp → VK → Prop) → Hp → VK → Prop := fun tl H Q =>
  tl (fun cls d H' => PySem.W.exmOne K cls (.ref CS) = some true ∧ ∀ a, H' a = none → Q (.ref a) (upd H' a (XO cls d a))) H (fun _ H' => ∃ v : V, (some (some V.non) : Option (Option V)) = some (some v) ∧ Q v H')
theorem caught_gives {X : Cx} {x a fo er e q : Str} {sg : Scope} {g CS : Addr} {cdg : Value} {j : Nat} {p1 p2 p3 p4 p5 p6 p7 p8 p9 p10 p11 p12 p13 p14 p15 : Pos} (Sg : FnScope [a, fo, er] [a] sg)
    (hge : sg.names.lookup e = some .globalImplicit) (hme : X.mg e = some (.ref CS)) (hde : (e == ("__debug__" : Str)) = false) (hfo : sg.names.lookup fo = some .local) (her : sg.names.lookup er = some .local)
    (hfd : (fo == ("__debug__" : Str)) = false) (hfc : (fo == ("__classdict__" : Str)) = false) (hed : (er == ("__debug__" : Str)) = false) (hec : (er == ("__classdict__" : Str)) = false) :
    GivesTo X [a, fo, er] x sg g cdg [.Assign [.Name fo p1] (.Constant .none j p2) p3, .Try [.Expr (.Call (.Name a p4) [] [] p5) p6] [.ExceptHandler (some (.Name e p7)) (some er) [.Assign [.Name fo p8] (.Name er p9) p10] p11] [] [] p12, .Return (some (.Name fo p13)) p14] a q (TTcaught X.K CS) := by
  intro f c' s H Q tl act hc h
  have hgl : Gl (cxOf C8.CX0 X.prog X.w X.K X.mg X.base [a, fo, er] x sg g cdg X.A X.stack s H C8.E0).nox e := hge
  have hv1 : Vis sg fo := .inl hfo
  have hv2 : Vis sg er := .inl her
  refine ⟨_, pss_cons (ps_set (i := 1) Sg.nd rfl (Or.inl hfo) pe_non) (pss_cons (ps_try_keep (X := (cxOf C8.CX0 X.prog X.w X.K X.mg X.base [a, fo, er] x sg g cdg X.A X.stack s H C8.E0).nox) (c := .ref CS) (i := 2)
      (tb := fun W D σ H => ∃ Ech : XK, (∀ cls d H', Ech cls d H' → ∀ σ' : St, σ'.length = 3 → W cls d σ' H') ∧ σ[0]? = some (some (.ref f)) ∧ H c' = some (CodeO c' q) ∧ tl Ech H fun _ H' => D.nx σ H')
      rfl rfl rfl Sg.nd rfl her ⟨hgl, hde, .inl hme⟩ takes0 (fun W pn xe tk _ => ?_) (fun a oe cls d pn _ _ => pss_one (ps_set (i := 1) Sg.nd rfl (Or.inl hfo) (pv 2 rfl hv2 hed hec)))) (pss_one (ps_ret (pv 1 rfl hv1 hfd hfc)))), ?_⟩
  · refine ⟨fun pins s' σ H' D I h' => ?_⟩
    obtain ⟨Ech, hW, h1, h2, h3⟩ := h'
    have hp := act (fun cls d σ' H' => σ'.length = 3 → W cls d σ' H') pn xe Ech p4 p5 (fun u s1 xx => by
      obtain ⟨a, B, sI, pins, σ, H, cls, d, e, I, nb, up, sky, na, os, ag, w⟩ := xx
      exact tk _ _ ⟨a, B, sI, pins, σ, H, cls, d, e, I, nb, up, sky, na, os, ag, w I.len⟩) (fun cls d σ' H' e hl => hW cls d H' e σ' hl)
    have hq := pss_one (ps_expr (pos := p6) hp)
    exact hq.run pins s' σ H' D I ⟨h1, h2, h3⟩
  · refine ⟨fun cls d H' => PySem.W.exmOne X.K cls (.ref CS) = some true ∧ ∀ a, H' a = none → Q (.ref a) (upd H' a (XO cls d a)), fun cls d H' ⟨e1, e2⟩ σ' hl => ⟨true, e1, fun _ a na => ?_, fun z => Bool.noConfusion z⟩, rfl, hc, ?_⟩
    · match σ', hl with
      | [_, _, _], _ => exact ⟨.ref a, rfl, .ref a, rfl, e2 a na⟩
    · exact h
end L2

namespace L2
open PySem PySem.Spec PyProof.Rows
/-- the exception object that is held at a: its class C, its own fields -/
def ExV (H : Hp) (a C : Addr) (fs : List (Str × V)) : Prop := (H a = some (XO (.ref C) none a) ∧ fs = []) ∨ ∃ dd : Addr, H a = some (XO (.ref C) (some dd) a) ∧ H dd = some (.xd fs)
theorem ExV.inst {X : Cx} {pins : List (Addr × Obj)} {σ : St} {H : Hp} {s : Shared} {a C : Addr} {fs : List (Str × V)} (I : Inv X pins σ H s) (h : ExV H a C fs) : ∃ (oe : Obj) (od : Option Obj), PySem.W.InstAt s.heap a oe C od := by
  rcases h with ⟨h, _⟩ | ⟨dd, h, h2⟩
  · obtain ⟨⟨oe, vs, ho, hz, hd⟩, _, _⟩ := I.hok a _ h
    exact ⟨oe, none, ho, hz.1, by unfold PySem.W.notCls; rw [hd] <;> rfl, by rw [hz.2]; trivial⟩
  · obtain ⟨⟨oe, vs, ho, hz, hd⟩, _, _⟩ := I.hok a _ h
    obtain ⟨mA, hns, hr⟩ := (show ObjOk X.prog X.w H s.heap dd (.xd fs) from I.hok dd _ h2)
    obtain ⟨od, ho2, hl⟩ := lookIn_ns hns
    exact ⟨oe, some od, ho, hz.1, by unfold PySem.W.notCls; rw [hd] <;> rfl, by rw [hz.2]; exact ho2⟩
/-- isinstance(e, c), e an exception object that is held -/
def rIsX (K : PySem.W.Frag) : List V → Hp → VK → Prop := fun xs H Q => ∃ (a C : Addr) (fs : List (Str × V)) (c : V) (cv : Value) (b : Bool), xs = [.ref a, c] ∧ ExV H a C fs ∧ ExcC K C ∧ (∀ u, RelV c u → u = cv) ∧ PySem.W.kitOne K (.ref C) cv = some b ∧ Q (.bl b) H
theorem call_isX {X : Cx} : CallR X (.builtin "isinstance") (rIsX X.K) := by
  intro pins s σ H xs us Q I r h
  obtain ⟨a, C, fs, c, cv, b, rfl, hx, T, hcv, e, q⟩ := h
  cases r with
  | cons rx rr =>
    cases rr with
    | cons rt rr =>
      cases rr
      cases rx
      have ec := hcv _ rt
      subst ec
      obtain ⟨oe, od, J⟩ := hx.inst I
      have hcl : (PySem.W.clsIn X.K C).isSome = true := by
        obtain ⟨cd, hc, _⟩ := PySem.W.any_some T.hd
        rw [hc] <;> rfl
      exact PySem.W.kia_one (PySem.W.kitx_exc hcl T.hg T.hk T.hs T.ha T.hn T.ht T.hm) I.kIn J e (fun z => nomatch z) fun tk => ⟨.bl b, H, I.kept (t' := tk) fun _ _ z => z, rfl, q⟩
/-- isinstance(x, c) of either kind -/
def rIsA (K : PySem.W.Frag) : List V → Hp → VK → Prop := fun xs H Q => rIsX K xs H Q ∨ rIsi K xs H Q
theorem call_isA {X : Cx} : CallR X (.builtin "isinstance") (rIsA X.K) := by
  intro pins s σ H xs us Q I r h
  rcases h with h | h
  · exact call_isX pins s σ H xs us Q I r h
  · exact call_isi pins s σ H xs us Q I r h
/-- e.n, e an exception object that is held -/
def tXv (K : PySem.W.Frag) (n : Str) (te : TE) : TE := fun σ H Q => te σ H fun x H1 => ∃ (a C dd : Addr) (fs : List (Str × V)) (v : V), x = .ref a ∧ H1 a = some (XO (.ref C) (some dd) a) ∧ H1 dd = some (.xd fs) ∧ XfC K C ∧ PySem.W.findIn K (.ref C) n = some none ∧ fs.lookup n = some v ∧ Q v H1
theorem pe_xv {X : Cx} {e : Expr} {te : TE} {pos : Pos} {n : Str} (he : PE X e te) (hb : attributeBase e n X.env (eval e X.env) = eval e X.env := by rfl) : PE X (.Attribute e n pos) (tXv X.K n te) := by
  refine ⟨fun pins s σ H Q I h => ?_⟩
  refine attr_of hb (thn (he.run pins s σ H _ I h) fun u s1 hh => ?_)
  obtain ⟨x, H1, I1, rx, a, C, dd, fs, v, rfl, h1, h2, T, hno, l, q⟩ := hh
  obtain rfl : u = Value.ref a := rx
  obtain ⟨⟨oe, vs, ho, hz, hd⟩, _, _⟩ := I1.hok a _ h1
  obtain ⟨mA, hns, hr⟩ := (show ObjOk X.prog X.w H1 s1.heap dd (.xd fs) from I1.hok dd _ h2)
  obtain ⟨od, ho2, hl⟩ := lookIn_ns hns
  obtain ⟨u, hu, ru⟩ := RelO.some_of (v := v) (o := mA n) (by rw [← l]; exact hr n)
  have J : PySem.W.InstAt s1.heap a oe C (some od) := ⟨ho, hz.1, by unfold PySem.W.notCls; rw [hd] <;> rfl, by rw [hz.2]; exact ho2⟩
  exact HandSPX.exc_get I1.kIn J T.ga T.gg T.exC (PySem.W.findObj_own T.hdC hno rfl (by rw [hl, hu])) (handed_of ru) ⟨v, H1, I1.tok _, ru, q⟩
end L2
namespace SupX
open PySem PySem.W PySem.Calls PyProof.Rows PySem.HandSPX
/-! ### the text: super().__init__(msg); self.fld = fld -/
def iA (fld : Str) (p1 p2 : Pos) : Arguments := { posonlyargs := [], args := [{ arg := "self", annotation := none, pos := p1 }, { arg := fld, annotation := none, pos := p2 }], vararg := none, kwonlyargs := [], kw_defaults := [], kwarg := none, defaults := [] }
def iB (fld msg : Str) (j : Nat) (a1 a2 a3 a4 a5 a6 q1 q2 q3 q4 : Pos) : List Stmt :=
  [.Expr (.Call (.Attribute (.Call (.Name "super" a1) [] [] a2) "__init__" a3) [.Constant (.str msg) j a4] [] a5) a6, .Assign [.Attribute (.Name "self" q1) fld q2] (.Name fld q3) q4]
def iS (fld : Str) : Scope := { kind := .function, names := [(PySem.Str.ofString "self", .local), (fld, .local), (PySem.Str.ofString "__class__", .free), (PySem.Str.ofString "super", .globalImplicit)], isGenerator := false, isCoroutine := false, more := [] }
/-- what the written part says of the class at C and of its __init__ at fI -/
structure SupTxt (prog : Program) (K : Frag) (mg : Str → Option Value) (x fld msg : Str) (C fI cc : Addr) : Prop where
  gC : mg x = some (.ref C)
  cls : ∃ nm q N bs bm sn sub ab col dd k0 k1 k2 k3 k5, K.lookup C = some (excClassObj nm q C N bs bm true sn sub ab col dd k0 k1 k2 k3 k5 "ValueError.__new__") ∧ refsVE bm = true ∧
    alongIn K "__init__" bm = some (some (.builtin "ValueError.__init__"))
  sa : findIn K (.ref C) "__setattr__" = some (some (.builtin "object.__setattr__"))
  noN : findIn K (.ref C) fld = some none
  iC : findIn K (.ref C) "__init__" = some (some (.ref fI))
  tC : typeIn K (.ref fI) = some (.type "function")
  kC : keepIn K (.ref C) = true
  exC : subIn K (.ref C) (.type "BaseException") = some true
  veC : subIn K (.ref C) (.type "ValueError") = some true
  tyC : typeIn K (.ref C) = some (.type "type")
  third : nsIn K cStatics "thirdparty.any" = some none
  sup : mg "super" = none
  cell : ∃ cl cld csl, K.lookup cc = some ⟨cl, cld, .cell (some (.ref C)), csl⟩
  top : (prog.main.scope.names.lookup ("super" : Str)).isSome = false
  fn : ∃ (oc : Value) (od : Option Addr) (doc pm : Value) (an : Option Addr) (cda : Addr) (ct : Value) (osl : Array (Option Value)) (q : Str) (j : Nat) (p1 p2 a1 a2 a3 a4 a5 a6 q1 q2 q3 q4 : Pos),
    K.lookup fI = some ⟨oc, od, .func (ksFn "__init__" q (iA fld p1 p2) (iB fld msg j a1 a2 a3 a4 a5 a6 q1 q2 q3 q4) (iS fld) .none .none doc pm an (.ref cda) ct cc), osl⟩ ∧ codeIn K (.ref cda) q = true ∧
    (a3.endLine == a5.line) = true ∧ ∃ ccl cdd vs ccs file tf, K.lookup cda = some ⟨ccl, cdd, .fields vs, ccs⟩ ∧ vs[2]? = some (.str file tf) ∧ ((prog.main.file : Str) == file) = true
/-- what __init__ leaves of a fresh exception at x -/
structure SupEnd (h h' : Heap) (x C dx : Addr) (fld : Str) (v : Value) : Prop where
  keep : ∀ b o, b ≠ x → h.get? b = some o → h'.get? b = some o
  obj : ∃ t1, h'.get? x = some { cls := .ref C, dict := some dx, data := .fields #[.ref t1, .none, .none, .none, .bool false, .none] }
  dbig : h.objs.size ≤ dx
  dne : dx ≠ x
  ns : h'.Ns1 dx (fun y => if y = fld then some v else none)
/-- the field's name is a plain one -/
structure FldOk (fld : Str) : Prop where
  kf : (iS fld).names.lookup fld = some .local
  ks : (iS fld).names.lookup ("self" : Str) = some .local
  kc : (iS fld).names.lookup ("__class__" : Str) = some .free
  ku : (iS fld).names.lookup ("super" : Str) = some .globalImplicit
  nc : ∀ y ∈ (iS fld).names, y.2 ≠ .cell
  nd : (fld == ("__debug__" : Str)) = false
  ns : fld ≠ ("self" : Str)
  bind : ∀ (q : Str) (b : List Stmt) (p1 p2 : Pos) (doc pm : Value) (an : Option Addr) (cda : Value) (ct : Value) (cc : Addr) (u v : Value), bindArgs (ksFn "__init__" q (iA fld p1 p2) b (iS fld) .none .none doc pm an cda ct cc) ⟨[u, v], []⟩ = pure [(("self" : Str), u), (fld, v)]
theorem fld_at : FldOk "at" := ⟨rfl, rfl, rfl, rfl, by decide +kernel, by decide +kernel, by decide +kernel, fun _ _ _ _ _ _ _ _ _ _ _ _ => by first | rfl | with_unfolding_all rfl⟩
theorem fld_most : FldOk "most" := ⟨rfl, rfl, rfl, rfl, by decide +kernel, by decide +kernel, by decide +kernel, fun _ _ _ _ _ _ _ _ _ _ _ _ => by first | rfl | with_unfolding_all rfl⟩
section
variable {prog : Program} {w : World} {A : Around} {E : Value → Shared → Prop} {h : Heap} {g : Array GenState} {d : Drawn} {t : Nat} {os : OsState}
variable {nm qn : Str} {C N : Addr} {bs bm : List Value} {hdct : Bool} {sn : List Str} {sub : List Value} {ab : Bool} {col : Option Bool} {dd : Option Addr} {k0 k1 k2 k3 k5 : Option Value}
/-- the bound ValueError.__init__ of the object at e, called -/
theorem bound_init {u e t0 : Addr} {rest : List Value} {Q : Value → Shared → Prop} (hC : h.get? C = some (excClassObj nm qn C N bs bm hdct sn sub ab col dd k0 k1 k2 k3 k5 "ValueError.__new__")) (he : h.get? e = some (excO C t0))
    (hu : h.get? u = some (kxs_mw "ValueError.__init__" e)) (hrest : rest.length ≤ sizeLine)
    (hq : ∀ h' t1, (∀ b o, b ≠ e → h.get? b = some o → h'.get? b = some o) → h'.get? e = some (excO C t1) → Q .none ⟨h', g, d, t, os⟩) : wpAny (model prog w) A (call (.ref u) rest) Q E ⟨h, g, d, t, os⟩ := by
  refine wpAny_call (codeAny_of_tree ?_)
  show wpAny _ A.in1 (callAny (.ref u) ⟨rest, []⟩) _ _ _
  simp only [callAny]
  refine wpAny_bind (wpAny_load hu ?_)
  simp only [kxs_mw, show (Value.type "method-wrapper" == Value.type "method" || Value.type "method-wrapper" == Value.type "builtin_function_or_method" || Value.type "method-wrapper" == Value.type "method-wrapper") = true by decide, if_true]
  refine KFB.if_so (by decide) ?_
  refine wpAny_bind (check_bound_init F.excBase_ValueError.toExcCallFacts hC he rfl ?_)
  refine wpAny_bind (wpAny_pure (wpAny_pure ?_))
  refine ⟨plainId_quiet F.excBase_ValueError.init.plain _, codeAny_builtin F.excBase_ValueError.initEntry ?_⟩
  exact exc_init_tree (cls := .ref C) (t0 := t0) (dv := none) (c2 := .none) (c3 := .none) (b4 := .bool false) he hrest fun h4 k4 e4 _ => hq h4 _ k4 e4
end
section
variable {prog : Program} {w : World} {A : Around} {E : Value → Shared → Prop} {R : Result → Shared → Prop} {s : Shared} {K : Frag} {mg : Str → Option Value} {x fld msg : Str} {C fI cc : Addr}
theorem sup_init (T : SupTxt prog K mg x fld msg C fI cc) (FO : FldOk fld) {e t0 : Addr} {v : Value} (X : K.In s.heap) (hlim : s.heap.NoLimit) (hg : s.heap.Ns mainGlobals mg) (hb : ∃ mb, s.heap.Ns builtinsNs mb ∧ ∀ x : Str, x ≠ "__name__" → mb x = bootBuiltins x)
    (hx : s.heap.get? e = some (excO C t0)) (hnx : K.lookup e = none) (hroom : A.depth < recursionLimit)
    (hq : ∀ h' tk dx, SupEnd s.heap h' e C dx fld v → R (.ok (.ret .none)) { s with heap := h', toks := tk }) :
    codeAny (model prog w) A (.call (.ref fI) ⟨[.ref e, v], []⟩) R s := by
  obtain ⟨oc, od, doc, pm, an, cda, ct, osl, q, j, p1, p2, a1, a2, a3, a4, a5, a6, q1, q2, q3, q4, ho, hcd, hline, ccl, cdd, vs, ccs, file, tf, hco, hvs, hfile⟩ := T.fn
  obtain ⟨nm, qn, N, bs, bm, sn, sub, ab, col, dd, k0, k1, k2, k3, k5, hC, hbm, hal⟩ := T.cls
  obtain ⟨cl, cld, csl, hcell⟩ := T.cell
  obtain ⟨mb, hbn, hbb⟩ := hb
  have hcl : clsIn K C = some { name := nm, bases := bs, mro := .ref C :: bm, ns := N, qualname := qn, hasDict := true, slotNames := sn, subclasses := sub, abstract := ab, collection := col, hasDel := false } := by unfold clsIn; rw [hC] <;> rfl
  obtain ⟨hp, g, d, t, os⟩ := s
  have hloc : ∀ y ∈ [(("self" : Str), (Value.ref e)), (fld, v)], (iS fld).names.lookup y.1 = some .local := fun y hy => by
    rcases List.mem_cons.mp hy with rfl | hy
    · exact FO.ks
    · rcases List.mem_cons.mp hy with rfl | hy
      · exact FO.kf
      · cases hy
  refine ks_codeAny_call_defAt (fd := ksFn "__init__" q (iA fld p1 p2) (iB fld msg j a1 a2 a3 a4 a5 a6 q1 q2 q3 q4) (iS fld) .none .none doc pm an (.ref cda) ct cc) (body := iB fld msg j a1 a2 a3 a4 a5 a6 q1 q2 q3 q4) (binds := [("self", .ref e), (fld, v)])
    hroom (X _ _ ho) rfl hlim (codeRec_of X hcd) rfl (BindsTo.of_eq (FO.bind _ _ _ _ _ _ _ _ _ _ _ _)) FO.nc hloc (fun h1 hns hk1 => ?_) rfl rfl rfl
  have X1 : K.In h1 := X.keeps hk1
  have hx1 := hk1 _ _ hx
  have eself : ([(("self" : Str), (Value.ref e)), (fld, v)].reverse.lookup ("self" : Str)) = some (.ref e) := by
    have hh : (("self" : Str) == fld) = false := beq_eq_false_iff_ne.mpr (Ne.symm FO.ns)
    show List.lookup ("self" : Str) [(fld, v), (("self" : Str), (Value.ref e))] = _
    rw [List.lookup_cons, hh]
    rfl
  have efld : ([(("self" : Str), (Value.ref e)), (fld, v)].reverse.lookup fld) = some v := by
    show List.lookup fld [(fld, v), (("self" : Str), (Value.ref e))] = _
    rw [List.lookup_cons, beq_self_eq_true]
  show PySem.wpAt (model prog w) _ (.func _ (ksEnv q (iS fld) hp.objs.size fI (.ref cda) cc)) (execs _ (ksEnv q (iS fld) hp.objs.size fI (.ref cda) cc)) _ _ _
  have I1 : InstAt h1 e (excO C t0) C none := ⟨hx1, rfl, rfl, trivial⟩
  have he : eval (.Call (.Attribute (.Call (.Name "super" a1) [] [] a2) "__init__" a3) [.Constant (.str msg) j a4] [] a5) (ksEnv q (iS fld) hp.objs.size fI (.ref cda) cc) = (do
      let ov ← attributeBase (.Call (.Name "super" a1) [] [] a2) "__init__" (ksEnv q (iS fld) hp.objs.size fI (.ref cda) cc) (eval (.Call (.Name "super" a1) [] [] a2) (ksEnv q (iS fld) hp.objs.size fI (.ref cda) cc))
      standAt a3.atName
      let (f, first) ← holding [ov] (getMethod ov "__init__" (L2.plainOf (.Call (.Name "super" a1) [] [] a2) (ksEnv q (iS fld) hp.objs.size fI (.ref cda) cc)))
      callWith a5 f first (backTo a5 (starEach [.Constant (.str msg) j a4] (ksEnv q (iS fld) hp.objs.size fI (.ref cda) cc))) []) := by
    refine Eq.trans (b := (attributeBase (.Call (.Name "super" a1) [] [] a2) "__init__" (ksEnv q (iS fld) hp.objs.size fI (.ref cda) cc) (eval (.Call (.Name "super" a1) [] [] a2) (ksEnv q (iS fld) hp.objs.size fI (.ref cda) cc)) >>= fun ov =>
      standAt a3.atName >>= fun _ => methodCall (.Call (.Name "super" a1) [] [] a2) "__init__" a3 a5 (ksEnv q (iS fld) hp.objs.size fI (.ref cda) cc) ov 1 (backTo a5 (starEach [.Constant (.str msg) j a4] (ksEnv q (iS fld) hp.objs.size fI (.ref cda) cc))) [])) rfl ?_
    refine congrArg _ (funext fun ov => congrArg _ (funext fun _ => L2.mcall_line rfl hline))
  refine ks_wpAt_execs_cons (ks_wpAt_Expr_any (ks_wpAt_MethodCall (ks_wpAt_super_base (env := ksEnv q (iS fld) hp.objs.size fI (.ref cda) cc) (f := fI) (cc := cda) FO.ku FO.kc rfl rfl (X1 _ _ ho) rfl rfl rfl (X1 _ _ hco) rfl hvs hfile T.top ?_) he))
  refine ks_loadName_global rfl FO.ku (loadGlobal_builtin (env := ksEnv q (iS fld) hp.objs.size fI (.ref cda) cc) (hg.keeps hk1) T.sup (hbn.keeps hk1) ((hbb _ (by decide +kernel)).trans (by decide +kernel)) ⟨rfl, ?_⟩)
  refine wpAny_loadName_free rfl FO.kc rfl ⟨_, X1 _ _ hcell, rfl⟩ ?_
  refine wpAny_loadName_local rfl FO.ks hns eself ?_
  refine ks_wpAny_isType_cls (X1 _ _ hC) rfl ⟨rfl, ?_⟩
  have hsub : Looks (model prog w) h1 (isSubtype (.ref C) (.ref C)) true := looks_mroIn X1 (by unfold mroIn; rw [hcl, Option.bind_some, if_neg (by rw [List.isEmpty_cons]; decide), List.contains_cons, beq_self_eq_true]; rfl)
  refine ks_wpAny_call_super (X1 _ _ hC) rfl hx1 rfl (fun c z => by cases z) hsub (fun h2 e2 k2 => ?_)
  have X2 : K.In h2 := X1.keeps k2
  have hx2 := k2 _ _ hx1
  have I2 : InstAt h2 e (excO C t0) C none := ⟨hx2, rfl, rfl, trivial⟩
  have hCm : Looks (model prog w) h2 (mroOf (.ref C)) (.ref C :: bm) := fun A Q E s k q => wpAny_bind ((looks_clsIn X2 hcl) A _ E s k (wpAny_pure q))
  have hdrop : ((Value.ref C :: bm).dropWhile (· != .ref C)).drop 1 = bm := by simp [List.dropWhile_cons]
  have hI : Looks (model prog w) h2 (isInstance (.ref e) (.type "ValueError")) true := I2.type.andThen (looks_subIn X2 T.veC)
  have hxC : e ≠ C := fun z => by rw [z, hC] at hnx; cases hnx
  refine kxs_getMethod kxs_ValueError e2 (looks_opaque X2 T.third) hCm hdrop X2 hal hI hxC (by decide +kernel) ?_
  refine kxs_callWith (i := "ValueError.__init__") (x := e) rfl (evalArgs_plain ?_)
  show wpAny _ _ (spliced ((false, eval (.Constant (.str msg) j a4) _) :: backTo a5 (starEach [] _))) _ _ _
  refine Calls.spliced_cons (wpAny_Constant_str ?_)
  refine Calls.spliced_nil ?_
  refine ⟨Heap.get?_push_at rfl rfl, ?_⟩
  have k3 : ∀ b o, h2.get? b = some o → (h2.push (kxs_mw "ValueError.__init__" e)).get? b = some o := fun b o q => Heap.get?_push_of_some _ q
  have X3 := X2.keeps k3
  have hx3 := k3 _ _ hx2
  refine bound_init (rest := [.str msg _]) (X3 _ _ hC) hx3 (Heap.get?_push_at rfl rfl) (by show 1 ≤ sizeLine; rw [sizeLine_eq]; omega) (fun h4 t4 k4 hx4 => ?_)
  have kk : ∀ b o, b ≠ e → h1.get? b = some o → h4.get? b = some o := fun b o hb q => k4 b o hb (k3 _ _ (k2 _ _ q))
  have X4 : K.In h4 := fun a o q => k4 a o (fun z => by rw [z, hnx] at q; cases q) (X3 a o q)
  have hLe : hp.objs.size ≠ e := Nat.ne_of_gt (Heap.lt_size hx)
  have hns4 : h4.Ns hp.objs.size (fun x => [(("self" : Str), (Value.ref e)), (fld, v)].reverse.lookup x) := by
    obtain ⟨oL, es, ep, hoL, r⟩ := hns
    exact ⟨oL, es, ep, kk _ _ hLe hoL, r⟩
  show PySem.wpAt (model prog w) _ _ (execs [Stmt.Assign [(Expr.Name (Str.ofString "self") q1).Attribute fld q2] (Expr.Name fld q3) q4] (ksEnv q (iS fld) hp.objs.size fI (.ref cda) cc)) _ _ _
  refine wpAt_of_wpAny (wpAny_execs_cons (plainObj_wpAny_Assign_Attribute ?_))
  refine wpAny_Name (wpAny_loadName_local rfl FO.kf hns4 efld ?_) FO.nd
  refine wpAny_Name (wpAny_loadName_local rfl FO.ks hns4 eself ?_) (by decide +kernel)
  refine set_plain X4 (ox := excO C t4) (od := none) ⟨hx4, rfl, rfl, trivial⟩ T.sa ?_
  refine exc_osa X4 hx4 hcl (show refsVE (.ref C :: bm) = true from hbm) rfl T.noN (fun h5 tk5 dx k5 dn dne hx5 hn5 => ?_)
  refine wpAny_execs_nil (hq h5 tk5 dx ⟨fun b o hb q => k5 b o hb (kk b o hb (hk1 b o q)), ⟨_, hx5⟩, ?_, dne, hn5⟩)
  have z1 : hp.objs.size < h4.objs.size := by
    obtain ⟨oL, es, ep, hoL, r⟩ := hns4
    exact Heap.lt_size hoL
  exact Nat.le_of_lt (Nat.lt_of_lt_of_le z1 dn)
end
end SupX
namespace SupX
open PySem PySem.W PySem.Calls PyProof.Rows PySem.HandSPX
/-- a made exception with its field -/
structure SupMade (h h' : Heap) (e C d : Addr) (fld : Str) (v : Value) : Prop where
  keep : ∀ b o, h.get? b = some o → h'.get? b = some o
  new : h.objs.size ≤ e
  obj : ∃ oe vs, h'.get? e = some oe ∧ oe.cls = .ref C ∧ oe.dict = some d ∧ oe.data = .fields vs ∧ vs[1]? = some .none
  dbig : h.objs.size ≤ d
  dne : d ≠ e
  ns : h'.Ns1 d (fun y => if y = fld then some v else none)
section
variable {prog : Program} {w : World} {A : Around} {R : Result → Shared → Prop} {s : Shared} {K : Frag} {mg : Str → Option Value} {x fld msg : Str} {C fI cc : Addr}
theorem sup_made (T : SupTxt prog K mg x fld msg C fI cc) (FO : FldOk fld) {v : Value} (X : K.In s.heap) (hlim : s.heap.NoLimit) (hg : s.heap.Ns mainGlobals mg) (hb : ∃ mb, s.heap.Ns builtinsNs mb ∧ ∀ x : Str, x ≠ "__name__" → mb x = bootBuiltins x)
    (hroom : A.depth + 1 < recursionLimit) (hq : ∀ h' tk e d, SupMade s.heap h' e C d fld v → R (.ok (.ret (.ref e))) { s with heap := h', toks := tk }) :
    codeAny (model prog w) A (.call (.ref C) ⟨[v], []⟩) R s := by
  obtain ⟨nm, q, N, bs, bm, sn, sub, ab, col, dd, k0, k1, k2, k3, k5, hC, hbm, hal⟩ := T.cls
  obtain ⟨hp, g, dr, tk, os⟩ := s
  have k : ∀ b o, hp.get? b = some o → ((hp.push (kdv_tup [v])).push (excO C hp.objs.size)).get? b = some o := fun b o e => Heap.get?_push_of_some _ (Heap.get?_push_of_some _ e)
  have hget : ((hp.push (kdv_tup [v])).push (excO C hp.objs.size)).get? (hp.objs.size + 1) = some (excO C hp.objs.size) := by heap_get
  have hnx : K.lookup (hp.objs.size + 1) = none := by
    cases e : K.lookup (hp.objs.size + 1) with
    | none => rfl
    | some o => exact absurd (Nat.lt_of_succ_lt (Heap.lt_size (show hp.get? (hp.objs.size + 1) = some o from X _ _ e))) (Nat.lt_irrefl _)
  refine call_own F.excBase_ValueError (fun X => refsVE_contains X bm hbm) (X _ _ hC) (looks_findIn X T.iC) (fun self => bind_fn X self T.tC) (by show 1 ≤ sizeLine; rw [sizeLine_eq]; omega) ?_
  refine sup_init (s := ⟨(hp.push (kdv_tup [v])).push (excO C hp.objs.size), g, dr, tk, os⟩) T FO (X.keeps k) (hlim.keeps k) (hg.keeps k) (let ⟨mb, h1, h2⟩ := hb; ⟨mb, h1.keeps k, h2⟩) hget hnx hroom fun h' tk' dx E => ?_
  have old : ∀ b o, hp.get? b = some o → h'.get? b = some o := fun b o e => E.keep b o (Nat.ne_of_lt (Nat.lt_succ_of_lt (Heap.lt_size e))) (k b o e)
  have z : hp.objs.size + 1 + 1 ≤ dx := by
    have q := E.dbig
    rw [Heap.size_push, Heap.size_push] at q
    exact q
  obtain ⟨t1, ho⟩ := E.obj
  exact ⟨rfl, hq h' tk' (hp.objs.size + 1) dx ⟨old, Nat.le_succ _, ⟨_, _, ho, rfl, rfl, rfl, rfl⟩, Nat.le_trans (Nat.le_trans (Nat.le_succ _) (Nat.le_succ _)) z, E.dne, E.ns⟩⟩
end
end SupX
namespace L2
open PySem PySem.Spec PyProof.Rows
theorem relO_one {fld : Str} {v : V} {v' : Value} (r : RelV v v') (f : Str) : RelO (List.lookup f [(fld, v)]) (if f = fld then some v' else none) := by
  by_cases hw : f = fld
  · subst hw
    rw [if_pos rfl, List.lookup_cons, beq_self_eq_true]
    exact r
  · rw [if_neg hw, List.lookup_cons, beq_eq_false_iff_ne.mpr hw]
    trivial
section
variable {X : Cx} {x fld msg : Str} {C fI cc : Addr}
/-- C(e), an exception with one field -/
def tMkSup (C : Addr) (fld : Str) (ta : TA) : St → Hp → XK → Prop := fun σ H Q => ta σ H fun vs H1 => ∃ v, vs = [v] ∧ ∀ d, H1 d = none → Q (.ref C) (some d) (upd H1 d (.xd [(fld, v)]))
theorem pmk_sup {a : Expr} {ta : TA} {p pos : Pos} {k : Nat} (T : SupX.SupTxt X.prog X.K X.mg x fld msg C fI cc) (FO : SupX.FldOk fld) (hr : Room k X.A) (ha : PA X [a] ta) (hg : Gl X x) (hdb : (x == ("__debug__" : Str)) = false := by decide)
    (he : starEach (a :: []) X.env = (false, eval a X.env) :: starEach [] X.env := by rfl) (hpl : (backTo pos (starEach [] X.env)).any (·.1) = false := by rfl) :
    PMk X (.Call (.Name x p) [a] [] pos) (tMkSup C fld ta) := by
  intro pins s σ H Q I h
  refine wpAny_Call_Name_kw (ld_glob I hg T.gC ?_ hdb)
  refine PySem.W.callWith_K (h₀ := X.base) I.ok.mod.kin T.kC (thn (ha.run pos pins s σ H _ I h) fun us s1 hh => ?_) he hpl
  obtain ⟨vs, H1, I1, r1, v, ev, q1⟩ := hh
  subst ev
  refine ⟨I1.kIn, ?_⟩
  cases r1 with
  | cons rv rn =>
    rename_i v' us'
    cases rn
    show wpAny _ _ (call (.ref C) [v']) _ _ _
    have hlim := I1.nolimit
    have hgl := I1.ok.mod.glob.keeps I1.bk
    obtain ⟨mb, hb1, hb2⟩ := I1.ok.mod.blt
    have hblt : ∃ mb, s1.heap.Ns builtinsNs mb ∧ ∀ x : Str, x ≠ "__name__" → mb x = bootBuiltins x := ⟨mb, hb1.keeps I1.bk, hb2⟩
    obtain ⟨hp, g, dr, tk, os⟩ := s1
    refine wpAny_call (SupX.sup_made T FO I1.kIn hlim hgl hblt (by have := hr.dp; omega) fun h' tk' e d M => ?_)
    show MkP X pins σ Q (.ref e) ⟨h', g, dr, tk', os⟩
    obtain ⟨oe, fv, hoe, hc, hd, hdat, h1⟩ := M.obj
    have hns := M.ns
    obtain ⟨G', g1, g2⟩ := restrict h' fun b => decide (b ≠ e)
    have gk : ∀ b, b ≠ e → G'.get? b = h'.get? b := fun b hb => g1 b (decide_eq_true hb)
    have ge : G'.get? e = none := g2 e (by simp)
    have old : ∀ b o, hp.get? b = some o → G'.get? b = some o := fun b o q => (gk b (Nat.ne_of_lt (Nat.lt_of_lt_of_le (Heap.lt_size q) M.new))).trans (M.keep b o q)
    have ob : ObjOk X.prog X.w (upd H1 d (.xd [(fld, v)])) G' d (.xd [(fld, v)]) := ⟨_, hns.at (fun o q => (gk d M.dne).trans q), fun f => relO_one rv f⟩
    have J : Inv X pins σ (upd H1 d (.xd [(fld, v)])) ⟨G', g, dr, tk', os⟩ := I1.laid (t' := tk') old M.dbig ob
    refine ⟨e, oe, fv, ⟨G', g, dr, tk', os⟩, _, .ref C, some d, rfl, J, fun b o q => ?_, ge, hoe, ⟨hc, hd⟩, hdat, h1, ?_, rfl, I1.bare, raises_own T.exC T.tyC, q1 d (I1.hok.fresh M.dbig)⟩
    · by_cases hb : b = e
      · have q' : G'.get? b = some o := q
        rw [hb, ge] at q'
        cases q'
      · exact (gk b hb).symm.trans q
    · rw [upd_ne (Ne.symm M.dne)]
      exact I1.hok.fresh M.new
end
end L2
namespace My
open PySem PySem.Spec PyProof.Rows L2
/-! ### data -/
inductive Dt where
  | non | bl (b : Bool) | int (i : Int) | str (x : Str) | tup (xs : List Dt) | lst (xs : List Dt) | dic
mutual
inductive DV (H : Hp) : V → Dt → Prop
  | non : DV H .non .non
  | bl (b : Bool) : DV H (.bl b) (.bl b)
  | int (i : Int) : DV H (.int i) (.int i)
  | str (x : Str) : DV H (.str x) (.str x)
  | tup {a : Addr} {xs : List V} {ds : List Dt} : H a = some (.tup xs) → DVs H xs ds → DV H (.ref a) (.tup ds)
  | lst {a : Addr} {xs : List V} {ds : List Dt} : H a = some (.lst xs) → DVs H xs ds → DV H (.ref a) (.lst ds)
  | dic {a : Addr} {kvs : List (Key × V)} : H a = some (.dK kvs) → DV H (.ref a) .dic
inductive DVs (H : Hp) : List V → List Dt → Prop
  | nil : DVs H [] []
  | cons {v : V} {vs : List V} {d : Dt} {ds : List Dt} : DV H v d → DVs H vs ds → DVs H (v :: vs) (d :: ds)
end
theorem DVs.len {H : Hp} : ∀ {vs : List V} {ds : List Dt}, DVs H vs ds → vs.length = ds.length
  | _, _, .nil => rfl
  | _, _, .cons _ t => congrArg (· + 1) (DVs.len t)
theorem DVs.get {H : Hp} : ∀ {vs : List V} {ds : List Dt} {i : Nat} {v : V}, DVs H vs ds → vs[i]? = some v → ∃ d, ds[i]? = some d ∧ DV H v d
  | _, _, _, _, .nil, e => by simp at e
  | _, _, 0, _, .cons r _, e => by simp at e; subst e; exact ⟨_, rfl, r⟩
  | _, _, i + 1, _, .cons _ t, e => by simpa using DVs.get (i := i) t (by simpa using e)
/-- rows: tuples of iV -/
abbrev iV (xs : List Int) : List V := xs.map V.int
def Row (H : Hp) (v : V) (xs : List Int) : Prop := ∃ a, v = .ref a ∧ H a = some (.tup (iV xs))
theorem dvs_iV {H : Hp} : ∀ xs : List Int, DVs H (iV xs) (xs.map Dt.int)
  | [] => .nil
  | x :: r => .cons (.int x) (dvs_iV r)
theorem Row.dv {H : Hp} {v : V} {xs : List Int} (h : Row H v xs) : DV H v (.tup (xs.map Dt.int)) := by
  obtain ⟨a, rfl, h⟩ := h
  exact .tup h (dvs_iV xs)
theorem Row.same {H H' : Hp} {v : V} {xs : List Int} (e : Same H H') (h : Row H v xs) : Row H' v xs := by
  obtain ⟨a, rfl, h⟩ := h
  exact ⟨a, rfl, e _ _ h⟩
mutual
theorem DV.same {H H' : Hp} {v : V} {d : Dt} (e : Same H H') : DV H v d → DV H' v d
  | .non => .non
  | .bl b => .bl b
  | .int i => .int i
  | .str x => .str x
  | .tup h t => .tup (e _ _ h) (DVs.same e t)
  | .lst h t => .lst (e _ _ h) (DVs.same e t)
  | .dic h => .dic (e _ _ h)
theorem DVs.same {H H' : Hp} {vs : List V} {ds : List Dt} (e : Same H H') : DVs H vs ds → DVs H' vs ds
  | .nil => .nil
  | .cons r t => .cons (DV.same e r) (DVs.same e t)
end
/-- the class of a value, for isinstance -/
def Dt.cls : Dt → String
  | .non => "NoneType" | .bl _ => "bool" | .int _ => "int" | .str _ => "str" | .tup _ => "tuple" | .lst _ => "list" | .dic => "dict"
theorem Same.new {H : Hp} {p : Addr} {o : HO} (h : H p = none) : Same H (upd H p o) := fun b u e => by
  rw [upd_ne (ne_of_none e h)]
  exact e
/-- an object that H does not know may change -/
theorem Same.mut {H H' : Hp} {p : Addr} {o : HO} (e : Same H H') (h : H p = none) : Same H (upd H' p o) := fun a u ha => by
  rw [upd_ne (ne_of_none ha h)]
  exact e a u ha
/-! ### a def that keeps a promise -/
structure Df (P : Program) (w : World) (K : PySem.W.Frag) (mg : Str → Option Value) (base : Heap) (CX : CXT) (k : Nat) (x : Str) (ps : List Str) (sp : Sp) : Prop where
  ex : ∃ (f : Addr) (fd : FuncData), FnOk P w K mg base CX k f fd ps sp ∧ mg x = some (.ref f) ∧ PySem.W.keepIn K (.ref f) = true ∧ Binds K fd ps [] ∧ ∃ oc od osl, K.lookup f = some ⟨oc, od, .func fd, osl⟩
/-- a def as the top leaves it -/
structure Fd (K : PySem.W.Frag) (mg : Str → Option Value) (x : Str) (st : Stmt) : Prop where
  ex : ∃ (f : Addr) (fd : FuncData), FunD K x x (defArgs st) (defBody st) (defScope st) [] [] f fd ∧ mg x = some (.ref f)
section
variable {P : Program} {w : World} {K : PySem.W.Frag} {mg : Str → Option Value} {base : Heap} {CX : CXT} {k : Nat} {x : Str} {ps N : List Str} {sp : Sp} {st : Stmt}
theorem Df.mk' (F : Fd K mg x st) (S : FnScope N ps (defScope st))
    (hb : ∀ (kV doc pm : Value) (an : Option Addr) (cdv ct : Value) (us : List Value), us.length = ps.length → bindArgs (PySem.W.fnOf x x (defArgs st) (defBody st) (defScope st) .none kV doc pm an cdv ct) ⟨us, []⟩ = pure (ps.zip us))
    (len : ∀ vs H Q E, sp vs H Q E → vs.length = ps.length)
    (hbody : ∀ (f : Addr) (cdv : Value) (A : Around) (outer : List Env) (s : Shared) (H : Hp) (vs : List V) (Q : VK) (E : XK), Room k (A.deeper (envOfC x (defScope st) s.heap.objs.size f cdv)) → sp vs H Q E →
      ∃ t, PSs (cxOf CX P w K mg base N x (defScope st) f cdv A outer s H E) (defBody st) t ∧ t { nx := fun _ H' => Q .non H', rt := Q } (start N vs) H) : Df P w K mg base CX (k + 1) x ps sp := by
  obtain ⟨f, fd, F1, gm⟩ := F.ex
  exact ⟨f, fd, F1.ok S len (hbody f), gm, F1.kp, F1.bindsN hb, let ⟨oc, od, _, _, _, _, _, _, _, osl, _, lk, _⟩ := F1.ex; ⟨oc, od, osl, lk⟩⟩
theorem Df.mono {j : Nat} (D : Df P w K mg base CX j x ps sp) (h : j ≤ k) : Df P w K mg base CX k x ps sp := by
  obtain ⟨f, fd, F1, gm, kp, b⟩ := D.ex
  exact ⟨f, fd, F1.mono h, gm, kp, b⟩
end
section
variable {X : Cx} {CX : CXT} {k : Nat} {ps : List Str} {sp : Sp} {E : XK} {x : Str} {p pos : Pos} {e : Expr} {es : List Expr} {t : TA}
theorem pe_df (D : Df X.prog X.w X.K X.mg X.base CX k x ps sp) (hr : Room k X.A) (hg : Gl X x) (hx : Passes CX X E) (ha : PA X (e :: es) t) (hdb : (x == ("__debug__" : Str)) = false := by decide)
    (he : starEach (e :: es) X.env = (false, eval e X.env) :: starEach es X.env := by rfl) (hpl : (backTo pos (starEach es X.env)).any (·.1) = false := by rfl) : PE X (.Call (.Name x p) (e :: es) [] pos) (tCall sp [] E t) := by
  obtain ⟨f, fd, F, gm, kp, b, _⟩ := D.ex
  exact pe_call F hr hg gm kp b .nil hx ha hdb he hpl
theorem pe_dfS {ES : L2.St → XK} (D : Df X.prog X.w X.K X.mg X.base CX k x ps sp) (hr : Room k X.A) (hg : Gl X x) (hx : ∀ σ, PassesAt CX X σ (ES σ)) (ha : PA X (e :: es) t) (hdb : (x == ("__debug__" : Str)) = false := by decide)
    (he : starEach (e :: es) X.env = (false, eval e X.env) :: starEach es X.env := by rfl) (hpl : (backTo pos (starEach es X.env)).any (·.1) = false := by rfl) : PE X (.Call (.Name x p) (e :: es) [] pos) (tCallS sp ES t) := by
  obtain ⟨f, fd, F, gm, kp, b, _⟩ := D.ex
  exact pe_callS F hr hg gm kp b hx ha hdb he hpl
/-- a built-in class as an argument -/
theorem pe_cls {n : String} {q : Str} {pos : Pos} (hg : Gl X q) (hm : X.mg q = none) (hv : bootBuiltins q = some (.type n)) (hq : q ≠ "__name__" := by decide) (hd : (q == ("__debug__" : Str)) = false := by decide) : PE X (.Name q pos) (tC (.ty n)) :=
  pe_bltn hg hm hv rfl hq hd
end
end My
namespace My
open PySem PySem.Spec PyProof.Rows L2
def top (i : Nat) : Stmt := PySem.Challenge.pw_meankept_k60_texts_of_rows_and_renamings.main.body.getD i (.Pass ⟨0, 0, 0, 0⟩)
abbrev s_is_whole : Stmt := top 7
theorem sc_is_whole : FnScope ["value"] ["value"] (defScope s_is_whole) := ⟨rfl, rfl, rfl, by decide +kernel, rfl, by decide +kernel, by decide +kernel⟩
abbrev s_is_between : Stmt := top 8
theorem sc_is_between : FnScope ["value", "low", "high"] ["value", "low", "high"] (defScope s_is_between) := ⟨rfl, rfl, rfl, by decide +kernel, rfl, by decide +kernel, by decide +kernel⟩
abbrev s_need_deeds : Stmt := top 12
theorem sc_need_deeds : FnScope ["deeds"] ["deeds"] (defScope s_need_deeds) := ⟨rfl, rfl, rfl, by decide +kernel, rfl, by decide +kernel, by decide +kernel⟩
abbrev s_fits_letter : Stmt := top 13
theorem sc_fits_letter : FnScope ["deeds", "value"] ["deeds", "value"] (defScope s_fits_letter) := ⟨rfl, rfl, rfl, by decide +kernel, rfl, by decide +kernel, by decide +kernel⟩
abbrev s_fits_row : Stmt := top 14
theorem sc_fits_row : FnScope ["deeds", "value", "letter"] ["deeds", "value"] (defScope s_fits_row) := ⟨rfl, rfl, rfl, by decide +kernel, rfl, by decide +kernel, by decide +kernel⟩
abbrev s_plain_of : Stmt := top 15
theorem sc_plain_of : FnScope ["letters", "found", "letter"] ["letters"] (defScope s_plain_of) := ⟨rfl, rfl, rfl, by decide +kernel, rfl, by decide +kernel, by decide +kernel⟩
abbrev s_undone_of : Stmt := top 16
theorem sc_undone_of : FnScope ["row", "letter"] ["row"] (defScope s_undone_of) := ⟨rfl, rfl, rfl, by decide +kernel, rfl, by decide +kernel, by decide +kernel⟩
abbrev s_need_row : Stmt := top 17
theorem sc_need_row : FnScope ["deeds", "row"] ["deeds", "row"] (defScope s_need_row) := ⟨rfl, rfl, rfl, by decide +kernel, rfl, by decide +kernel, by decide +kernel⟩
abbrev s_is_plain_row : Stmt := top 19
theorem sc_is_plain_row : FnScope ["deeds", "value", "at", "x"] ["deeds", "value"] (defScope s_is_plain_row) := ⟨rfl, rfl, rfl, by decide +kernel, rfl, by decide +kernel, by decide +kernel⟩
abbrev s_letters_gone : Stmt := top 20
theorem sc_letters_gone : FnScope ["one", "other", "most", "found"] ["one", "other"] (defScope s_letters_gone) := ⟨rfl, rfl, rfl, by decide +kernel, rfl, by decide +kernel, by decide +kernel⟩
abbrev s_both_halves : Stmt := top 21
theorem sc_both_halves : FnScope ["row", "most"] ["row"] (defScope s_both_halves) := ⟨rfl, rfl, rfl, by decide +kernel, rfl, by decide +kernel, by decide +kernel⟩
abbrev s_nearer_image : Stmt := top 22
theorem sc_nearer_image : FnScope ["images", "place", "letter", "ahead", "row", "more", "first", "second", "less", "found"] ["images", "place", "letter", "ahead"] (defScope s_nearer_image) := ⟨rfl, rfl, rfl, by decide +kernel, rfl, by decide +kernel, by decide +kernel⟩
abbrev s_near_step : Stmt := top 23
theorem sc_near_step : FnScope ["images", "place", "other", "letter", "ahead", "found"] ["images"] (defScope s_near_step) := ⟨rfl, rfl, rfl, by decide +kernel, rfl, by decide +kernel, by decide +kernel⟩
abbrev s_steps_down : Stmt := top 24
theorem sc_steps_down : FnScope ["images", "now", "steps", "near"] ["images"] (defScope s_steps_down) := ⟨rfl, rfl, rfl, by decide +kernel, rfl, by decide +kernel, by decide +kernel⟩
abbrev s_is_renaming_in : Stmt := top 25
theorem sc_is_renaming_in : FnScope ["deeds", "value", "last", "row"] ["deeds", "value"] (defScope s_is_renaming_in) := ⟨rfl, rfl, rfl, by decide +kernel, rfl, by decide +kernel, by decide +kernel⟩
abbrev s_is_renaming : Stmt := top 26
theorem sc_is_renaming : FnScope ["deeds", "value"] ["deeds", "value"] (defScope s_is_renaming) := ⟨rfl, rfl, rfl, by decide +kernel, rfl, by decide +kernel, by decide +kernel⟩
abbrev s_sign_of : Stmt := top 30
theorem sc_sign_of : FnScope ["letter"] ["letter"] (defScope s_sign_of) := ⟨rfl, rfl, rfl, by decide +kernel, rfl, by decide +kernel, by decide +kernel⟩
abbrev s_letter_of : Stmt := top 31
theorem sc_letter_of : FnScope ["deeds", "sign"] ["deeds", "sign"] (defScope s_letter_of) := ⟨rfl, rfl, rfl, by decide +kernel, rfl, by decide +kernel, by decide +kernel⟩
abbrev s_text_of : Stmt := top 32
theorem sc_text_of : FnScope ["row", "letter"] ["row"] (defScope s_text_of) := ⟨rfl, rfl, rfl, by decide +kernel, rfl, by decide +kernel, by decide +kernel⟩
abbrev s_letters_at : Stmt := top 33
theorem sc_letters_at : FnScope ["deeds", "text", "start", "found", "sign", "letter"] ["deeds", "text", "start"] (defScope s_letters_at) := ⟨rfl, rfl, rfl, by decide +kernel, rfl, by decide +kernel, by decide +kernel⟩
abbrev s_row_text : Stmt := top 34
theorem sc_row_text : FnScope ["deeds", "row"] ["deeds", "row"] (defScope s_row_text) := ⟨rfl, rfl, rfl, by decide +kernel, rfl, by decide +kernel, by decide +kernel⟩
abbrev s_read_letters : Stmt := top 35
theorem sc_read_letters : FnScope ["deeds", "text", "found"] ["deeds", "text"] (defScope s_read_letters) := ⟨rfl, rfl, rfl, by decide +kernel, rfl, by decide +kernel, by decide +kernel⟩
abbrev s_read_row : Stmt := top 36
theorem sc_read_row : FnScope ["deeds", "text"] ["deeds", "text"] (defScope s_read_row) := ⟨rfl, rfl, rfl, by decide +kernel, rfl, by decide +kernel, by decide +kernel⟩
abbrev s_renaming_text : Stmt := top 37
theorem sc_renaming_text : FnScope ["deeds", "renaming", "at", "image"] ["deeds", "renaming"] (defScope s_renaming_text) := ⟨rfl, rfl, rfl, by decide +kernel, rfl, by decide +kernel, by decide +kernel⟩
abbrev s_behind_head : Stmt := top 38
theorem sc_behind_head : FnScope ["text", "start", "head", "at", "sign"] ["text", "start", "head"] (defScope s_behind_head) := ⟨rfl, rfl, rfl, by decide +kernel, rfl, by decide +kernel, by decide +kernel⟩
abbrev s_read_renaming : Stmt := top 39
theorem sc_read_renaming : FnScope ["deeds", "text", "found", "at", "deed", "letters"] ["deeds", "text"] (defScope s_read_renaming) := ⟨rfl, rfl, rfl, by decide +kernel, rfl, by decide +kernel, by decide +kernel⟩
abbrev s_l_begun : Stmt := top 41
theorem sc_l_begun : FnScope ["_law_script", "_law_great", "_law_cell"] ["_law_script"] (defScope s_l_begun) := ⟨rfl, rfl, rfl, by decide +kernel, rfl, by decide +kernel, by decide +kernel⟩
abbrev s_l_blended : Stmt := top 42
theorem sc_l_blended : FnScope ["_law_state", "_law_turn", "_law_found", "_law_prime", "_law_blend", "_law_cell"] ["_law_state"] (defScope s_l_blended) := ⟨rfl, rfl, rfl, by decide +kernel, rfl, by decide +kernel, by decide +kernel⟩
abbrev s_l_draw : Stmt := top 43
theorem sc_l_draw : FnScope ["_law_state", "_law_room", "_law_found"] ["_law_state", "_law_room"] (defScope s_l_draw) := ⟨rfl, rfl, rfl, by decide +kernel, rfl, by decide +kernel, by decide +kernel⟩
abbrev s_l_pick : Stmt := top 44
theorem sc_l_pick : FnScope ["_law_state", "_law_some"] ["_law_state", "_law_some"] (defScope s_l_pick) := ⟨rfl, rfl, rfl, by decide +kernel, rfl, by decide +kernel, by decide +kernel⟩
abbrev s_l_caught : Stmt := top 45
theorem sc_l_caught : FnScope ["_law_action", "_law_found", "error"] ["_law_action"] (defScope s_l_caught) := ⟨rfl, rfl, rfl, by decide +kernel, rfl, by decide +kernel, by decide +kernel⟩
abbrev s_l_mk_plain : Stmt := top 46
theorem sc_l_mk_plain : FnScope ["_law_letters", "_law_found", "_law_letter"] ["_law_letters"] (defScope s_l_mk_plain) := ⟨rfl, rfl, rfl, by decide +kernel, rfl, by decide +kernel, by decide +kernel⟩
abbrev s_l_mk_undone : Stmt := top 47
theorem sc_l_mk_undone : FnScope ["_law_row", "_law_letter"] ["_law_row"] (defScope s_l_mk_undone) := ⟨rfl, rfl, rfl, by decide +kernel, rfl, by decide +kernel, by decide +kernel⟩
abbrev s_l_mk_letters : Stmt := top 48
theorem sc_l_mk_letters : FnScope ["_law_deeds", "_law_deed"] ["_law_deeds"] (defScope s_l_mk_letters) := ⟨rfl, rfl, rfl, by decide +kernel, rfl, by decide +kernel, by decide +kernel⟩
abbrev s_l_mk_row : Stmt := top 49
theorem sc_l_mk_row : FnScope ["_law_state", "_law_deeds", "_law_least", "_law_most", "_law_found", "_law_lap", "_law_some", "_law_letter"] ["_law_state", "_law_deeds", "_law_least", "_law_most"] (defScope s_l_mk_row) := ⟨rfl, rfl, rfl, by decide +kernel, rfl, by decide +kernel, by decide +kernel⟩
abbrev s_l_mk_raw : Stmt := top 50
theorem sc_l_mk_raw : FnScope ["_law_state", "_law_deeds", "_law_row", "_law_found", "_law_lap", "_law_at", "_law_letter"] ["_law_state", "_law_deeds", "_law_row"] (defScope s_l_mk_raw) := ⟨rfl, rfl, rfl, by decide +kernel, rfl, by decide +kernel, by decide +kernel⟩
abbrev s_l_mk_renamed : Stmt := top 51
theorem sc_l_mk_renamed : FnScope ["_law_images", "_law_row", "_law_found", "_law_letter"] ["_law_images", "_law_row"] (defScope s_l_mk_renamed) := ⟨rfl, rfl, rfl, by decide +kernel, rfl, by decide +kernel, by decide +kernel⟩
abbrev s_l_mk_renaming : Stmt := top 52
theorem sc_l_mk_renaming : FnScope ["_law_state", "_law_deeds", "_law_steps", "_law_images", "_law_back", "_law_lap", "_law_way", "_law_one", "_law_other", "_law_step", "_law_sign", "_law_less", "_law_deed", "_law_image"] ["_law_state", "_law_deeds", "_law_steps"] (defScope s_l_mk_renaming) := ⟨rfl, rfl, rfl, by decide +kernel, rfl, by decide +kernel, by decide +kernel⟩
abbrev s_l_mk_bad_deeds : Stmt := top 53
theorem sc_l_mk_bad_deeds : FnScope ["_law_state"] ["_law_state"] (defScope s_l_mk_bad_deeds) := ⟨rfl, rfl, rfl, by decide +kernel, rfl, by decide +kernel, by decide +kernel⟩
abbrev s_l_mk_bad_row : Stmt := top 54
theorem sc_l_mk_bad_row : FnScope ["_law_state", "_law_deeds", "_law_some"] ["_law_state", "_law_deeds"] (defScope s_l_mk_bad_row) := ⟨rfl, rfl, rfl, by decide +kernel, rfl, by decide +kernel, by decide +kernel⟩
abbrev s_l_mr_whole : Stmt := top 55
theorem sc_l_mr_whole : FnScope ["_law_thing"] ["_law_thing"] (defScope s_l_mr_whole) := ⟨rfl, rfl, rfl, by decide +kernel, rfl, by decide +kernel, by decide +kernel⟩
abbrev s_l_mr_same : Stmt := top 56
theorem sc_l_mr_same : FnScope ["_law_found", "_law_due", "_law_item"] ["_law_found", "_law_due"] (defScope s_l_mr_same) := ⟨rfl, rfl, rfl, by decide +kernel, rfl, by decide +kernel, by decide +kernel⟩
abbrev s_l_mr_times : Stmt := top 57
theorem sc_l_mr_times : FnScope ["_law_row", "_law_many", "_law_one"] ["_law_row", "_law_many"] (defScope s_l_mr_times) := ⟨rfl, rfl, rfl, by decide +kernel, rfl, by decide +kernel, by decide +kernel⟩
abbrev s_l_mr_turned : Stmt := top 58
theorem sc_l_mr_turned : FnScope ["_law_row", "_law_by"] ["_law_row", "_law_by"] (defScope s_l_mr_turned) := ⟨rfl, rfl, rfl, by decide +kernel, rfl, by decide +kernel, by decide +kernel⟩
abbrev s_l_mr_row : Stmt := top 59
theorem sc_l_mr_row : FnScope ["_law_state", "_law_deeds", "_law_way", "_law_found"] ["_law_state", "_law_deeds"] (defScope s_l_mr_row) := ⟨rfl, rfl, rfl, by decide +kernel, rfl, by decide +kernel, by decide +kernel⟩
abbrev s_l_mr_text : Stmt := top 60
theorem sc_l_mr_text : FnScope ["_law_row", "_law_signs", "_law_letter"] ["_law_row"] (defScope s_l_mr_text) := ⟨rfl, rfl, rfl, by decide +kernel, rfl, by decide +kernel, by decide +kernel⟩
abbrev s_l_mr_images_text : Stmt := top 61
theorem sc_l_mr_images_text : FnScope ["_law_images", "_law_at", "_law_image"] ["_law_images"] (defScope s_l_mr_images_text) := ⟨rfl, rfl, rfl, by decide +kernel, rfl, by decide +kernel, by decide +kernel⟩
abbrev s_l_mr_letter : Stmt := top 62
theorem sc_l_mr_letter : FnScope ["_law_deeds", "_law_sign", "_law_deed"] ["_law_deeds", "_law_sign"] (defScope s_l_mr_letter) := ⟨rfl, rfl, rfl, by decide +kernel, rfl, by decide +kernel, by decide +kernel⟩
abbrev s_l_mr_read_row : Stmt := top 63
theorem sc_l_mr_read_row : FnScope ["_law_deeds", "_law_text", "_law_found", "_law_sign", "_law_letter"] ["_law_deeds", "_law_text"] (defScope s_l_mr_read_row) := ⟨rfl, rfl, rfl, by decide +kernel, rfl, by decide +kernel, by decide +kernel⟩
abbrev s_l_mr_read_images : Stmt := top 64
theorem sc_l_mr_read_images : FnScope ["_law_deeds", "_law_text", "_law_found", "_law_want", "_law_at", "_law_sign", "_law_image"] ["_law_deeds", "_law_text"] (defScope s_l_mr_read_images) := ⟨rfl, rfl, rfl, by decide +kernel, rfl, by decide +kernel, by decide +kernel⟩
abbrev s_l_mr_near_text : Stmt := top 65
theorem sc_l_mr_near_text : FnScope ["_law_state", "_law_text", "_law_found", "_law_lap", "_law_at", "_law_sign", "_law_way", "_law_cut"] ["_law_state", "_law_text"] (defScope s_l_mr_near_text) := ⟨rfl, rfl, rfl, by decide +kernel, rfl, by decide +kernel, by decide +kernel⟩
abbrev s_l_mr_row_texts : Stmt := top 66
theorem sc_l_mr_row_texts : FnScope ["_law_state", "_law_deeds", "_law_row", "_law_text", "_law_due", "_law_found", "_law_near"] ["_law_state", "_law_deeds"] (defScope s_l_mr_row_texts) := ⟨rfl, rfl, rfl, by decide +kernel, rfl, by decide +kernel, by decide +kernel⟩
abbrev s_l_mr_renaming_texts : Stmt := top 67
theorem sc_l_mr_renaming_texts : FnScope ["_law_state", "_law_deeds", "_law_images", "_law_text", "_law_back", "_law_raw", "_law_due", "_law_found", "_law_rows", "_law_flat", "_law_near", "_law_image"] ["_law_state", "_law_deeds"] (defScope s_l_mr_renaming_texts) := ⟨rfl, rfl, rfl, by decide +kernel, rfl, by decide +kernel, by decide +kernel⟩
abbrev s_law : Stmt := top 68
theorem sc_law : FnScope ["_law_script", "_law_state", "_law_turn", "_law_some", "_law_found", "_law_bad", "_law_deeds", "_law_odd", "_law_wrong"] ["_law_script"] (defScope s_law) := ⟨rfl, rfl, rfl, by decide +kernel, rfl, by decide +kernel, by decide +kernel⟩
end My
namespace My
open PySem PySem.Spec PyProof.Rows L2
/-- the built-ins that the text names are the built-in ones -/
structure Bt (mg : Str → Option Value) : Prop where
  isinstance : mg "isinstance" = none
  int : mg "int" = none
  bool : mg "bool" = none
  str : mg "str" = none
  tuple : mg "tuple" = none
  list : mg "list" = none
  len : mg "len" = none
  all : mg "all" = none
  abs : mg "abs" = none
  range : mg "range" = none
  min : mg "min" = none
  sorted : mg "sorted" = none
  reversed : mg "reversed" = none
  enumerate : mg "enumerate" = none
section
variable {P : Program} {w : World} {K : PySem.W.Frag} {mg : Str → Option Value} {base : Heap}
def wholeD : Dt → Bool
  | .int _ => true
  | _ => false
def betweenD (d : Dt) (lo hi : Int) : Bool := match d with
  | .int i => decide (lo ≤ i) && decide (i ≤ hi)
  | _ => false
/-- what isinstance(v, T) answers for the data d -/
theorem DV.tyx {H : Hp} {v : V} {d : Dt} (h : DV H v d) : TyX K H v (.type d.cls) := by
  cases h with
  | non => exact .base .non
  | bl b => exact .base (.bl b)
  | int i => exact .base (.int i)
  | str x => exact .base (.str x)
  | tup h _ => exact .base (.tup h)
  | lst h _ => exact .base (.lst h)
  | dic h => exact .base (.dK h)
@[irreducible] def rIs (K : PySem.W.Frag) : List V → Hp → VK → Prop := rIsi K
theorem call_is {X : Cx} : CallR X (.builtin "isinstance") (rIs X.K) := by
  unfold rIs
  exact call_isi
theorem isi_dv {H : Hp} {v : V} {d : Dt} {n : String} {b : Bool} {Q : VK} (h : DV H v d) (e : kitB d.cls n = some b) (q : Q (.bl b) H) : rIs K [v, .ty n] H Q := by
  unfold rIs
  exact ⟨v, .ty n, _, _, b, rfl, .ty n, h.tyx, kit_ty e, q⟩
theorem kit_int (d : Dt) : kitB d.cls "int" = some (match d with | .int _ => true | .bl _ => true | _ => false) := match d with
  | .non => (by decide +kernel : kitB "NoneType" "int" = some false)
  | .bl _ => (by decide +kernel : kitB "bool" "int" = some true)
  | .int _ => (by decide +kernel : kitB "int" "int" = some true)
  | .str _ => (by decide +kernel : kitB "str" "int" = some false)
  | .tup _ => (by decide +kernel : kitB "tuple" "int" = some false)
  | .lst _ => (by decide +kernel : kitB "list" "int" = some false)
  | .dic => (by decide +kernel : kitB "dict" "int" = some false)
theorem kit_bool (d : Dt) : kitB d.cls "bool" = some (match d with | .bl _ => true | _ => false) := match d with
  | .non => (by decide +kernel : kitB "NoneType" "bool" = some false)
  | .bl _ => (by decide +kernel : kitB "bool" "bool" = some true)
  | .int _ => (by decide +kernel : kitB "int" "bool" = some false)
  | .str _ => (by decide +kernel : kitB "str" "bool" = some false)
  | .tup _ => (by decide +kernel : kitB "tuple" "bool" = some false)
  | .lst _ => (by decide +kernel : kitB "list" "bool" = some false)
  | .dic => (by decide +kernel : kitB "dict" "bool" = some false)
theorem kit_tuple (d : Dt) : kitB d.cls "tuple" = some (match d with | .tup _ => true | _ => false) := match d with
  | .non => (by decide +kernel : kitB "NoneType" "tuple" = some false)
  | .bl _ => (by decide +kernel : kitB "bool" "tuple" = some false)
  | .int _ => (by decide +kernel : kitB "int" "tuple" = some false)
  | .str _ => (by decide +kernel : kitB "str" "tuple" = some false)
  | .tup _ => (by decide +kernel : kitB "tuple" "tuple" = some true)
  | .lst _ => (by decide +kernel : kitB "list" "tuple" = some false)
  | .dic => (by decide +kernel : kitB "dict" "tuple" = some false)
theorem kit_str (d : Dt) : kitB d.cls "str" = some (match d with | .str _ => true | _ => false) := match d with
  | .non => (by decide +kernel : kitB "NoneType" "str" = some false)
  | .bl _ => (by decide +kernel : kitB "bool" "str" = some false)
  | .int _ => (by decide +kernel : kitB "int" "str" = some false)
  | .str _ => (by decide +kernel : kitB "str" "str" = some true)
  | .tup _ => (by decide +kernel : kitB "tuple" "str" = some false)
  | .lst _ => (by decide +kernel : kitB "list" "str" = some false)
  | .dic => (by decide +kernel : kitB "dict" "str" = some false)
@[irreducible] def spWhole : Sp := fun vs H Q _ => ∃ (v : V) (d : Dt), vs = [v] ∧ DV H v d ∧ Q (.bl (wholeD d)) H
theorem spWhole_i {H : Hp} {v : V} {d : Dt} {Q : VK} {E : XK} (h : DV H v d) (q : Q (.bl (wholeD d)) H) : spWhole [v] H Q E := by
  unfold spWhole
  exact ⟨v, d, rfl, h, q⟩
theorem ok_is_whole (B : Bt mg) (F : Fd K mg "is_whole" s_is_whole) : Df P w K mg base CX0 1 "is_whole" ["value"] spWhole := by
  refine .mk' F sc_is_whole (fun _ _ _ _ _ _ us hl => match us, hl with | [_], _ => rfl) (fun vs H Q E h => ?_) (fun f cdv A outer s H vs Q E hr h => ?_)
  · unfold spWhole at h
    obtain ⟨v, d, rfl, _⟩ := h
    rfl
  · unfold spWhole at h
    obtain ⟨v, d, rfl, hv, q⟩ := h
    refine ⟨_, PSs.nox (pss_one (ps_ret (pe_and (pe_callB call_is (by rfl) B.isinstance boot_isinstance (pa_cons (pv 0) (pa_cons (pe_cls rfl B.int boot_int) pa_nil)))
      (pe_one (pe_not (pe_callB call_is (by rfl) B.isinstance boot_isinstance (pa_cons (pv 0) (pa_cons (pe_cls (n := "bool") rfl B.bool (by decide +kernel)) pa_nil)))))))), ?_⟩
    refine ⟨_, rfl, isi_dv hv (kit_int d) ⟨_, rfl, ?_⟩⟩
    cases d with
    | int i => exact iteT ⟨_, rfl, isi_dv hv (kit_bool _) ⟨_, rfl, q⟩⟩
    | bl b => exact iteT ⟨_, rfl, isi_dv hv (kit_bool _) ⟨_, rfl, q⟩⟩
    | _ => exact iteF q
/-! ### is_between -/
@[irreducible] def spBetween : Sp := fun vs H Q _ => ∃ (v : V) (d : Dt) (lo hi : Int), vs = [v, .int lo, .int hi] ∧ DV H v d ∧ Q (.bl (betweenD d lo hi)) H
theorem spBetween_i {H : Hp} {v : V} {d : Dt} {lo hi : Int} {Q : VK} {E : XK} (h : DV H v d) (q : Q (.bl (betweenD d lo hi)) H) : spBetween [v, .int lo, .int hi] H Q E := by
  unfold spBetween
  exact ⟨v, d, lo, hi, rfl, h, q⟩
theorem ok_is_between (F : Fd K mg "is_between" s_is_between) (D1 : Df P w K mg base CX0 1 "is_whole" ["value"] spWhole) : Df P w K mg base CX0 2 "is_between" ["value", "low", "high"] spBetween := by
  refine .mk' F sc_is_between (fun _ _ _ _ _ _ us hl => match us, hl with | [_, _, _], _ => rfl) (fun vs H Q E h => ?_) (fun f cdv A outer s H vs Q E hr h => ?_)
  · unfold spBetween at h
    obtain ⟨v, d, lo, hi, rfl, _⟩ := h
    rfl
  · unfold spBetween at h
    obtain ⟨v, d, lo, hi, rfl, hv, q⟩ := h
    refine ⟨_, PSs.nox (pss_one (ps_ret (pe_and (pe_df D1 hr rfl pass0 (pa_cons (pv 0) pa_nil)) (pe_one (pe_chain op_le op_le (pv 1) (pv 0) (pv 2)))))), ?_⟩
    refine ⟨_, rfl, spWhole_i hv ⟨_, rfl, ?_⟩⟩
    cases hv with
    | int i =>
      refine iteT ⟨_, rfl, _, rfl, _, _, rfl, rfl, _, rfl, ?_⟩
      show if decide (lo ≤ i) = true then _ else _
      have e : betweenD (.int i) lo hi = (decide (lo ≤ i) && decide (i ≤ hi)) := rfl
      rw [e] at q
      cases h1 : decide (lo ≤ i) with
      | true =>
        rw [h1] at q
        exact iteT ⟨_, rfl, _, _, rfl, rfl, q⟩
      | false =>
        rw [h1] at q
        exact iteF q
    | _ => exact iteF q
/-! ### need_deeds -/
@[irreducible] def spDeeds (C : Addr) : Sp := fun vs H Q E => ∃ (v : V) (d : Dt), vs = [v] ∧ DV H v d ∧ (betweenD d 1 4 = true → Q .non H) ∧ (betweenD d 1 4 = false → E (.ref C) none H)
theorem spDeeds_i {C : Addr} {H : Hp} {v : V} {d : Dt} {Q : VK} {E : XK} (h : DV H v d) (q : betweenD d 1 4 = true → Q .non H) (r : betweenD d 1 4 = false → E (.ref C) none H) : spDeeds C [v] H Q E := by
  unfold spDeeds
  exact ⟨v, d, rfl, h, q, r⟩
/-- an own error class without a field -/
structure Er (K : PySem.W.Frag) (mg : Str → Option Value) (x : Str) (C : Addr) : Prop where
  g : mg x = some (.ref C)
  x : PySem.W.excIn K C [.type "ValueError", .type "Exception", .type "BaseException", .type "object"] "ValueError.__new__" = true
  k : PySem.W.keepIn K (.ref C) = true
  b : PySem.W.subIn K (.ref C) (.type "BaseException") = some true
  t : PySem.W.typeIn K (.ref C) = some (.type "type")
theorem ok_need_deeds {C : Addr} (EC : Er K mg "BadDeeds" C) (gN : ∃ t, mg "MOST_DEEDS" = some (.int 4 t)) (F : Fd K mg "need_deeds" s_need_deeds) (D1 : Df P w K mg base CX0 2 "is_between" ["value", "low", "high"] spBetween) :
    Df P w K mg base (L2.CX P w) 3 "need_deeds" ["deeds"] (spDeeds C) := by
  obtain ⟨tN, gN⟩ := gN
  refine .mk' F sc_need_deeds (fun _ _ _ _ _ _ us hl => match us, hl with | [_], _ => rfl) (fun vs H Q E h => ?_) (fun f cdv A outer s H vs Q E hr h => ?_)
  · unfold spDeeds at h
    obtain ⟨v, d, rfl, _⟩ := h
    rfl
  · unfold spDeeds at h
    obtain ⟨v, d, rfl, hv, q1, q2⟩ := h
    refine ⟨_, pss_one (ps_if (pt_not (pt_val (pe_df D1 hr rfl pass0 (pa_cons (pv 0) (pa_cons pe_int (pa_cons (pe_glob (v := .int 4) rfl gN ⟨_, rfl⟩) pa_nil))))))
      (pss_one (ps_raise rfl (takes_of rfl rfl rfl rfl) (pmk_own PySem.F.excBase_ValueError EC.x EC.g EC.k (raises_own EC.b EC.t) rfl))) pss_nil), ?_⟩
    refine ⟨_, rfl, spBetween_i hv ⟨_, rfl, ?_⟩⟩
    cases e : betweenD d 1 4 with
    | true => exact iteF (q1 e)
    | false => exact iteT (q2 e)
end
end My
namespace My
open PySem PySem.Spec PyProof.Rows L2
/-! ### what is walked: n items, the i-th is Xv i, as long as what is tracked in H1 stays -/
structure Wk (J : It) (H1 : Hp) (n : Nat) (Xv : Nat → V) : Prop where
  go : ∀ i H, Same H1 H → i < n → J.go i H
  stop : ∀ i H, Same H1 H → n ≤ i → J.stop i H
  yld : ∀ i H x H', Same H1 H → i < n → J.yld i H x H' → H' = H ∧ x = Xv i
theorem SqT.same {K : PySem.W.Frag} {H H' : Hp} {a : Addr} {xs : List V} (e : Same H H') (h : SqT K H a xs) : SqT K H' a xs := by
  rcases h with (h | ⟨o, h⟩) | h
  · exact .inl (.inl (e _ _ h))
  · exact .inl (.inr ⟨o, e _ _ h⟩)
  · exact .inr h
section
variable {K : PySem.W.Frag} {H1 : Hp} {a : Addr} {xs : List V}
theorem wk_list (h : SqL K H1 a xs) : Wk (Itl K a) H1 xs.length (fun i => xs.getD i .non) where
  go := fun i H e hi => ⟨xs, xs[i], e.seq h, by simp [hi]⟩
  stop := fun i H e hi => ⟨xs, e.seq h, hi⟩
  yld := fun i H x H' e hi y => by
    obtain ⟨e1, y⟩ := y
    have q := y xs (e.seq h)
    exact ⟨e1, by rw [List.getD_eq_getElem?_getD, q]; rfl⟩
theorem wk_tup (h : SqT K H1 a xs) : Wk (Itt K a) H1 xs.length (fun i => xs.getD i .non) where
  go := fun i H e hi => ⟨xs, xs[i], SqT.same e h, by simp [hi]⟩
  stop := fun i H e hi => ⟨xs, SqT.same e h, hi⟩
  yld := fun i H x H' e hi y => by
    obtain ⟨e1, y⟩ := y
    have q := y xs (SqT.same e h)
    exact ⟨e1, by rw [List.getD_eq_getElem?_getD, q]; rfl⟩
theorem wk_range {lo : Int} {n : Nat} : Wk (Itr lo n) H1 n (fun i => .int (lo + i)) where
  go := fun i H _ hi => hi
  stop := fun i H _ hi => hi
  yld := fun i H x H' _ hi y => y
theorem rev_at {n i : Nat} (hn : xs.length = n) (hi : i < n) : xs[n - 1 - i]? = some (xs.reverse.getD i .non) := by
  have h1 : i < xs.reverse.length := by rw [List.length_reverse]; omega
  rw [List.getD_eq_getElem?_getD, List.getElem?_reverse (by omega)]
  have h2 : xs.length - 1 - i < xs.length := by omega
  rw [hn, List.getElem?_eq_getElem (by omega)]
  rfl
theorem wk_revT (h : SqT K H1 a xs) : Wk (RT.ItvT K a xs.length) H1 xs.length (fun i => xs.reverse.getD i .non) where
  go := fun i H e hi => ⟨hi, xs, _, SqT.same e h, rev_at rfl hi⟩
  stop := fun i H e hi => hi
  yld := fun i H x H' e hi y => by
    obtain ⟨e1, y⟩ := y
    have q := y xs (SqT.same e h)
    rw [rev_at rfl hi] at q
    exact ⟨e1, (Option.some.inj q).symm⟩
theorem wk_revL (h : SqL K H1 a xs) : Wk (Itv K a xs.length) H1 xs.length (fun i => xs.reverse.getD i .non) where
  go := fun i H e hi => ⟨hi, xs, _, e.seq h, rev_at rfl hi⟩
  stop := fun i H e hi => hi
  yld := fun i H x H' e hi y => by
    obtain ⟨e1, y⟩ := y
    have q := y xs (e.seq h)
    rw [rev_at rfl hi] at q
    exact ⟨e1, (Option.some.inj q).symm⟩
end
/-- the tuples stay -/
def Tst (H H' : Hp) : Prop := ∀ b xs, H b = some (.tup xs) → H' b = some (.tup xs)
theorem Tst.refl (H : Hp) : Tst H H := fun _ _ h => h
theorem Tst.trans {H H1 H2 : Hp} (a : Tst H H1) (b : Tst H1 H2) : Tst H H2 := fun c o h => b c o (a c o h)
theorem Tst.of {H H' : Hp} (e : Same H H') : Tst H H' := fun b xs h => e b _ h
theorem Tst.upd {H H' : Hp} {p : Addr} {o u : HO} (e : Tst H H') (h : H' p = some u) (hu : ∀ xs, u ≠ .tup xs) : Tst H (L2.upd H' p o) := fun b xs q => by
  have q' := e b xs q
  rw [upd_ne (fun z => by rw [z, h] at q'; exact hu xs (Option.some.inj q'))]
  exact q'
theorem Row.tst {H H' : Hp} {v : V} {xs : List Int} (e : Tst H H') (h : Row H v xs) : Row H' v xs := by
  obtain ⟨a, rfl, h⟩ := h
  exact ⟨a, rfl, e _ _ h⟩
/-- the indices that are kept -/
def sel (keep : Nat → Bool) (n : Nat) : List Nat := (List.range n).filter keep
theorem sel_all (n : Nat) : sel (fun _ => true) n = List.range n := by
  unfold sel
  exact List.filter_eq_self.mpr fun _ _ => rfl
theorem sel_yes {keep : Nat → Bool} {n : Nat} (h : keep n = true) : sel keep (n + 1) = sel keep n ++ [n] := by
  unfold sel
  rw [List.range_succ, List.filter_append, List.filter_cons, if_pos h]
  rfl
theorem sel_no {keep : Nat → Bool} {n : Nat} (h : keep n = false) : sel keep (n + 1) = sel keep n := by
  unfold sel
  rw [List.range_succ, List.filter_append, List.filter_cons, if_neg (by rw [h]; decide)]
  exact List.append_nil _
theorem sel_len (keep : Nat → Bool) (n : Nat) : (sel keep n).length ≤ n := by
  have h := List.length_filter_le keep (List.range n)
  rw [List.length_range] at h
  exact h
/-- a comprehension with a test: what it makes -/
theorem lc_sel {J : It} {H1 : Hp} {D : Addr} {n j : Nat} {Xv : Nat → V} {tt : TT} {te : TE} {vs : List Nat} {σ : L2.St} {Qd : Hp → Prop} (keep : Nat → Bool) (R : Nat → V → Hp → Prop) (hJ : Wk J H1 n Xv) (hD : H1 D = none) (hn : n < sizeLine)
    (hw : ∀ x, wipe ((wipe σ vs).set j (some x)) vs = wipe σ vs) (Rs : ∀ i v H H', Tst H H' → R i v H → R i v H')
    (ht : ∀ i H', i < n → Same H1 H' → ∀ Q' : Bool → Hp → Prop, (∀ H'', Same H' H'' → Q' (keep i) H'') → tt ((wipe σ vs).set j (some (Xv i))) H' Q')
    (he : ∀ i H', i < n → keep i = true → Same H1 H' → ∀ Q' : VK, (∀ v H'', Same H' H'' → R i v H'' → Q' v H'') → te ((wipe σ vs).set j (some (Xv i))) H' Q')
    (hd : ∀ (H' : Hp) (ys : List V), Same H1 H' → H' D = some (.lst ys) → ys.length = (sel keep n).length → (∀ (k : Nat) (v : V) (i : Nat), ys[k]? = some v → (sel keep n)[k]? = some i → R i v H') → Qd H') :
    ∃ W : Nat → Nat → Hp → Prop, (∃ m, W 0 m (upd H1 D (.lst []))) ∧ ∀ i m H, W i m H →
      (J.stop i H ∧ Qd H) ∨ (J.go i H ∧ ∃ Nx : Hp → Prop, (∀ H', Nx H' → ∃ m', m' < m ∧ W (i + 1) m' H') ∧ ∀ x H', J.yld i H x H' → gName j x (wipe σ vs) H' fun σ2 H2 => wipe σ2 vs = wipe σ vs ∧ tt σ2 H2 fun b H3 =>
        if b = true then te σ2 H3 fun y H4 => ∃ acc, H4 D = some (.lst acc) ∧ acc.length < sizeLine ∧ Nx (upd H4 D (.lst (acc ++ [y]))) else Nx H3) := by
  refine ⟨fun i m H => m = n - i ∧ i ≤ n ∧ Same H1 H ∧ ∃ ys : List V, H D = some (.lst ys) ∧ ys.length = (sel keep i).length ∧ ∀ (k : Nat) (v : V) (l : Nat), ys[k]? = some v → (sel keep i)[k]? = some l → R l v H, ⟨n, by simp, Nat.zero_le _, Same.new hD, [], upd_same, rfl, fun k v l e => by simp at e⟩, ?_⟩
  rintro i m H ⟨rfl, hi, e1, ys, hys, hl, hR⟩
  by_cases hlt : i < n
  · refine .inr ⟨hJ.go i H e1 hlt, fun H' => Same H1 H' ∧ ∃ ys : List V, H' D = some (.lst ys) ∧ ys.length = (sel keep (i + 1)).length ∧ ∀ (k : Nat) (v : V) (l : Nat), ys[k]? = some v → (sel keep (i + 1))[k]? = some l → R l v H', fun H' p => ⟨n - (i + 1), by omega, rfl, hlt, p⟩, fun x H' y => ?_⟩
    obtain ⟨rfl, rfl⟩ := hJ.yld i H x H' e1 hlt y
    refine ⟨hw _, ht i _ hlt e1 _ fun H3 e3 => ?_⟩
    cases hk : keep i with
    | false =>
      refine iteF ⟨e1.trans e3, ys, e3 _ _ hys, by rw [sel_no hk]; exact hl, fun k v l h1 h2 => ?_⟩
      rw [sel_no hk] at h2
      exact Rs _ _ _ _ (Tst.of e3) (hR k v l h1 h2)
    | true =>
      refine iteT (he i _ hlt hk (e1.trans e3) _ fun v H4 e4 hv => ⟨ys, e4 _ _ (e3 _ _ hys), ?_, Same.mut ((e1.trans e3).trans e4) hD, ys ++ [v], upd_same, ?_, fun k u l h1 h2 => ?_⟩)
      · rw [hl]
        exact Nat.lt_of_le_of_lt (sel_len keep i) (by omega)
      · rw [List.length_append, sel_yes hk, List.length_append, hl]
        rfl
      · have hD4 : H4 D = some (.lst ys) := e4 _ _ (e3 _ _ hys)
        have t4 : Tst H4 (upd H4 D (.lst (ys ++ [v]))) := (Tst.refl H4).upd hD4 fun xs z => by cases z
        have t1 : Tst _ (upd H4 D (.lst (ys ++ [v]))) := ((Tst.of e3).trans (Tst.of e4)).trans t4
        rw [sel_yes hk] at h2
        by_cases hkl : k < ys.length
        · rw [List.getElem?_append_left hkl] at h1
          rw [List.getElem?_append_left (by omega)] at h2
          exact Rs _ _ _ _ t1 (hR k u l h1 h2)
        · rw [List.getElem?_append_right (by omega)] at h1
          rw [List.getElem?_append_right (by omega), ← hl] at h2
          have e0 : k - ys.length = 0 := by
            cases q : k - ys.length with
            | zero => rfl
            | succ m => rw [q] at h1; simp at h1
          rw [e0] at h1 h2
          obtain rfl : v = u := by simpa using h1
          obtain rfl : i = l := by simpa using h2
          exact Rs _ _ _ _ t4 hv
  · have e : i = n := by omega
    subst e
    exact .inl ⟨hJ.stop i H e1 (Nat.le_refl _), hd H ys e1 hys hl hR⟩
/-- all are kept -/
theorem lc_map {J : It} {H1 : Hp} {D : Addr} {n j : Nat} {Xv : Nat → V} {te : TE} {vs : List Nat} {σ : L2.St} {Qd : Hp → Prop} (R : Nat → V → Hp → Prop) (hJ : Wk J H1 n Xv) (hD : H1 D = none) (hn : n < sizeLine)
    (hw : ∀ x, wipe ((wipe σ vs).set j (some x)) vs = wipe σ vs) (Rs : ∀ i v H H', Tst H H' → R i v H → R i v H')
    (he : ∀ i H', i < n → Same H1 H' → ∀ Q' : VK, (∀ v H'', Same H' H'' → R i v H'' → Q' v H'') → te ((wipe σ vs).set j (some (Xv i))) H' Q')
    (hd : ∀ (H' : Hp) (ys : List V), Same H1 H' → H' D = some (.lst ys) → ys.length = n → (∀ (k : Nat) (v : V), ys[k]? = some v → R k v H') → Qd H') :
    ∃ W : Nat → Nat → Hp → Prop, (∃ m, W 0 m (upd H1 D (.lst []))) ∧ ∀ i m H, W i m H →
      (J.stop i H ∧ Qd H) ∨ (J.go i H ∧ ∃ Nx : Hp → Prop, (∀ H', Nx H' → ∃ m', m' < m ∧ W (i + 1) m' H') ∧ ∀ x H', J.yld i H x H' → gName j x (wipe σ vs) H' fun σ2 H2 => wipe σ2 vs = wipe σ vs ∧ tYes σ2 H2 fun b H3 =>
        if b = true then te σ2 H3 fun y H4 => ∃ acc, H4 D = some (.lst acc) ∧ acc.length < sizeLine ∧ Nx (upd H4 D (.lst (acc ++ [y]))) else Nx H3) :=
  lc_sel (tt := tYes) (fun _ => true) R hJ hD hn hw Rs (fun i H' _ _ Q' q => q H' (Same.refl H')) (fun i H' hi _ e => he i H' hi e) fun H' ys e h1 h2 h3 => hd H' ys e h1 (by rw [h2, sel_all, List.length_range]) fun k v hv => by
    have hk : k < n := by
      have q := (List.getElem?_eq_some_iff.mp hv).1
      rw [h2, sel_all, List.length_range] at q
      exact q
    exact h3 k v k hv (by rw [sel_all, List.getElem?_range hk])
/-- ints made by a comprehension -/
theorem iV_of {f : Nat → Int} {n : Nat} {ys : List V} (hl : ys.length = n) (h : ∀ (k : Nat) (v : V), ys[k]? = some v → v = .int (f k)) : ys = iV ((List.range n).map f) := by
  apply List.ext_getElem?
  intro k
  by_cases hk : k < n
  · have h1 : ys[k]? = some (ys[k]'(by omega)) := List.getElem?_eq_getElem (by omega)
    rw [h1, h k _ h1]
    simp [iV, hk]
  · rw [List.getElem?_eq_none (by omega), List.getElem?_eq_none (by simp [iV]; omega)]
end My
namespace My
open PySem PySem.Spec PyProof.Rows L2
/-! ### plain Lean -/
def letterD (n : Int) (d : Dt) : Bool := betweenD d (0 - n) n && (match d with | .int i => !decide (i = 0) | _ => true)
def rowD (n : Int) (d : Dt) : Bool := match d with
  | .tup xs => decide (xs.length ≤ 200) && xs.all (letterD n)
  | _ => false
def plainStep (acc : List Int) (x : Int) : List Int := match acc.getLast? with
  | some y => if y = 0 - x then acc.dropLast else acc ++ [x]
  | none => acc ++ [x]
def plain (xs : List Int) : List Int := xs.foldl plainStep []
def undone (xs : List Int) : List Int := xs.reverse.map fun x => 0 - x
theorem plainStep_len (acc : List Int) (x : Int) : (plainStep acc x).length ≤ acc.length + 1 := by
  unfold plainStep
  split
  · split
    · rw [List.length_dropLast]; omega
    · simp
  · simp
theorem plain_len (xs : List Int) : (plain xs).length ≤ xs.length := by
  have h : ∀ (xs acc : List Int), (xs.foldl plainStep acc).length ≤ acc.length + xs.length := by
    intro xs
    induction xs with
    | nil => intro acc; exact Nat.le_refl _
    | cons x r ih =>
      intro acc
      have h1 := ih (plainStep acc x)
      have h2 := plainStep_len acc x
      simp only [List.foldl_cons, List.length_cons]
      omega
  have := h xs []
  simpa [plain] using this
theorem undone_len (xs : List Int) : (undone xs).length = xs.length := by simp [undone]
section
variable {P : Program} {w : World} {K : PySem.W.Frag} {mg : Str → Option Value} {base : Heap}
/-! ### fits_letter -/
@[irreducible] def spLetter : Sp := fun vs H Q _ => ∃ (n : Int) (v : V) (d : Dt), vs = [.int n, v] ∧ DV H v d ∧ Q (.bl (letterD n d)) H
theorem spLetter_i {H : Hp} {n : Int} {v : V} {d : Dt} {Q : VK} {E : XK} (h : DV H v d) (q : Q (.bl (letterD n d)) H) : spLetter [.int n, v] H Q E := by
  unfold spLetter
  exact ⟨n, v, d, rfl, h, q⟩
theorem decI {i j : Int} : decide (V.int i = V.int j) = decide (i = j) := by
  rw [decide_eq_decide]
  exact ⟨fun e => V.int.inj e, fun e => congrArg _ e⟩
theorem ok_fits_letter (F : Fd K mg "fits_letter" s_fits_letter) (D2 : Df P w K mg base CX0 2 "is_between" ["value", "low", "high"] spBetween) : Df P w K mg base CX0 3 "fits_letter" ["deeds", "value"] spLetter := by
  refine .mk' F sc_fits_letter (fun _ _ _ _ _ _ us hl => match us, hl with | [_, _], _ => rfl) (fun vs H Q E h => ?_) (fun f cdv A outer s H vs Q E hr h => ?_)
  · unfold spLetter at h
    obtain ⟨n, v, d, rfl, _⟩ := h
    rfl
  · unfold spLetter at h
    obtain ⟨n, v, d, rfl, hv, q⟩ := h
    refine ⟨_, PSs.nox (pss_one (ps_ret (pe_and (pe_df D2 hr rfl pass0 (pa_cons (pv 1) (pa_cons (pe_op op_sub pe_int (pv 0)) (pa_cons (pv 0) pa_nil)))) (pe_one (pe_cmpR op_ne (pv 1) pe_int (nomark _)))))), ?_⟩
    refine ⟨_, rfl, _, rfl, _, _, rfl, rfl, _, rfl, spBetween_i hv ⟨_, rfl, ?_⟩⟩
    unfold letterD at q
    cases hv with
    | int i =>
      cases e : betweenD (.int i) (0 - n) n with
      | false =>
        rw [e] at q
        exact iteF q
      | true =>
        rw [e] at q
        refine iteT ⟨_, rfl, rfl, ?_⟩
        show Q (.bl (!decide (V.int i = V.int 0))) H
        rw [decI]
        exact q
    | _ => exact iteF q
/-! ### fits_row -/
@[irreducible] def spFitsRow : Sp := fun vs H Q _ => ∃ (n : Int) (v : V) (d : Dt), vs = [.int n, v] ∧ DV H v d ∧ ∀ H', Same H H' → Q (.bl (rowD n d)) H'
theorem spFitsRow_i {H : Hp} {n : Int} {v : V} {d : Dt} {Q : VK} {E : XK} (h : DV H v d) (q : ∀ H', Same H H' → Q (.bl (rowD n d)) H') : spFitsRow [.int n, v] H Q E := by
  unfold spFitsRow
  exact ⟨n, v, d, rfl, h, q⟩
theorem bls_of {f : Nat → Bool} {n : Nat} {ys : List V} (hl : ys.length = n) (h : ∀ (k : Nat) (v : V), ys[k]? = some v → v = .bl (f k)) : ys = ((List.range n).map f).map V.bl := by
  apply List.ext_getElem?
  intro k
  by_cases hk : k < n
  · have h1 : ys[k]? = some (ys[k]'(by omega)) := List.getElem?_eq_getElem (by omega)
    rw [h1, h k _ h1]
    simp [hk]
  · rw [List.getElem?_eq_none (by omega), List.getElem?_eq_none (by simp; omega)]
theorem all_range {α : Type} (xs : List α) (d : α) (p : α → Bool) : ((List.range xs.length).map fun k => p (xs.getD k d)).all id = xs.all p := by
  have e : ((List.range xs.length).map fun k => p (xs.getD k d)) = xs.map p := by
    apply List.ext_getElem
    · simp
    · intro i h1 h2
      simp
      rw [List.getElem?_eq_getElem (by simpa using h2)]
      rfl
  rw [e]
  simp [List.all_map]
theorem ok_fits_row (B : Bt mg) (gN : ∃ t, mg "MOST_IN_ROW" = some (.int 200 t)) (F : Fd K mg "fits_row" s_fits_row) (D3 : Df P w K mg base CX0 3 "fits_letter" ["deeds", "value"] spLetter) : Df P w K mg base CX0 4 "fits_row" ["deeds", "value"] spFitsRow := by
  obtain ⟨tN, gN⟩ := gN
  refine .mk' F sc_fits_row (fun _ _ _ _ _ _ us hl => match us, hl with | [_, _], _ => rfl) (fun vs H Q E h => ?_) (fun f cdv A outer s H vs Q E hr h => ?_)
  · unfold spFitsRow at h
    obtain ⟨n, v, d, rfl, _⟩ := h
    rfl
  · unfold spFitsRow at h
    obtain ⟨n, v, d, rfl, hv, q⟩ := h
    refine ⟨_, PSs.nox (pss_cons (ps_if (PW.pt (pw_or (pt_not (pt_val (pe_callB call_is (by rfl) B.isinstance boot_isinstance (pa_cons (pv 1) (pa_cons (pe_cls (n := "tuple") rfl B.tuple (by decide +kernel)) pa_nil)))))
        (pw_or1 (pt_cmpR op_gt (pe_callB call_len_seq (by rfl) B.len boot_len (pa_cons (pv 1) pa_nil)) (pe_glob (v := .int 200) rfl gN ⟨_, rfl⟩) (nomark _))))) (pss_one (ps_ret pe_bl)) pss_nil)
      (pss_one (ps_ret (pe_callB (cr_all rfl) (by rfl) B.all (by decide +kernel) (pa_cons (pe_lc (own := [("letter", 2)]) (g := gName 2) rfl sc_fits_row.nd (pi_tup (pv 1)) (blkOk_by (own := [("letter", 2)]) (N := ["deeds", "value", "letter"]) (sc := defScope s_fits_row) (by decide +kernel))
        (fun _ _ _ _ _ => pg_name (i := 2) sc_fits_row.nd rfl (Or.inl rfl)) (fun _ _ _ _ _ => pts_nil) (fun _ _ _ _ _ => pe_df D3 hr rfl pass0 (pa_cons (pv 0) (pa_cons (pv 2) pa_nil)))) pa_nil))))), ?_⟩
    refine ⟨_, rfl, isi_dv hv (kit_tuple d) ⟨_, rfl, ?_⟩⟩
    cases hv with
    | @tup a xs ds h1 h2 =>
      refine iteF ⟨_, rfl, a, xs, rfl, .inr (.inl (.inl h1)), _, _, rfl, rfl, _, rfl, ?_⟩
      have hlen := h2.len
      by_cases hz : (200 : Int) < (xs.length : Int)
      · rw [show decide ((200 : Int) < (xs.length : Int)) = true from decide_eq_true hz]
        refine iteT ?_
        have e : rowD n (.tup ds) = false := by
          show (decide (ds.length ≤ 200) && _) = false
          rw [decide_eq_false (by omega)]
          rfl
        rw [e] at q
        exact q H (Same.refl H)
      · rw [show decide ((200 : Int) < (xs.length : Int)) = false from decide_eq_false hz]
        refine iteF ?_
        refine ⟨_, rfl, a, rfl, ⟨xs, .inl (.inl h1)⟩, fun D hD => ?_⟩
        refine lc_map (fun k v _ => v = .bl (letterD n (ds.getD k .non))) (wk_tup (.inl (.inl h1))) hD (by rw [PySem.sizeLine_eq]; omega) (fun _ => rfl) (fun _ _ _ _ _ h => h) (fun i H' hi e Q' q' => ?_) (fun H' ys e h3 h4 h5 => ?_)
        · have hd : DV H' (xs.getD i .non) (ds.getD i .non) := by
            obtain ⟨d, e1, e2⟩ := h2.get (List.getElem?_eq_getElem hi)
            rw [List.getD_eq_getElem?_getD, List.getD_eq_getElem?_getD, List.getElem?_eq_getElem hi, e1]
            exact e2.same e
          exact ⟨_, rfl, _, rfl, spLetter_i hd (q' _ _ (Same.refl _) rfl)⟩
        · have ey := bls_of h4 h5
          refine ⟨D, (List.range xs.length).map fun k => letterD n (ds.getD k .non), rfl, SqL.of (by rw [h3, ey]), ?_⟩
          have e9 : rowD n (.tup ds) = ((List.range xs.length).map fun k => letterD n (ds.getD k .non)).all id := by
            rw [hlen, all_range ds .non (letterD n)]
            show (decide (ds.length ≤ 200) && _) = _
            rw [decide_eq_true (by omega)]
            rfl
          rw [← e9]
          exact q H' e
    | _ => exact iteT (q H (Same.refl H))
end
end My
namespace My
open PySem PySem.Spec PyProof.Rows L2
/-! ### what is walked, by a name whose list or tuple is known -/
/-- a list or a tuple at an address -/
def SqS (K : PySem.W.Frag) (H : Hp) (a : Addr) (xs : List V) : Prop := SqL K H a xs ∨ SqT K H a xs
theorem SqS.same {K : PySem.W.Frag} {H H' : Hp} {a : Addr} {xs : List V} (e : Same H H') (h : SqS K H a xs) : SqS K H' a xs := h.elim (fun h => .inl (e.seq h)) (fun h => .inr (SqT.same e h))
theorem Row.sqT {K : PySem.W.Frag} {H : Hp} {a : Addr} {xs : List V} (h : H a = some (.tup xs)) : SqT K H a xs := .inl (.inl h)
theorem Wk.mono {J : It} {H1 H2 : Hp} {n : Nat} {Xv : Nat → V} (h : Wk J H1 n Xv) (e : Same H1 H2) : Wk J H2 n Xv where
  go := fun i H e2 hi => h.go i H (e.trans e2) hi
  stop := fun i H e2 hi => h.stop i H (e.trans e2) hi
  yld := fun i H x H' e2 hi y => h.yld i H x H' (e.trans e2) hi y
theorem pi_pick {K : PySem.W.Frag} {H0 : Hp} {a : Addr} {xs : List V} (h : SqS K H0 a xs) : ∃ wi : TE → TI, (∀ {X : Cx} {tg e : Expr} {te : TE}, X.K = K → PE X e te → PI X tg e (wi te)) ∧ ∀ (te : TE) (σ : L2.St) (H1 : Hp) (R : It → Hp → Prop), Same H0 H1 → (∀ Q : VK, Q (.ref a) H1 → te σ H1 Q) → (∀ J, Wk J H0 xs.length (fun i => xs.getD i .non) → R J H1) → wi te σ H1 R := by
  rcases h with h | h
  · exact ⟨fun te => iList K te, fun e he => e ▸ pi_list he, fun te σ H1 R s e q => e _ ⟨a, rfl, ⟨xs, s.seq h⟩, q _ (wk_list h)⟩⟩
  · exact ⟨fun te => iTup K te, fun e he => e ▸ pi_tup he, fun te σ H1 R s e q => e _ ⟨a, rfl, ⟨xs, SqT.same s h⟩, q _ (wk_tup h)⟩⟩
/-- a loop over what is walked -/
theorem for_wk {J : It} {H0 : Hp} {n : Nat} {Xv : Nat → V} {g : TG} {tb : TS} {D : Ends} {σ : L2.St} {H : Hp} (hJ : Wk J H0 n Xv) (Pv : Nat → L2.St → Hp → Prop) (h0 : Pv 0 σ H) (hq : ∀ i σ H, Pv i σ H → Same H0 H)
    (hs : ∀ i σ H, i < n → Pv i σ H → g (Xv i) σ H fun σ2 H2 => tb { D with nx := Pv (i + 1), ct := Pv (i + 1), bk := D.nx } σ2 H2) (hd : ∀ σ H, Pv n σ H → D.nx σ H) :
    ∃ W : Nat → Nat → L2.St → Hp → Prop, (∃ m, W 0 m σ H) ∧ ∀ i m σ H, W i m σ H → (J.stop i H ∧ D.nx σ H) ∨ (J.go i H ∧ ∃ N : L2.St → Hp → Prop, (∀ σ' H', N σ' H' → ∃ m', m' < m ∧ W (i + 1) m' σ' H') ∧ ∀ x H', J.yld i H x H' → g x σ H' fun σ2 H2 => tb { nx := N, rt := D.rt, bk := D.nx, ct := N } σ2 H2) := by
  refine ⟨fun i m σ H => m = n - i ∧ i ≤ n ∧ Pv i σ H, ⟨n - 0, rfl, Nat.zero_le _, h0⟩, ?_⟩
  rintro i m σ H ⟨rfl, hi, hP⟩
  by_cases hlt : i < n
  · refine .inr ⟨hJ.go i H (hq _ _ _ hP) hlt, Pv (i + 1), fun σ' H' p => ⟨n - (i + 1), by omega, rfl, hlt, p⟩, fun x H' y => ?_⟩
    obtain ⟨rfl, rfl⟩ := hJ.yld i H x H' (hq _ _ _ hP) hlt y
    exact hs i σ _ hlt hP
  · obtain rfl : i = n := by omega
    exact .inl ⟨hJ.stop i H (hq _ _ _ hP) (Nat.le_refl _), hd σ H hP⟩
theorem iteT_of {c : Bool} {A B : Prop} (h : c = true) (q : A) : if c = true then A else B := by rw [if_pos h]; exact q
theorem iteF_of {c : Bool} {A B : Prop} (h : c = false) (q : B) : if c = true then A else B := by rw [if_neg (by rw [h]; decide)]; exact q
theorem ite_of {c : Bool} {A B : Prop} (h : c = true → A) (q : c = false → B) : if c = true then A else B := by
  cases c
  · exact iteF_of rfl (q rfl)
  · exact iteT_of rfl (h rfl)
/-! ### data that are compared -/
theorem dpa_int {K : PySem.W.Frag} {H : Hp} : ∀ xs : List Int, DpAll K H (iV xs) (xs.map PyData.int)
  | [] => .nil
  | x :: r => .cons (.int x) (dpa_int r)
theorem eqv_ints : ∀ xs ys : List Int, PyData.eqvAll (xs.map PyData.int) (ys.map PyData.int) = decide (xs = ys)
  | [], [] => by simp [PyData.eqvAll]
  | [], _ :: _ => by simp [PyData.eqvAll]
  | _ :: _, [] => by simp [PyData.eqvAll]
  | x :: xs, y :: ys => by
    rw [List.map_cons, List.map_cons, PyData.eqvAll, eqv_ints xs ys]
    have e : PyData.eqv (.int x) (.int y) = decide (x = y) := by rw [PyData.eqv]; exact Bool.eq_iff_iff.mpr (by simp)
    rw [e, ← Bool.decide_and]
    exact decide_eq_decide.mpr (by rw [List.cons.injEq])
theorem eqv_tup (xs ys : List Int) : PyData.eqv (.tuple (xs.map PyData.int)) (.tuple (ys.map PyData.int)) = decide (xs = ys) := by
  rw [PyData.eqv, eqv_ints]
theorem eqv_lst (xs ys : List Int) : PyData.eqv (.list (xs.map PyData.int)) (.list (ys.map PyData.int)) = decide (xs = ys) := by
  rw [PyData.eqv, eqv_ints]
theorem canAll_int : ∀ xs : List Int, PyData.canLayAll0 (xs.map PyData.int) = true
  | [] => by simp [PyData.canLayAll0]
  | x :: r => by rw [List.map_cons, PyData.canLayAll0, canAll_int r]; simp [PyData.canLay0]
theorem depthAll_int : ∀ xs : List Int, PyData.depthAll (xs.map PyData.int) ≤ 1
  | [] => by simp [PyData.depthAll]
  | x :: r => by
    rw [List.map_cons, PyData.depthAll]
    exact Nat.max_le.mpr ⟨by simp [PyData.depth], depthAll_int r⟩
theorem shaped_tup (xs : List Int) : SeqAt.shaped (.tuple (xs.map PyData.int)) = true := by
  unfold SeqAt.shaped
  have := depthAll_int xs
  rw [PyData.canLay0, canAll_int, PyData.depth]
  simp; omega
theorem shaped_lst (xs : List Int) : SeqAt.shaped (.list (xs.map PyData.int)) = true := by
  unfold SeqAt.shaped
  have := depthAll_int xs
  rw [PyData.canLay0, canAll_int, PyData.depth]
  simp; omega
/-- int lists and int tuples as data -/
inductive IntD (K : PySem.W.Frag) (H : Hp) : V → Bool → List Int → Prop
  | lst {a : Addr} {xs : List Int} : SqL K H a (iV xs) → IntD K H (.ref a) false xs
  | tup {a : Addr} {xs : List Int} : SqT K H a (iV xs) → IntD K H (.ref a) true xs
theorem Row.intD {K : PySem.W.Frag} {H : Hp} {v : V} {xs : List Int} (h : Row H v xs) : IntD K H v true xs := by
  obtain ⟨a, rfl, h⟩ := h
  exact .tup (.inl (.inl h))
def intPy (t : Bool) (xs : List Int) : PyData := if t then .tuple (xs.map .int) else .list (xs.map .int)
theorem IntD.dp {K : PySem.W.Frag} {H : Hp} {v : V} {t : Bool} {xs : List Int} (h : IntD K H v t xs) : Dp K H v (intPy t xs) := by
  cases h with
  | lst h => exact .lst h (dpa_int xs)
  | tup h => exact .tup h (dpa_int xs)
theorem shaped_int (t : Bool) (xs : List Int) : SeqAt.shaped (intPy t xs) = true := by
  cases t
  · exact shaped_lst xs
  · exact shaped_tup xs
theorem eqv_intPy (t : Bool) (xs ys : List Int) : PyData.eqv (intPy t xs) (intPy t ys) = decide (xs = ys) := by
  cases t
  · exact eqv_lst xs ys
  · exact eqv_tup xs ys
theorem eqD_int {K : PySem.W.Frag} {H : Hp} {v w : V} {t : Bool} {xs ys : List Int} {Q : VK} (h : IntD K H v t xs) (h' : IntD K H w t ys) (q : Q (.bl (decide (xs = ys))) H) : rEqD K v w H Q := ⟨_, _, h.dp, h'.dp, shaped_int _ _, shaped_int _ _, by rw [eqv_intPy]; exact q⟩
theorem neD_int {K : PySem.W.Frag} {H : Hp} {v w : V} {t : Bool} {xs ys : List Int} {Q : VK} (h : IntD K H v t xs) (h' : IntD K H w t ys) (q : Q (.bl (!decide (xs = ys))) H) : rNeD K v w H Q := ⟨_, _, h.dp, h'.dp, shaped_int _ _, shaped_int _ _, by rw [eqv_intPy]; exact q⟩
/-! ### rows: cut, joined, asked at a place -/
/-- what a slice keeps -/
def cut {α : Type} (xs : List α) (lo hi : Option Int) : List α := (xs.drop (HT.sIx xs.length 0 lo)).take (HT.sIx xs.length xs.length hi - HT.sIx xs.length 0 lo)
theorem cutV_iV (xs : List Int) (lo hi : Option Int) : cutV (iV xs) lo hi = iV (cut xs lo hi) := by
  unfold cutV cut iV
  rw [List.length_map, List.map_take, List.map_drop]
theorem cut_whole {α : Type} {xs : List α} {lo hi : Option Int} (h : HT.sIx xs.length 0 lo = 0 ∧ HT.sIx xs.length xs.length hi = xs.length) : cut xs lo hi = xs := by
  unfold cut
  rw [h.1, h.2]
  simp
theorem slA_row {K : PySem.W.Frag} {H : Hp} {v : V} {xs : List Int} {lo hi : Option Int} {Q : VK} (h : Row H v xs) (q : ∀ v' H', Same H H' → Row H' v' (cut xs lo hi) → Q v' H') : rSlA K v lo hi H Q := by
  obtain ⟨a, rfl, h⟩ := h
  refine ⟨a, iV xs, rfl, .inl (.inl h), fun e => ?_, fun _ p hp => ?_⟩
  · simp only [iV, List.length_map] at e
    exact q _ _ (Same.refl H) ⟨a, rfl, by rw [cut_whole e]; exact h⟩
  · exact q _ _ (Same.new hp) ⟨p, rfl, by rw [upd_same, cutV_iV]⟩
theorem catA_row {K : PySem.W.Frag} {H : Hp} {v w : V} {xs ys : List Int} {Q : VK} (h : Row H v xs) (h' : Row H w ys) (hl : xs.length + ys.length ≤ sizeLine) (q : ∀ v' H', Same H H' → Row H' v' (xs ++ ys) → Q v' H') : rCatA K v w H Q := by
  obtain ⟨a, rfl, h⟩ := h
  obtain ⟨b, rfl, h'⟩ := h'
  refine ⟨a, b, iV xs, iV ys, rfl, rfl, .inl (.inl h), .inl (.inl h'), by simpa [iV] using hl, fun e => ?_, fun _ e => ?_, fun _ _ p hp => ?_⟩
  · obtain rfl : xs = [] := by simpa [iV] using e
    exact q _ _ (Same.refl H) ⟨b, rfl, h'⟩
  · obtain rfl : ys = [] := by simpa [iV] using e
    exact q _ _ (Same.refl H) ⟨a, rfl, by simpa using h⟩
  · exact q _ _ (Same.new hp) ⟨p, rfl, by rw [upd_same]; simp [iV]⟩
theorem atI_iV {xs : List Int} {j : Nat} {i : Int} {x : Int} (hi : i = (j : Int)) (h : xs[j]? = some x) : atI (iV xs) i = some (.int x) := by
  subst hi
  exact atI_nat (by simp [iV, h])
theorem ixT_row {K : PySem.W.Frag} {H : Hp} {v : V} {xs : List Int} {j : Nat} {i x : Int} {Q : VK} (h : Row H v xs) (hi : i = (j : Int)) (hx : xs[j]? = some x) (q : Q (.int x) H) : rIxT K v (.int i) H Q := by
  obtain ⟨a, rfl, h⟩ := h
  exact ⟨a, iV xs, i, .int x, rfl, rfl, .inl (.inl h), atI_iV hi hx, q⟩
/-- len of a list or tuple, by a name of its own -/
def rLen (K : PySem.W.Frag) : List V → Hp → VK → Prop := fun xs H Q => ∃ p ys, xs = [.ref p] ∧ (SqL K H p ys ∨ SqT K H p ys) ∧ Q (.int ys.length) H
theorem call_lenK {X : Cx} : CallR X (.builtin "len") (rLen X.K) := call_len_seq
theorem iteN {x : V} {A B : Prop} (h : x = .non → B) (h' : x ≠ .non → A) : if (!decide (x = .non)) = true then A else B := by
  by_cases e : x = .non
  · exact iteF_of (by simp [e]) (h e)
  · exact iteT_of (by simp [e]) (h' e)
/-- len of a row -/
theorem len_row {K : PySem.W.Frag} {H : Hp} {v : V} {xs : List Int} (h : Row H v xs) : ∃ a, v = .ref a ∧ SqT K H a (iV xs) := by
  obtain ⟨a, rfl, h⟩ := h
  exact ⟨a, rfl, .inl (.inl h)⟩
end My
namespace My
open PySem PySem.Spec PyProof.Rows L2
theorem take_get_succ {xs : List Int} {i : Nat} (h : i < xs.length) : xs.take (i + 1) = xs.take i ++ [xs.getD i 0] := by
  rw [List.take_succ, List.getD_eq_getElem?_getD, List.getElem?_eq_getElem h]
  rfl
theorem iV_getD {xs : List Int} {i : Nat} (h : i < xs.length) : (iV xs).getD i .non = .int (xs.getD i 0) := by
  simp [iV, List.getD_eq_getElem?_getD, h]
theorem plain_snoc (xs : List Int) (x : Int) : plain (xs ++ [x]) = plainStep (plain xs) x := by
  unfold plain
  rw [List.foldl_append]
  rfl
section
variable {P : Program} {w : World} {K : PySem.W.Frag} {mg : Str → Option Value} {base : Heap}
/-! ### plain_of -/
@[irreducible] def spPlain (K : PySem.W.Frag) : Sp := fun vs H Q _ => ∃ (a : Addr) (xs : List Int), vs = [.ref a] ∧ SqS K H a (iV xs) ∧ xs.length < 1000000 ∧ ∀ v H', Same H H' → Row H' v (plain xs) → Q v H'
theorem spPlain_i {H : Hp} {a : Addr} {xs : List Int} {Q : VK} {E : XK} (h : SqS K H a (iV xs)) (hl : xs.length < 1000000) (q : ∀ v H', Same H H' → Row H' v (plain xs) → Q v H') : spPlain K [.ref a] H Q E := by
  unfold spPlain
  exact ⟨a, xs, rfl, h, hl, q⟩
theorem spPlain_row {H : Hp} {v : V} {xs : List Int} {Q : VK} {E : XK} (h : Row H v xs) (hl : xs.length < 1000000) (q : ∀ v H', Same H H' → Row H' v (plain xs) → Q v H') : spPlain K [v] H Q E := by
  obtain ⟨a, rfl, h⟩ := h
  exact spPlain_i (.inr (.inl (.inl h))) hl q
theorem ok_plain (B : Bt mg) (F : Fd K mg "plain_of" s_plain_of) : Df P w K mg base CX0 1 "plain_of" ["letters"] (spPlain K) := by
  refine .mk' F sc_plain_of (fun _ _ _ _ _ _ us hl => match us, hl with | [_], _ => rfl) (fun vs H Q E h => ?_) (fun f cdv A outer s H vs Q E hr h => ?_)
  · unfold spPlain at h
    obtain ⟨a, xs, rfl, _⟩ := h
    rfl
  · unfold spPlain at h
    obtain ⟨a, xs, rfl, hs, hl, q⟩ := h
    have nd := sc_plain_of.nd
    obtain ⟨wi, pi, hpi⟩ := pi_pick hs
    refine ⟨_, PSs.nox (pss_cons (ps_set (i := 1) nd rfl (Or.inl rfl) (pe_lst pa_nil))
      (pss_cons (ps_for PassesOwn.never rfl (pi rfl (pv 0)) (pg_name (i := 2) nd rfl (Or.inl rfl))
        (pss_one (ps_if (PW.pt (pw_and (pt_cmpR (op_neD hr.units) (pv 1) (pe_lst pa_nil) (nomark _)) (pw_and1 (pt_cmpR op_eq (pe_ix ix_list (pv 1) (pe_un un_neg pe_int) (fun _ _ => rfl)) (pe_op op_sub pe_int (pv 2)) (nomark _)))))
          (pss_one (ps_expr (pe_bm0 PySem.F.plainAttrs_list PySem.F.slot_list_pop PySem.F.type_list_pop mt_pop (pv 1))))
          (pss_one (ps_expr (pe_bm PySem.F.plainAttrs_list PySem.F.slot_list_append PySem.F.type_list_append mt_append (pv 1) (pa_cons (pv 2) pa_nil)))))))
      (pss_one (ps_ret (pe_callTy call_tuple_of (by rfl) B.tuple (by decide +kernel) (pa_cons (pv 1) pa_nil)))))), ?_⟩
    refine ⟨Nat.zero_le _, fun D hD => ?_⟩
    refine hpi _ _ _ _ (Same.new hD) (fun Q q => ⟨_, rfl, q⟩) fun J hJ => ?_
    refine for_wk hJ (fun i σ H' => ∃ x, σ = [some (.ref a), some (.ref D), x] ∧ Same H H' ∧ H' D = some (.lst (iV (plain (xs.take i))))) ?_ ?_ ?_ ?_
    · exact ⟨_, rfl, Same.new hD, upd_same⟩
    · rintro i σ H ⟨x, _, h, _⟩
      exact h
    · rintro i σ H' hi ⟨x, rfl, h4, h5⟩
      simp only [iV, List.length_map] at hi
      have hx : (iV xs).getD i .non = .int (xs.getD i 0) := iV_getD hi
      have ep : plain (xs.take (i + 1)) = plainStep (plain (xs.take i)) (xs.getD i 0) := by rw [take_get_succ hi, plain_snoc]
      have hlen : (plain (xs.take i)).length ≤ i := by
        have h1 := plain_len (xs.take i)
        rw [List.length_take] at h1
        omega
      rw [hx]
      generalize plain (xs.take i) = r at h5 ep hlen
      generalize xs.getD i 0 = y at ep
      refine ⟨_, rfl, Nat.zero_le _, fun l hl => neD_int (t := false) (xs := r) (ys := []) (.lst (SqL.of (by rw [upd_ne (ne_of_none h5 hl)]; exact h5))) (.lst (SqL.of upd_same)) ⟨_, rfl, ?_⟩⟩
      have h5l : upd H' l (.lst []) D = some (.lst (iV r)) := by rw [upd_ne (ne_of_none h5 hl)]; exact h5
      have h4l : Same H (upd H' l (.lst [])) := h4.trans (Same.new hl)
      have app : plainStep r y = r ++ [y] → ∃ l2 xs2 y2, V.ref D = .ref l2 ∧ [V.int y] = [y2] ∧ upd H' l (.lst []) l2 = some (.lst xs2) ∧ xs2.length < sizeLine ∧ ∃ x, [some (V.ref a), some (V.ref D), some (.int y)] = [some (.ref a), some (.ref D), x] ∧ Same H (upd (upd H' l (.lst [])) l2 (.lst (xs2 ++ [y2]))) ∧ upd (upd H' l (.lst [])) l2 (.lst (xs2 ++ [y2])) D = some (.lst (iV (plain (xs.take (i + 1))))) := fun e =>
        ⟨D, iV r, .int y, rfl, rfl, h5l, by rw [PySem.sizeLine_eq]; simp [iV]; omega, some (.int y), rfl, Same.mut h4l hD, by rw [upd_same, ep, e]; simp [iV]⟩
      have hr' : r = [] ∨ ∃ r' z, r = r' ++ [z] := by
        rcases List.eq_nil_or_concat r with h | ⟨r', z, h⟩
        · exact .inl h
        · exact .inr ⟨r', z, by rw [h, List.concat_eq_append]⟩
      rcases hr' with rfl | ⟨r', z, rfl⟩
      · exact iteF ⟨_, rfl, .inl ⟨rfl, _, SqL.of h5l⟩, _, rfl, app rfl⟩
      · refine iteT_of (by simp) ⟨_, rfl, 1, rfl, D, _, _, _, rfl, rfl, SqL.of h5l, by rw [iV, List.map_append]; exact atI_last _ _, _, rfl, _, _, rfl, rfl, rfl, _, rfl, ?_⟩
        have es : plainStep (r' ++ [z]) y = if z = 0 - y then r' else r' ++ [z] ++ [y] := by
          unfold plainStep
          rw [List.getLast?_append]
          simp
        by_cases hz : z = 0 - y
        · rw [if_pos hz] at es
          exact iteT_of (by rw [decI]; exact decide_eq_true hz) ⟨_, rfl, .inl ⟨rfl, _, SqL.of h5l⟩, D, _, .int z, rfl, rfl, h5l, by simp [iV], _, rfl, Same.mut h4l hD, by rw [upd_same, ep, es]; simp [iV]⟩
        · rw [if_neg hz] at es
          exact iteF_of (by rw [decI]; exact decide_eq_false hz) ⟨_, rfl, .inl ⟨rfl, _, SqL.of h5l⟩, _, rfl, app es⟩
    · rintro σ H' ⟨x, rfl, h4, h5⟩
      rw [List.take_of_length_le (by simp [iV])] at h5
      refine ⟨_, rfl, D, _, rfl, .inl ⟨SqL.of h5, fun l hl => ?_⟩⟩
      exact q _ _ (h4.trans (Same.new hl)) ⟨l, rfl, upd_same⟩
end
end My
namespace My
open PySem PySem.Spec PyProof.Rows L2
theorem row_of_dv {H : Hp} {v : V} {xs : List Int} (h : DV H v (.tup (xs.map Dt.int))) : Row H v xs := by
  cases h with
  | @tup a vs _ h1 h2 =>
    have e : vs = iV xs := by
      clear h1
      induction xs generalizing vs with
      | nil => cases h2; rfl
      | cons x r ih =>
        cases h2 with
        | cons h3 h4 =>
          cases h3
          rw [ih h4]
          rfl
    exact ⟨a, rfl, by rw [← e]; exact h1⟩
theorem letterD_int {n : Int} {d : Dt} (h : letterD n d = true) : ∃ x, d = .int x ∧ 0 - n ≤ x ∧ x ≤ n ∧ x ≠ 0 := by
  unfold letterD at h
  cases d with
  | int x =>
    simp [betweenD] at h
    exact ⟨x, rfl, by omega, by omega, h.2⟩
  | _ => simp [betweenD] at h
theorem rowD_tup {n : Int} {d : Dt} (h : rowD n d = true) : ∃ xs : List Int, d = .tup (xs.map Dt.int) ∧ xs.length ≤ 200 ∧ ∀ x ∈ xs, 0 - n ≤ x ∧ x ≤ n ∧ x ≠ 0 := by
  cases d with
  | tup ds =>
    unfold rowD at h
    rw [Bool.and_eq_true, List.all_eq_true] at h
    obtain ⟨h1, h2⟩ := h
    have key : ∀ ds : List Dt, (∀ x ∈ ds, letterD n x = true) → ∃ xs : List Int, ds = xs.map Dt.int ∧ ∀ x ∈ xs, 0 - n ≤ x ∧ x ≤ n ∧ x ≠ 0 := by
      intro ds
      induction ds with
      | nil => exact fun _ => ⟨[], rfl, by simp⟩
      | cons d r ih =>
        intro h
        obtain ⟨x, rfl, hx⟩ := letterD_int (h d (by simp))
        obtain ⟨xs, rfl, hxs⟩ := ih fun y hy => h y (by simp [hy])
        refine ⟨x :: xs, rfl, fun y hy => ?_⟩
        rcases List.mem_cons.mp hy with rfl | hy
        · exact hx
        · exact hxs y hy
    obtain ⟨xs, rfl, hxs⟩ := key ds h2
    exact ⟨xs, rfl, by simpa using h1, hxs⟩
  | _ => cases h
section
variable {P : Program} {w : World} {K : PySem.W.Frag} {mg : Str → Option Value} {base : Heap}
/-! ### undone_of -/
@[irreducible] def spUndone : Sp := fun vs H Q _ => ∃ (v : V) (xs : List Int), vs = [v] ∧ Row H v xs ∧ xs.length < 1000000 ∧ ∀ v' H', Same H H' → Row H' v' (undone xs) → Q v' H'
theorem spUndone_i {H : Hp} {v : V} {xs : List Int} {Q : VK} {E : XK} (h : Row H v xs) (hl : xs.length < 1000000) (q : ∀ v' H', Same H H' → Row H' v' (undone xs) → Q v' H') : spUndone [v] H Q E := by
  unfold spUndone
  exact ⟨v, xs, rfl, h, hl, q⟩
theorem undone_range (xs : List Int) : ((List.range xs.length).map fun k => 0 - xs.reverse.getD k 0) = undone xs := by
  unfold undone
  apply List.ext_getElem
  · simp
  · intro i h1 h2
    simp at h1
    simp [List.getD_eq_getElem?_getD, h1]
theorem ok_undone (B : Bt mg) (F : Fd K mg "undone_of" s_undone_of) : Df P w K mg base CX0 1 "undone_of" ["row"] spUndone := by
  refine .mk' F sc_undone_of (fun _ _ _ _ _ _ us hl => match us, hl with | [_], _ => rfl) (fun vs H Q E h => ?_) (fun f cdv A outer s H vs Q E hr h => ?_)
  · unfold spUndone at h
    obtain ⟨a, xs, rfl, _⟩ := h
    rfl
  · unfold spUndone at h
    obtain ⟨v, xs, rfl, ⟨a, rfl, hs⟩, hl, q⟩ := h
    refine ⟨_, PSs.nox (pss_one (ps_ret (pe_callTy call_tuple_of (by rfl) B.tuple (by decide +kernel) (pa_cons (pe_lc (own := [("letter", 1)]) (g := gName 1) rfl sc_undone_of.nd (RT.pi_revA (by rfl) B.reversed (pv 0)) (blkOk_by (own := [("letter", 1)]) (N := ["row", "letter"]) (sc := defScope s_undone_of) (by decide +kernel))
        (fun _ _ _ _ _ => pg_name (i := 1) sc_undone_of.nd rfl (Or.inl rfl)) (fun _ _ _ _ _ => pts_nil) (fun _ _ _ _ _ => pe_op op_sub pe_int (pv 1))) pa_nil)))), ?_⟩
    have hT : SqT K H a (iV xs) := .inl (.inl hs)
    refine ⟨_, rfl, a, iV xs, rfl, .inr ⟨hT, fun D hD => ?_⟩⟩
    refine lc_map (fun k v _ => v = .int (0 - xs.reverse.getD k 0)) (wk_revT hT) hD (by rw [PySem.sizeLine_eq]; simp [iV]; omega) (fun _ => rfl) (fun _ _ _ _ _ h => h) (fun i H' hi e Q' q' => ?_) (fun H' ys e h3 h4 h5 => ?_)
    · have hx : (iV xs).reverse.getD i .non = .int (xs.reverse.getD i 0) := by
        have h : i < xs.reverse.length := by simpa [iV] using hi
        rw [← List.map_reverse]
        exact iV_getD h
      rw [hx]
      exact ⟨_, rfl, _, _, rfl, rfl, q' _ _ (Same.refl _) rfl⟩
    · have ey := iV_of (n := xs.length) (by simpa [iV] using h4) h5
      rw [undone_range] at ey
      subst ey
      exact ⟨D, _, rfl, .inl ⟨SqL.of h3, fun l hl => q _ _ (e.trans (Same.new hl)) ⟨l, rfl, upd_same⟩⟩⟩
/-! ### need_row -/
@[irreducible] def spNeedRow (C : Addr) : Sp := fun vs H Q E => ∃ (n : Int) (v : V) (d : Dt), vs = [.int n, v] ∧ DV H v d ∧ (∀ xs v' H', rowD n d = true → d = .tup (xs.map Dt.int) → Same H H' → Row H' v' (plain xs) → Q v' H') ∧ (rowD n d = false → ∀ H', Same H H' → E (.ref C) none H')
theorem spNeedRow_i {C : Addr} {H : Hp} {n : Int} {v : V} {d : Dt} {Q : VK} {E : XK} (h : DV H v d) (q : ∀ xs v' H', rowD n d = true → d = .tup (xs.map Dt.int) → Same H H' → Row H' v' (plain xs) → Q v' H') (r : rowD n d = false → ∀ H', Same H H' → E (.ref C) none H') : spNeedRow C [.int n, v] H Q E := by
  unfold spNeedRow
  exact ⟨n, v, d, rfl, h, q, r⟩
theorem ok_need_row {C : Addr} (EC : Er K mg "BadRow" C) (F : Fd K mg "need_row" s_need_row) (D4 : Df P w K mg base CX0 4 "fits_row" ["deeds", "value"] spFitsRow) (D1 : Df P w K mg base CX0 1 "plain_of" ["letters"] (spPlain K)) :
    Df P w K mg base (L2.CX P w) 5 "need_row" ["deeds", "row"] (spNeedRow C) := by
  refine .mk' F sc_need_row (fun _ _ _ _ _ _ us hl => match us, hl with | [_, _], _ => rfl) (fun vs H Q E h => ?_) (fun f cdv A outer s H vs Q E hr h => ?_)
  · unfold spNeedRow at h
    obtain ⟨n, v, d, rfl, _⟩ := h
    rfl
  · unfold spNeedRow at h
    obtain ⟨n, v, d, rfl, hv, q1, q2⟩ := h
    refine ⟨_, pss_cons (ps_if (pt_not (pt_val (pe_df D4 hr rfl pass0 (pa_cons (pv 0) (pa_cons (pv 1) pa_nil)))))
      (pss_one (ps_raise rfl (takes_of rfl rfl rfl rfl) (pmk_own PySem.F.excBase_ValueError EC.x EC.g EC.k (raises_own EC.b EC.t) rfl))) pss_nil)
      (pss_one (ps_ret (pe_df (D1.mono (by decide)) hr rfl pass0 (pa_cons (pv 1) pa_nil)))), ?_⟩
    refine ⟨_, rfl, _, rfl, spFitsRow_i hv fun H' e => ⟨_, rfl, ?_⟩⟩
    cases ed : rowD n d with
    | true =>
      obtain ⟨xs, rfl, hl, hx⟩ := rowD_tup ed
      exact iteF ⟨_, rfl, spPlain_row (row_of_dv (hv.same e)) (by omega) fun v' H'' e' r => q1 xs v' H'' ed rfl (e.trans e') r⟩
    | false => exact iteT (q2 ed _ e)
end
end My
namespace My
open PySem PySem.Spec PyProof.Rows L2
/-! ### less, of data that are alike -/
def rLtD (K : PySem.W.Frag) : R2 := fun x y H Q => ∃ d e, Dp K H x d ∧ Dp K H y e ∧ PySem.W.alike d e = true ∧ d ≠ .none ∧ min d.depth e.depth ≤ 64 ∧ Q (.bl (PySem.W.dataLt d e)) H
theorem op_ltD {X : Cx} (hu : X.A.units + 64 < cLine) : OpR X (compareOp .Lt) (rLtD X.K) := by
  intro pins s σ H x y v u Q I rx ry h
  obtain ⟨d, e, hd, he, ha, hn, hm, q⟩ := h
  obtain ⟨as, r1⟩ := Dp.reads I d x v hd rx
  obtain ⟨bs, r2⟩ := Dp.reads I e y u he ry
  exact PySem.W.rcLt_alike d e X.A s v u as bs r1 r2 ha hn (by omega) X.prog X.w X.xe _ ⟨.bl _, H, I, rfl, q⟩
/-! ### sorted([(), ()]) -/
section
open PySem.Calls PySem.W PySem.SeqAt
variable {prog : Program} {w : World} {A : Around} {E : Value → Shared → Prop} {s : Shared}
theorem less_nil {a b : Addr} {Q : Bool → Shared → Prop} (ha : s.heap.IsTuple a #[]) (hb : s.heap.IsTuple b #[]) (hu : A.units < cLine) (q : Q false s) : wpAny (model prog w) A (oneLt' true (.ref a) (.ref b)) Q E s := by
  obtain ⟨⟨c1, d1, x1, l1⟩, g1, h1, n1, k1⟩ := id ha
  obtain ⟨⟨c2, d2, x2, l2⟩, g2, h2, n2, k2⟩ := id hb
  simp only at h1 k1 h2 k2
  subst h1 k1 h2 k2
  rw [oneLt'_eq]
  simp only [if_true]
  refine wpAny_bind (wpAny_cRoomFor hu ?_)
  refine wpAny_bind (wpAny_callSpecialIfBound?_slot (T := "tuple") ⟨_, g1, rfl⟩ F.slot_tuple_lt (call_meets F.slot_tuple_lt ⟨_, g1, rfl⟩ F.entry_tuple_lt (F.args_tuple_lt_2 _ _) (tuple_ltAt a b #[] #[] n1 n2 d1 d2 l1 l2 (fun _ => true) (fun _ => true)) ⟨g1, g2, fun j h => absurd h (by simp), fun j h => absurd h (by simp), ?_⟩))
  exact wpAny_truthy_bool q
theorem reads_nil {h : Heap} {a : Addr} (ha : h.IsTuple a #[]) : ∃ as, Reads h (.ref a) (.tuple []) as := by
  obtain ⟨o, g, hc, n, hd⟩ := ha
  exact ⟨_, .tuple g hc hd .nil⟩
theorem nil_reads {h : Heap} {v : Value} {as : List Addr} (r : Reads h v (.tuple []) as) : ∃ a, v = .ref a ∧ h.IsTuple a #[] := by
  cases r with
  | @tuple a o xs n _ _ ho hc hd hr =>
    have e : xs = #[] := by
      cases q : xs.toList with
      | nil => exact Array.toList_inj.mp (by rw [q])
      | cons f fr =>
        rw [q] at hr
        cases hr
    subst e
    exact ⟨a, rfl, o, ho, hc, n, hd⟩
theorem sorts_nil {vs : List Value} {ds : List PyData} (hds : ∀ d ∈ ds, d = .tuple []) (hne : ds ≠ []) (hv : ∀ v ∈ vs, ∃ a, v = .ref a ∧ s.heap.IsTuple a #[]) (hu : A.units < cLine) : SortsAt prog w A s (dataKind s.heap ds) vs := by
  have hm0 : PyData.tuple [] ∈ ds := by
    obtain ⟨d, r, rfl⟩ := List.exists_cons_of_ne_nil hne
    rw [← hds d (by simp)]
    simp
  have hal : AllAlike ds := by
    intro d hd d' hd'
    rw [hds d hd, hds d' hd']
    simp [alike, alikeAll]
  refine ⟨fun v hm => ?_, oneType', ?_, fun h2 E Q q => ?_⟩
  · obtain ⟨a, rfl, ha⟩ := hv v hm
    obtain ⟨as, r⟩ := reads_nil ha
    exact ⟨_, dataKind_some hal hm0 r⟩
  · intro E x y a b Q kx ky q
    obtain ⟨d, as, hd, rx, rfl⟩ := dataKind_inv kx
    obtain ⟨e, bs, he, ry, rfl⟩ := dataKind_inv ky
    rw [hds d hd] at rx q
    rw [hds e he] at ry q
    obtain ⟨a, rfl, ha⟩ := nil_reads rx
    obtain ⟨b, rfl, hb⟩ := nil_reads ry
    rw [keyLt'_oneType]
    refine less_nil ha hb hu ?_
    have e : (dataKind s.heap ds).blt (keyToks (.tuple [])) (keyToks (.tuple [])) = false := lex_irrefl _
    rw [e] at q
    exact q
  · have hT : ∀ v ∈ vs, Looks (model prog w) s.heap (typeOf v) (Value.type "tuple") := fun v hm => by
      obtain ⟨a, rfl, ha⟩ := hv v hm
      obtain ⟨as, r⟩ := reads_nil ha
      exact looks_reads r
    obtain ⟨v₁, rest, rfl⟩ : ∃ v₁ rest, vs = v₁ :: rest := by
      cases vs with
      | nil => simp at h2
      | cons v₁ rest => exact ⟨v₁, rest, rfl⟩
    rw [kat_kind_eq, List.mapM_toArray, map_eq_pure_bind]
    refine wpAny_bind (wpAny_bind (kas_mapM (r := none) _ (fun v hm Q' hq => ?_) (wpAny_pure ?_)))
    · obtain ⟨a, rfl, o, g, hc, n, hd⟩ := hv v hm
      rw [kas_first_eq]
      refine wpAny_bind ((hT _ hm).here ?_)
      rw [if_neg (by decide)]
      exact wpAny_bind (listItems_at g hd (wpAny_pure hq))
    · rw [if_neg (by simp), if_neg (by simp)]
      rw [oneTypeOnly'_eq, List.mapM_toArray, map_eq_pure_bind]
      refine wpAny_bind (wpAny_bind (wpAny_bind (kas_mapM (r := Value.type "tuple") _ (fun v hm Q' hq => (hT v hm).here hq) (wpAny_pure ?_))))
      have h0 : (List.map (fun _ => Value.type "tuple") (v₁ :: rest)).toArray[0]? = some (Value.type "tuple") := by simp
      rw [h0]
      have h1 : ((List.map (fun _ => Value.type "tuple") (v₁ :: rest)).toArray.all fun x => x == Value.type "tuple") = true := by
        rw [List.all_toArray, List.all_eq_true]
        intro x hx
        obtain ⟨_, _, rfl⟩ := List.mem_map.mp hx
        decide
      simp only [h1, if_true]
      exact wpAny_pure (wpAny_pure q)
/-- one of two rows of ints as a datum -/
def encR (b : V × List Int) : PyData := .tuple (b.2.map .int)
theorem rows2 {vs : List Value} {b c : V × List Int} (hl : b.2.length = c.2.length) (er : EachIs (fun v b => ∃ as, Reads s.heap v (encR b) as) vs [b, c]) (hu : A.units + 1 < cLine) : SortsAt prog w A s (dataKind s.heap ([b, c].map encR)) vs := by
  have hal : AllAlike ([b, c].map encR) := AllAlike.of fun b b' => by simpa [encR, alike] using alike_ints b.2 b'.2
  by_cases h0 : b.2 = []
  · have h1 : c.2 = [] := by
      rw [h0] at hl
      exact List.length_eq_zero_iff.mp hl.symm
    refine sorts_nil (fun d hd => ?_) (by simp) (fun v hv => ?_) (by omega)
    · simp only [List.map_cons, List.map_nil, List.mem_cons, List.not_mem_nil, or_false] at hd
      rcases hd with rfl | rfl
      · simp [encR, h0]
      · simp [encR, h1]
    · obtain ⟨d, hd, as, r⟩ := er.left v hv
      simp only [List.mem_cons, List.not_mem_nil, or_false] at hd
      refine nil_reads (as := as) ?_
      rcases hd with rfl | rfl
      · simpa [encR, h0] using r
      · simpa [encR, h1] using r
  · refine SortsAt.data (each_map (R := fun v d => ∃ as, Reads s.heap v d as) encR er) hal (.inl fun d hd => ?_) (fun d hd => ?_)
    · have hc : c.2 ≠ [] := fun h => by
        rw [h] at hl
        exact h0 (List.length_eq_zero_iff.mp hl)
      simp only [List.map_cons, List.map_nil, List.mem_cons, List.not_mem_nil, or_false] at hd
      rcases hd with rfl | rfl
      · obtain ⟨x, r, e⟩ := List.exists_cons_of_ne_nil h0
        exact ⟨.int x, r.map .int, by simp [encR, e]⟩
      · obtain ⟨x, r, e⟩ := List.exists_cons_of_ne_nil hc
        exact ⟨.int x, r.map .int, by simp [encR, e]⟩
    · obtain ⟨b', _, rfl⟩ := List.mem_map.mp hd
      have : PyData.depth (encR b') ≤ 1 := by
        rw [encR, PyData.depth, depth_ints]
        omega
      omega
end
theorem merge2 {α : Type} (le : α → α → Bool) (a b : α) : [a, b].mergeSort le = if le a b = true then [a, b] else [b, a] := by
  unfold List.mergeSort
  simp [List.MergeSort.Internal.splitInTwo, List.merge]
/-- sorted of a list of two tuples of as many ints -/
def rSort2 (K : PySem.W.Frag) : List V → Hp → VK → Prop := fun vs H Q => ∃ (a : Addr) (x y : V) (xs ys : List Int), vs = [.ref a] ∧ SqL K H a [x, y] ∧ IntD K H x true xs ∧ IntD K H y true ys ∧ xs.length = ys.length ∧ ∀ p, H p = none → Q (.ref p) (upd H p (.lst (if ys < xs then [y, x] else [x, y])))
theorem cr_sort2 {X : Cx} (hu : X.A.units + 64 < cLine) : CallR X (.builtin "sorted") (rSort2 X.K) := by
  intro pins s σ H vs us Q I r h
  obtain ⟨a, x, y, xs, ys, rfl, hs, hx, hy, hl, q⟩ := h
  obtain ⟨its, rv, hli, hz⟩ := I.list hs
  rw [Vals.ref1 r]
  cases rv with
  | cons r1 rv =>
  cases rv with
  | cons r2 rv =>
  cases rv
  rename_i u v
  have er : PySem.W.EachIs (fun v b => ∃ as, Reads s.heap v (encR b) as) [u, v] [(x, xs), (y, ys)] := .cons (Dp.reads I _ _ _ hx.dp r1) (.cons (Dp.reads I _ _ _ hy.dp r2) .nil)
  have e : PySem.W.EachIs (fun v (b : V × List Int) => RelV b.1 v) [u, v] [(x, xs), (y, ys)] := .cons r1 (.cons r2 .nil)
  have er' : ∀ h' : Heap, (∀ b o, s.heap.get? b = some o → h'.get? b = some o) → PySem.W.EachIs (fun v b => ∃ as, Reads h' v (encR b) as) [u, v] [(x, xs), (y, ys)] := fun h' k => er.mono fun _ _ ⟨as, r⟩ => ⟨as, PyProof.Rows.Reads.keeps k r⟩
  have hal : PySem.W.AllAlike ([(x, xs), (y, ys)].map encR) := PySem.W.AllAlike.of fun b b' => by simpa [encR, PySem.W.alike] using PySem.W.alike_ints b.2 b'.2
  refine PySem.W.sorted_vals hli.isList (rows2 (b := (x, xs)) (c := (y, ys)) (s := { s with heap := PySem.W.sortingHeap (PySem.W.copyHeap s.heap [u, v]) (s.heap.objs.size + (1 : Nat)) [u, v] }) hl (er' _ fun _ _ => PySem.W.sorting_copy_old) (by show X.A.units + 1 + 1 + 1 < cLine; omega)) (by rw [PySem.sizeLine_eq]; simp) ?_
  have hr := PySem.W.sortVals_data (R := fun v (b : V × List Int) => RelV b.1 v) false e (er' _ fun _ _ => PySem.W.sorting_copy_old (h := s.heap) (vs := [u, v])) hal
  have hm : [(x, xs), (y, ys)].mergeSort (PySem.W.dataLe false encR) = if ys < xs then [(y, ys), (x, xs)] else [(x, xs), (y, ys)] := by
    have hle : PySem.W.dataLe false encR (x, xs) (y, ys) = !decide (ys < xs) := by
      rw [PySem.W.dataLe_eq]
      show (!PySem.W.dataLt (encR (y, ys)) (encR (x, xs))) = _
      rw [encR, encR, PySem.W.dataLt_tuple]
      show (!PySem.W.rowLt (ys.map .int) (xs.map .int)) = _
      rw [PySem.W.dataLt_ints]
    rw [merge2, hle]
    by_cases hlt : ys < xs <;> simp [hlt]
  rw [hm] at hr
  obtain ⟨ep, he'⟩ := sortedAll_at s.heap [u, v] (PySem.W.sortVals (PySem.W.dataKind (PySem.W.sortingHeap (PySem.W.copyHeap s.heap [u, v]) (s.heap.objs.size + (1 : Nat)) [u, v]) ([(x, xs), (y, ys)].map encR)) false [u, v] [u, v]).toArray
  have hvals : Vals (if ys < xs then [y, x] else [x, y]) (PySem.W.sortVals (PySem.W.dataKind (PySem.W.sortingHeap (PySem.W.copyHeap s.heap [u, v]) (s.heap.objs.size + (1 : Nat)) [u, v]) ([(x, xs), (y, ys)].map encR)) false [u, v] [u, v]) := by
    have key : ∀ (bs : List (V × List Int)) (zs : List Value), PySem.W.EachIs (fun v (b : V × List Int) => RelV b.1 v) zs bs → Vals (bs.map (·.1)) zs := by
      intro bs
      induction bs with
      | nil => intro zs h; cases h; exact .nil
      | cons b bs ih => intro zs h; cases h with | cons h1 h2 => exact .cons h1 (ih _ h2)
    have := key _ _ hr
    by_cases hlt : ys < xs
    · rw [if_pos hlt] at this ⊢
      exact this
    · rw [if_neg hlt] at this ⊢
      exact this
  refine ⟨.ref _, upd H (s.heap.objs.size + (1 : Nat)) (.lst (if ys < xs then [y, x] else [x, y])), I.laid (t' := s.toks) (fun _ _ => sortedAll_old) (Nat.le_succ _) ⟨?_, _, ep, hvals, he'⟩, rfl, q _ (I.hok.fresh (Nat.le_succ _))⟩
  rw [PySem.sizeLine_eq]
  by_cases hlt : ys < xs
  · rw [if_pos hlt]; simp
  · rw [if_neg hlt]; simp
end My
namespace My
open PySem PySem.Spec PyProof.Rows L2
/-! ### plain Lean -/
def goneR : List Int → List Int → Nat
  | x :: r, y :: s => if x = 0 - y then goneR r s + 1 else 0
  | _, _ => 0
def gone (xs ys : List Int) : Nat := goneR xs.reverse ys
theorem goneR_le : ∀ r s : List Int, goneR r s ≤ r.length ∧ goneR r s ≤ s.length
  | [], s => by simp [goneR]
  | _ :: _, [] => by simp [goneR]
  | x :: r, y :: s => by
    have := goneR_le r s
    unfold goneR
    split <;> simp <;> omega
theorem goneR_at {r s : List Int} {k : Nat} (hr : k < r.length) (hs : k < s.length) : goneR (r.drop k) (s.drop k) = if r.getD k 0 = 0 - s.getD k 0 then goneR (r.drop (k + 1)) (s.drop (k + 1)) + 1 else 0 := by
  rw [List.drop_eq_getElem_cons hr, List.drop_eq_getElem_cons hs, goneR, List.getD_eq_getElem?_getD, List.getD_eq_getElem?_getD, List.getElem?_eq_getElem hr, List.getElem?_eq_getElem hs]
  rfl
def halves (r : List Int) : List Int × List Int :=
  let a := r.take ((r.length + 1) / 2)
  let b := (undone r).take ((r.length + 1) / 2)
  if b < a then (b, a) else (a, b)
def halvesLt (p q : List Int × List Int) : Bool := if p.1 = q.1 then decide (p.2 < q.2) else decide (p.1 < q.1)
def adjOk (xs : List Int) : Bool := (List.range (xs.length - 1)).all fun k => !decide (xs.getD k 0 = 0 - xs.getD (k + 1) 0)
def intD : Dt → Int
  | .int i => i
  | _ => 0
def plainRowD (n : Int) (d : Dt) : Bool := match d with
  | .tup ds => ds.all (letterD n) && adjOk (ds.map intD)
  | _ => false
theorem cut_take (xs : List Int) (m : Nat) : cut xs none (some (m : Int)) = xs.take m := by
  unfold cut HT.sIx
  simp
  rw [if_neg (by omega)]
  omega
section
variable {P : Program} {w : World} {K : PySem.W.Frag} {mg : Str → Option Value} {base : Heap}
/-! ### letters_gone -/
@[irreducible] def spGone : Sp := fun vs H Q _ => ∃ (v u : V) (xs ys : List Int), vs = [v, u] ∧ Row H v xs ∧ Row H u ys ∧ Q (.int (gone xs ys)) H
theorem spGone_i {H : Hp} {v u : V} {xs ys : List Int} {Q : VK} {E : XK} (h : Row H v xs) (h' : Row H u ys) (q : Q (.int (gone xs ys)) H) : spGone [v, u] H Q E := by
  unfold spGone
  exact ⟨v, u, xs, ys, rfl, h, h', q⟩
theorem ok_gone (B : Bt mg) (F : Fd K mg "letters_gone" s_letters_gone) : Df P w K mg base CX0 1 "letters_gone" ["one", "other"] spGone := by
  refine .mk' F sc_letters_gone (fun _ _ _ _ _ _ us hl => match us, hl with | [_, _], _ => rfl) (fun vs H Q E h => ?_) (fun f cdv A outer s H vs Q E hr h => ?_)
  · unfold spGone at h
    obtain ⟨v, u, xs, ys, rfl, _⟩ := h
    rfl
  · unfold spGone at h
    obtain ⟨v, u, xs, ys, rfl, h1, h2, q⟩ := h
    have nd := sc_letters_gone.nd
    refine ⟨_, PSs.nox (pss_cons (ps_par (i := 2) (j := 3) (by rfl) nd rfl rfl (by decide) rfl rfl (pa_cons (pe_callB (call_min2 rfl) (by rfl) B.min (by decide +kernel) (pa_cons (pe_callB call_len_seq (by rfl) B.len boot_len (pa_cons (pv 0) pa_nil)) (pa_cons (pe_callB call_len_seq (by rfl) B.len boot_len (pa_cons (pv 1) pa_nil)) pa_nil))) (pa_cons pe_int pa_nil)) (by rfl))
      (pss_cons (ps_while PassesOwn.never (PW.pt (pw_and (pt_cmpR op_lt (pv 3) (pv 2) (nomark _)) (pw_and1 (pt_cmpR op_eq (pe_ix ix_tup (pv 0) (pe_op op_sub (pe_op op_sub (pe_callB call_len_seq (by rfl) B.len boot_len (pa_cons (pv 0) pa_nil)) pe_int) (pv 3)) (fun _ _ => rfl)) (pe_op op_sub pe_int (pe_ix ix_tup (pv 1) (pv 3) (fun _ _ => rfl))) (nomark _)))))
        (pss_one (ps_aug (i := 3) nd rfl (.inl rfl) pe_int ip_add)))
      (pss_one (ps_ret (pv 3))))), ?_⟩
    obtain ⟨a, rfl, ha⟩ := len_row (K := K) h1
    obtain ⟨b, rfl, hb⟩ := len_row (K := K) h2
    refine ⟨_, rfl, a, _, rfl, .inr ha, _, rfl, b, _, rfl, .inr hb, _, _, rfl, _, _, rfl, ?_⟩
    simp only [iV, List.length_map]
    have gle := goneR_le xs.reverse ys
    rw [List.length_reverse] at gle
    generalize hm : (if (ys.length : Int) < (xs.length : Int) then (ys.length : Int) else (xs.length : Int)) = m
    have hm' : m = (min xs.length ys.length : Nat) := by rw [← hm]; split <;> omega
    refine ⟨fun k σ H' => ∃ f : Nat, σ = [some (.ref a), some (.ref b), some (.int m), some (.int f)] ∧ H' = H ∧ f ≤ min xs.length ys.length ∧ k = min xs.length ys.length - f ∧ gone xs ys = f + goneR (xs.reverse.drop f) (ys.drop f), ⟨_, 0, rfl, rfl, Nat.zero_le _, rfl, by simp [gone]⟩, ?_⟩
    rintro k σ H' ⟨f, rfl, rfl, hf, rfl, hg⟩
    refine ⟨_, rfl, _, rfl, _, _, rfl, rfl, _, rfl, ?_⟩
    have fin : gone xs ys = f → tRet (tVar 3) { nx := fun _ H' => Q .non H', rt := Q } [some (.ref a), some (.ref b), some (.int m), some (.int f)] H' := fun e => ⟨_, rfl, by rw [← e]; exact q⟩
    refine ite_of (fun hlt => ?_) (fun hlt => ?_)
    · have hlt : f < min xs.length ys.length := by rw [hm'] at hlt; simpa using hlt
      have e1 : xs.reverse.getD f 0 = xs.getD (xs.length - 1 - f) 0 := by
        rw [List.getD_eq_getElem?_getD, List.getD_eq_getElem?_getD, List.getElem?_reverse (by omega)]
      rw [goneR_at (by simp; omega) (by omega), e1] at hg
      refine ⟨_, rfl, _, rfl, a, _, rfl, .inr ha, _, _, rfl, rfl, _, rfl, _, _, rfl, rfl, ?_⟩
      refine ixT_row (j := xs.length - 1 - f) (x := xs.getD (xs.length - 1 - f) 0) h1 (by simp [iV]; omega) (by simp [List.getD_eq_getElem?_getD]; rw [List.getElem?_eq_getElem (by omega)]; rfl) ?_
      refine ⟨_, rfl, _, rfl, ?_⟩
      refine ixT_row (j := f) (x := ys.getD f 0) h2 rfl (by simp [List.getD_eq_getElem?_getD]; rw [List.getElem?_eq_getElem (by omega)]; rfl) ?_
      refine ⟨_, _, rfl, rfl, rfl, _, rfl, ?_⟩
      refine ite_of (fun hz => ?_) (fun hz => ?_)
      · rw [decI, decide_eq_true_eq] at hz
        rw [if_pos hz] at hg
        exact ⟨fun σ' H'' => σ' = [some (.ref a), some (.ref b), some (.int m), some (.int (f + 1))] ∧ H'' = H', fun σ' H'' ⟨e1, e2⟩ => ⟨min xs.length ys.length - (f + 1), by omega, f + 1, e1, e2, by omega, rfl, by rw [hg]; omega⟩, _, rfl, _, _, rfl, rfl, rfl, rfl⟩
      · rw [decI, decide_eq_false_iff_not] at hz
        rw [if_neg hz] at hg
        exact fin hg
    · have hlt : f = min xs.length ys.length := by rw [hm'] at hlt; simp at hlt; omega
      refine fin ?_
      have h3 := goneR_le (xs.reverse.drop f) (ys.drop f)
      simp only [List.length_drop, List.length_reverse] at h3
      omega
end
end My
namespace My
open PySem PySem.Spec PyProof.Rows L2
theorem letters_ints {n : Int} : ∀ {ds : List Dt}, ds.all (letterD n) = true → ∃ xs : List Int, ds = xs.map Dt.int ∧ ∀ x ∈ xs, 0 - n ≤ x ∧ x ≤ n ∧ x ≠ 0
  | [], _ => ⟨[], rfl, by simp⟩
  | d :: r, h => by
    rw [List.all_cons, Bool.and_eq_true] at h
    obtain ⟨x, rfl, hx⟩ := letterD_int h.1
    obtain ⟨xs, rfl, hxs⟩ := letters_ints h.2
    refine ⟨x :: xs, rfl, fun y hy => ?_⟩
    rcases List.mem_cons.mp hy with rfl | hy
    · exact hx
    · exact hxs y hy
theorem intD_map (xs : List Int) : (xs.map Dt.int).map intD = xs := by
  rw [List.map_map]
  exact (List.map_congr_left fun _ _ => rfl).trans (List.map_id xs)
/-- a tuple that is not too long -/
def Short : Dt → Prop
  | .tup ds => ds.length < 1000000
  | _ => True
section
variable {P : Program} {w : World} {K : PySem.W.Frag} {mg : Str → Option Value} {base : Heap}
@[irreducible] def spPlainRow : Sp := fun vs H Q _ => ∃ (n : Int) (v : V) (d : Dt), vs = [.int n, v] ∧ DV H v d ∧ Short d ∧ ∀ H', Same H H' → Q (.bl (plainRowD n d)) H'
theorem spPlainRow_i {H : Hp} {n : Int} {v : V} {d : Dt} {Q : VK} {E : XK} (h : DV H v d) (hs : Short d) (q : ∀ H', Same H H' → Q (.bl (plainRowD n d)) H') : spPlainRow [.int n, v] H Q E := by
  unfold spPlainRow
  exact ⟨n, v, d, rfl, h, hs, q⟩
theorem ok_is_plain_row (B : Bt mg) (F : Fd K mg "is_plain_row" s_is_plain_row) (D1 : Df P w K mg base CX0 1 "is_whole" ["value"] spWhole) : Df P w K mg base CX0 2 "is_plain_row" ["deeds", "value"] spPlainRow := by
  refine .mk' F sc_is_plain_row (fun _ _ _ _ _ _ us hl => match us, hl with | [_, _], _ => rfl) (fun vs H Q E h => ?_) (fun f cdv A outer s H vs Q E hr h => ?_)
  · unfold spPlainRow at h
    obtain ⟨n, v, d, rfl, _⟩ := h
    rfl
  · unfold spPlainRow at h
    obtain ⟨n, v, d, rfl, hv, hs, q⟩ := h
    have nd := sc_is_plain_row.nd
    refine ⟨_, PSs.nox (pss_cons (ps_if (PW.pt (pw_or (pt_not (pt_val (pe_callB call_is (by rfl) B.isinstance boot_isinstance (pa_cons (pv 1) (pa_cons (pe_cls (n := "tuple") rfl B.tuple (by decide +kernel)) pa_nil)))))
        (pw_or1 (pt_not (pt_val (pe_callB (cr_all rfl) (by rfl) B.all (by decide +kernel) (pa_cons (pe_lc (own := [("x", 3)]) (g := gName 3) rfl nd (pi_tup (pv 1)) (blkOk_by (own := [("x", 3)]) (N := ["deeds", "value", "at", "x"]) (sc := defScope s_is_plain_row) (by decide +kernel))
          (fun _ _ _ _ _ => pg_name (i := 3) nd rfl (Or.inl rfl)) (fun _ _ _ _ _ => pts_nil) (fun _ _ _ _ _ => pe_and (pe_df D1 hr rfl pass0 (pa_cons (pv 3) pa_nil)) (pe_and (pe_cmpR op_ne (pv 3) pe_int (nomark _)) (pe_one (pe_chain op_le op_le (pe_op op_sub pe_int (pv 0)) (pv 3) (pv 0)))))) pa_nil))))))) (pss_one (ps_ret pe_bl)) pss_nil)
      (pss_one (ps_ret (pe_callB (cr_all rfl) (by rfl) B.all (by decide +kernel) (pa_cons (pe_lc (own := [("at", 2)]) (g := gName 2) rfl nd (pi_range1 (by rfl) B.range (pa_cons (pe_op op_sub (pe_callB call_len_seq (by rfl) B.len boot_len (pa_cons (pv 1) pa_nil)) pe_int) pa_nil)) (blkOk_by (own := [("at", 2)]) (N := ["deeds", "value", "at", "x"]) (sc := defScope s_is_plain_row) (by decide +kernel))
          (fun _ _ _ _ _ => pg_name (i := 2) nd rfl (Or.inl rfl)) (fun _ _ _ _ _ => pts_nil) (fun _ _ _ _ _ => pe_cmpR op_ne (pe_ix (r := rIxT K) ix_tup (pv 1) (pv 2) (fun _ _ => rfl)) (pe_op op_sub pe_int (pe_ix (r := rIxT K) ix_tup (pv 1) (pe_op op_add (pv 2) pe_int) (fun _ _ => rfl))) (nomark _))) pa_nil))))), ?_⟩
    refine ⟨_, rfl, isi_dv hv (kit_tuple d) ⟨_, rfl, ?_⟩⟩
    cases hv with
    | @tup a vs ds h1 h2 =>
      have hlen := h2.len
      have hs : ds.length < 1000000 := hs
      refine iteF ⟨_, rfl, a, rfl, ⟨vs, .inl (.inl h1)⟩, fun D hD => ?_⟩
      refine lc_map (fun k v _ => v = .bl (letterD n (ds.getD k .non))) (wk_tup (.inl (.inl h1))) hD (by rw [PySem.sizeLine_eq]; omega) (fun _ => rfl) (fun _ _ _ _ _ h => h) (fun i H' hi e Q' q' => ?_) (fun H' ys e h3 h4 h5 => ?_)
      · have hd : DV H' (vs.getD i .non) (ds.getD i .non) := by
          obtain ⟨d, e1, e2⟩ := h2.get (List.getElem?_eq_getElem hi)
          rw [List.getD_eq_getElem?_getD, List.getD_eq_getElem?_getD, List.getElem?_eq_getElem hi, e1]
          exact e2.same e
        have q2 : Q' (.bl (letterD n (ds.getD i .non))) H' := q' _ _ (Same.refl _) rfl
        generalize hg : vs.getD i .non = g at hd ⊢
        refine ⟨_, rfl, spWhole_i hd ⟨_, rfl, ?_⟩⟩
        generalize ds.getD i .non = d at hd q2
        cases hd with
        | int x =>
          have e1 : letterD n (.int x) = (decide (0 - n ≤ x) && decide (x ≤ n) && !decide (x = 0)) := rfl
          rw [e1] at q2
          refine iteT ⟨_, rfl, rfl, _, rfl, ?_⟩
          refine ite_of (fun hx => ?_) (fun hx => ?_)
          · have hx : decide (x = 0) = false := by rw [decI] at hx; simpa using hx
            rw [hx] at q2
            refine ⟨_, rfl, _, _, rfl, rfl, _, rfl, _, _, rfl, rfl, _, rfl, ?_⟩
            refine ite_of (fun h1 => ⟨_, rfl, _, _, rfl, rfl, ?_⟩) (fun h1 => ?_)
            · rw [h1] at q2
              simpa using q2
            · rw [h1] at q2
              simpa using q2
          · have hx : decide (x = 0) = true := by rw [decI] at hx; simpa using hx
            rw [hx] at q2
            simpa using q2
        | _ => exact iteF q2
      · have ey := bls_of h4 h5
        refine ⟨D, (List.range vs.length).map fun k => letterD n (ds.getD k .non), rfl, SqL.of (by rw [h3, ey]), _, rfl, ?_⟩
        rw [hlen, all_range ds .non (letterD n)]
        cases ed : ds.all (letterD n) with
        | false =>
          refine iteT ?_
          have e2 : plainRowD n (.tup ds) = false := by
            show (ds.all (letterD n) && _) = false
            rw [ed]
            rfl
          rw [e2] at q
          exact q _ e
        | true =>
          obtain ⟨xs, rfl, hx⟩ := letters_ints ed
          have e2 : plainRowD n (.tup (xs.map Dt.int)) = adjOk xs := by
            show ((xs.map Dt.int).all (letterD n) && adjOk ((xs.map Dt.int).map intD)) = adjOk xs
            rw [ed, intD_map]
            rfl
          rw [e2] at q
          have hr : Row H' (.ref a) xs := (row_of_dv (.tup h1 h2)).same e
          have hl : vs.length = xs.length := by simpa using hlen
          have hl2 : xs.length < 1000000 := by simpa using hs
          obtain ⟨a', ea, ha'⟩ := len_row (K := K) hr
          cases ea
          refine iteF ⟨_, rfl, a, _, rfl, .inr ha', _, _, rfl, rfl, _, rfl, by simp only [iV, List.length_map]; omega, by simp only [iV, List.length_map]; omega, fun D2 hD2 => ?_⟩
          have hn : (((iV xs).length : Int) - 1).toNat = xs.length - 1 := by simp only [iV, List.length_map]; omega
          rw [hn]
          refine lc_map (fun k v _ => v = .bl (!decide (xs.getD k 0 = 0 - xs.getD (k + 1) 0))) wk_range hD2 (by rw [PySem.sizeLine_eq]; omega) (fun _ => rfl) (fun _ _ _ _ _ h => h) (fun i H2 hi e2 Q' q' => ?_) (fun H2 ys e2 h3 h4 h5 => ?_)
          · have hr2 := hr.same e2
            have g (j : Nat) (hj : j < xs.length) : xs[j]? = some (xs.getD j 0) := by rw [List.getD_eq_getElem?_getD, List.getElem?_eq_getElem hj]; rfl
            refine ⟨_, rfl, _, rfl, ?_⟩
            refine ixT_row (j := i) hr2 (by omega) (g i (by omega)) ?_
            refine ⟨_, rfl, _, rfl, _, _, rfl, rfl, ?_⟩
            refine ixT_row (j := i + 1) hr2 (by omega) (g (i + 1) (by omega)) ?_
            refine ⟨_, _, rfl, rfl, rfl, q' _ _ (Same.refl _) ?_⟩
            rw [decI]
          · have ey := bls_of h4 h5
            refine ⟨D2, (List.range (xs.length - 1)).map fun k => !decide (xs.getD k 0 = 0 - xs.getD (k + 1) 0), rfl, SqL.of (by rw [h3, ey]), ?_⟩
            have e3 : adjOk xs = ((List.range (xs.length - 1)).map fun k => !decide (xs.getD k 0 = 0 - xs.getD (k + 1) 0)).all id := by
              unfold adjOk
              rw [List.all_map]
              rfl
            rw [← e3]
            exact q _ (e.trans e2)
    | _ => exact iteT (q H (Same.refl H))
end
end My
namespace My
open PySem PySem.Spec PyProof.Rows L2
/-- rows side by side -/
inductive Rws (H : Hp) : List V → List (List Int) → Prop
  | nil : Rws H [] []
  | cons {v : V} {xs : List Int} {vs : List V} {xss : List (List Int)} : Row H v xs → Rws H vs xss → Rws H (v :: vs) (xs :: xss)
theorem Rws.len {H : Hp} : ∀ {vs : List V} {xss : List (List Int)}, Rws H vs xss → vs.length = xss.length
  | _, _, .nil => rfl
  | _, _, .cons _ t => congrArg (· + 1) (Rws.len t)
theorem Rws.same {H H' : Hp} (e : Same H H') : ∀ {vs : List V} {xss : List (List Int)}, Rws H vs xss → Rws H' vs xss
  | _, _, .nil => .nil
  | _, _, .cons r t => .cons (r.same e) (Rws.same e t)
theorem Rws.tst {H H' : Hp} (e : Tst H H') : ∀ {vs : List V} {xss : List (List Int)}, Rws H vs xss → Rws H' vs xss
  | _, _, .nil => .nil
  | _, _, .cons r t => .cons (r.tst e) (Rws.tst e t)
theorem Rws.get {H : Hp} : ∀ {vs : List V} {xss : List (List Int)} {i : Nat}, Rws H vs xss → i < xss.length → ∃ v, vs[i]? = some v ∧ Row H v (xss.getD i [])
  | _, _, _, .nil, h => absurd h (by simp)
  | _, _, 0, .cons r _, _ => ⟨_, rfl, r⟩
  | _, _, i + 1, .cons _ t, h => Rws.get (i := i) t (by simpa using h)
theorem Rws.set {H : Hp} {v : V} {xs : List Int} (r : Row H v xs) : ∀ {vs : List V} {xss : List (List Int)} (i : Nat), Rws H vs xss → Rws H (vs.set i v) (xss.set i xs)
  | _, _, _, .nil => .nil
  | _, _, 0, .cons _ t => .cons r t
  | _, _, i + 1, .cons r' t => .cons r' (Rws.set r i t)
theorem Rws.snoc {H : Hp} {v : V} {xs : List Int} (r : Row H v xs) : ∀ {vs : List V} {xss : List (List Int)}, Rws H vs xss → Rws H (vs ++ [v]) (xss ++ [xs])
  | _, _, .nil => .cons r .nil
  | _, _, .cons r' t => .cons r' (Rws.snoc r t)
/-! ### plain -/
def img (xss : List (List Int)) (x : Int) : List Int := if 0 < x then xss.getD (x - 1).toNat [] else undone (xss.getD (0 - x - 1).toNat [])
def joined (first second : List Int) : List Int := first.take (first.length - gone first second) ++ second.drop (gone first second)
def firstOf (ahead : Bool) (more row : List Int) : List Int := if ahead = true then more else row
def nearer (xss : List (List Int)) (place : Nat) (x : Int) (ahead : Bool) : Option (List Int) :=
  let row := xss.getD place []
  let more := img xss x
  let less := gone (firstOf ahead more row) (firstOf ahead row more)
  if 2 * less < more.length then none
  else if more.length < 2 * less ∨ halvesLt (halves (joined (firstOf ahead more row) (firstOf ahead row more))) (halves row) = true then some (joined (firstOf ahead more row) (firstOf ahead row more)) else none
theorem cut_drop (xs : List Int) (m : Nat) : cut xs (some (m : Int)) none = xs.drop m := by
  unfold cut HT.sIx
  simp only [Int.toNat_natCast]
  rw [if_neg (by omega), List.take_of_length_le (by simp)]
  by_cases h : m ≤ xs.length
  · rw [Nat.min_eq_left h]
  · rw [Nat.min_eq_right (by omega), List.drop_of_length_le (by omega), List.drop_of_length_le (by omega)]
theorem gone_le (xs ys : List Int) : gone xs ys ≤ xs.length ∧ gone xs ys ≤ ys.length := by
  have := goneR_le xs.reverse ys
  rw [List.length_reverse] at this
  exact this
section
variable {P : Program} {w : World} {K : PySem.W.Frag} {mg : Str → Option Value} {base : Heap}
/-! ### both_halves -/
/-- a list of the two halves -/
def HalfL (K : PySem.W.Frag) (H : Hp) (v : V) (p : List Int × List Int) : Prop := ∃ (a : Addr) (x y : V), v = .ref a ∧ SqL K H a [x, y] ∧ IntD K H x true p.1 ∧ IntD K H y true p.2
theorem IntD.same {H H' : Hp} {v : V} {t : Bool} {xs : List Int} (e : Same H H') (h : IntD K H v t xs) : IntD K H' v t xs := by
  cases h with
  | lst h => exact .lst (e.seq h)
  | tup h => exact .tup (SqT.same e h)
theorem HalfL.same {H H' : Hp} {v : V} {p : List Int × List Int} (e : Same H H') (h : HalfL K H v p) : HalfL K H' v p := by
  obtain ⟨a, x, y, rfl, h1, h2, h3⟩ := h
  exact ⟨a, x, y, rfl, e.seq h1, h2.same e, h3.same e⟩
theorem less_halves {H : Hp} {v u : V} {p q : List Int × List Int} {Q : VK} (h : HalfL K H v p) (h' : HalfL K H u q) (hq : Q (.bl (halvesLt p q)) H) : rLtD K v u H Q := by
  obtain ⟨a, x, y, rfl, h1, h2, h3⟩ := h
  obtain ⟨b, x', y', rfl, h1', h2', h3'⟩ := h'
  have al (xs ys : List Int) : PySem.W.alike (intPy true xs) (intPy true ys) = true := by simpa [intPy, PySem.W.alike] using PySem.W.alike_ints xs ys
  have dp (xs : List Int) : PyData.depth (intPy true xs) ≤ 1 := by
    show PyData.depth (.tuple (xs.map .int)) ≤ 1
    rw [PyData.depth, PySem.W.depth_ints]
    omega
  have lt (xs ys : List Int) : PySem.W.dataLt (intPy true xs) (intPy true ys) = decide (xs < ys) := by
    show PySem.W.dataLt (.tuple (xs.map .int)) (.tuple (ys.map .int)) = _
    rw [PySem.W.dataLt_tuple]
    exact PySem.W.dataLt_ints xs ys
  have e : PySem.W.dataLt (.list [intPy true p.1, intPy true p.2]) (.list [intPy true q.1, intPy true q.2]) = halvesLt p q := by
    rw [PySem.W.dataLt_list, PySem.W.dataLt_cons (al _ _), PySem.W.dataLt_cons (al _ _), lt, lt, eqv_intPy, eqv_intPy, lex_irrefl]
    unfold halvesLt
    by_cases h1 : p.1 = q.1
    · by_cases h2 : p.2 = q.2
      · simp [h1, h2]
      · simp [h1, h2]
    · simp [h1]
  refine ⟨.list [intPy true p.1, intPy true p.2], .list [intPy true q.1, intPy true q.2], .lst h1 (.cons h2.dp (.cons h3.dp .nil)), .lst h1' (.cons h2'.dp (.cons h3'.dp .nil)), ?_, by simp, ?_, ?_⟩
  · simp [PySem.W.alike, PySem.W.alikeAll, al]
  · have := dp p.1
    have := dp p.2
    simp only [PyData.depth, PyData.depthAll]
    omega
  · rw [e]
    exact hq
@[irreducible] def spHalves (K : PySem.W.Frag) : Sp := fun vs H Q _ => ∃ (v : V) (xs : List Int), vs = [v] ∧ Row H v xs ∧ xs.length < 1000000 ∧ ∀ v' H', Same H H' → HalfL K H' v' (halves xs) → Q v' H'
theorem spHalves_i {H : Hp} {v : V} {xs : List Int} {Q : VK} {E : XK} (h : Row H v xs) (hl : xs.length < 1000000) (q : ∀ v' H', Same H H' → HalfL K H' v' (halves xs) → Q v' H') : spHalves K [v] H Q E := by
  unfold spHalves
  exact ⟨v, xs, rfl, h, hl, q⟩
theorem ok_halves (B : Bt mg) (F : Fd K mg "both_halves" s_both_halves) (D1 : Df P w K mg base CX0 1 "undone_of" ["row"] spUndone) : Df P w K mg base CX0 2 "both_halves" ["row"] (spHalves K) := by
  refine .mk' F sc_both_halves (fun _ _ _ _ _ _ us hl => match us, hl with | [_], _ => rfl) (fun vs H Q E h => ?_) (fun f cdv A outer s H vs Q E hr h => ?_)
  · unfold spHalves at h
    obtain ⟨v, xs, rfl, _⟩ := h
    rfl
  · unfold spHalves at h
    obtain ⟨v, xs, rfl, hv, hl, q⟩ := h
    have nd := sc_both_halves.nd
    refine ⟨_, PSs.nox (pss_cons (ps_set (i := 1) nd rfl (Or.inl rfl) (pe_op op_fdiv (pe_op op_add (pe_callB call_len_seq (by rfl) B.len boot_len (pa_cons (pv 0) pa_nil)) pe_int) pe_int))
      (pss_one (ps_ret (pe_callB (cr_sort2 hr.units) (by rfl) B.sorted (by decide +kernel) (pa_cons (pe_lst (pa_cons (pe_slice sl_tupA (pv 0) po_none (po_some (pv 1))) (pa_cons (pe_slice sl_tupA (pe_df D1 hr rfl pass0 (pa_cons (pv 0) pa_nil)) po_none (po_some (pv 1))) pa_nil))) pa_nil))))), ?_⟩
    obtain ⟨a, rfl, ha⟩ := len_row (K := K) hv
    refine ⟨_, rfl, a, _, rfl, .inr ha, _, _, rfl, rfl, _, _, rfl, rfl, ⟨by decide, by decide⟩, ?_⟩
    have hm : (((iV xs).length : Int) + 1) / 2 = (((xs.length + 1) / 2 : Nat) : Int) := by simp only [iV, List.length_map]; omega
    refine ⟨_, rfl, _, rfl, _, rfl, ?_⟩
    refine slA_row hv fun v1 H1 e1 r1 => ?_
    have r1 : Row H1 v1 (cut xs none (some ((((iV xs).length : Int) + 1) / 2))) := r1
    rw [hm, cut_take] at r1
    refine ⟨_, rfl, spUndone_i (hv.same e1) hl fun v2 H2 e2 r2 => ⟨_, rfl, _, rfl, ?_⟩⟩
    refine slA_row r2 fun v3 H3 e3 r3 => ?_
    have r3 : Row H3 v3 (cut (undone xs) none (some ((((iV xs).length : Int) + 1) / 2))) := r3
    rw [hm, cut_take] at r3
    refine ⟨by rw [PySem.sizeLine_eq]; simp, fun l hl => ?_⟩
    have n4 : Same H3 (upd H3 l (.lst [v1, v3])) := Same.new hl
    have r1' := r1.same ((e2.trans e3).trans n4)
    have r3' := r3.same n4
    refine ⟨l, v1, v3, _, _, rfl, SqL.of upd_same, r1'.intD, r3'.intD, by simp [undone_len], fun p hp => ?_⟩
    have n5 : Same (upd H3 l (.lst [v1, v3])) (upd (upd H3 l (.lst [v1, v3])) p (.lst (if (undone xs).take ((xs.length + 1) / 2) < xs.take ((xs.length + 1) / 2) then [v3, v1] else [v1, v3]))) := Same.new hp
    refine q _ _ ((((e1.trans e2).trans e3).trans n4).trans n5) ?_
    unfold halves
    by_cases hlt : (undone xs).take ((xs.length + 1) / 2) < xs.take ((xs.length + 1) / 2)
    · simp only [if_pos hlt]
      simp only [if_pos hlt] at n5
      exact ⟨p, v3, v1, rfl, SqL.of upd_same, (r3'.same n5).intD, (r1'.same n5).intD⟩
    · simp only [if_neg hlt]
      simp only [if_neg hlt] at n5
      exact ⟨p, v1, v3, rfl, SqL.of upd_same, (r1'.same n5).intD, (r3'.same n5).intD⟩
end
end My
namespace My
open PySem PySem.Spec PyProof.Rows L2
def OptRow (H : Hp) (v : V) : Option (List Int) → Prop
  | none => v = .non
  | some r => Row H v r
theorem OptRow.same {H H' : Hp} {v : V} {o : Option (List Int)} (e : Same H H') (h : OptRow H v o) : OptRow H' v o := by
  cases o with
  | none => exact h
  | some r => exact Row.same e h
theorem ixL_rows {K : PySem.W.Frag} {H : Hp} {a : Addr} {vs : List V} {xss : List (List Int)} {i : Int} {j : Nat} {Q : VK} (hl : SqL K H a vs) (hr : Rws H vs xss) (hi : i = (j : Int)) (hj : j < xss.length) (q : ∀ v, Row H v (xss.getD j []) → Q v H) : rIxL K (.ref a) (.int i) H Q := by
  obtain ⟨v, e, r⟩ := hr.get hj
  subst hi
  exact ⟨a, vs, _, v, rfl, rfl, hl, atI_nat e, q v r⟩
theorem noPart {σ : L2.St} {H : Hp} {Q : Option Int → Hp → Prop} (q : Q none H) : tNoPart σ H Q := q
theorem joined_len (a b : List Int) : (joined a b).length ≤ a.length + b.length := by
  unfold joined
  simp
  omega
section
variable {P : Program} {w : World} {K : PySem.W.Frag} {mg : Str → Option Value} {base : Heap}
@[irreducible] def spNearer (K : PySem.W.Frag) : Sp := fun vs H Q _ => ∃ (a : Addr) (rows : List V) (xss : List (List Int)) (p : Nat) (x : Int) (b : Bool), vs = [.ref a, .int p, .int x, .bl b] ∧ SqL K H a rows ∧ Rws H rows xss ∧ p < xss.length ∧ x ≠ 0 ∧ x.natAbs ≤ xss.length ∧ (∀ xs ∈ xss, xs.length < 100000) ∧ ∀ v H', Same H H' → OptRow H' v (nearer xss p x b) → Q v H'
theorem spNearer_i {H : Hp} {a : Addr} {rows : List V} {xss : List (List Int)} {p : Nat} {x : Int} {b : Bool} {Q : VK} {E : XK} (h1 : SqL K H a rows) (h2 : Rws H rows xss) (h3 : p < xss.length) (h4 : x ≠ 0) (h5 : x.natAbs ≤ xss.length) (h6 : ∀ xs ∈ xss, xs.length < 100000) (q : ∀ v H', Same H H' → OptRow H' v (nearer xss p x b) → Q v H') : spNearer K [.ref a, .int p, .int x, .bl b] H Q E := by
  unfold spNearer
  exact ⟨a, rows, xss, p, x, b, rfl, h1, h2, h3, h4, h5, h6, q⟩
theorem ok_nearer (B : Bt mg) (F : Fd K mg "nearer_image" s_nearer_image) (D1 : Df P w K mg base CX0 1 "undone_of" ["row"] spUndone) (D2 : Df P w K mg base CX0 1 "letters_gone" ["one", "other"] spGone) (D3 : Df P w K mg base CX0 2 "both_halves" ["row"] (spHalves K)) :
    Df P w K mg base CX0 3 "nearer_image" ["images", "place", "letter", "ahead"] (spNearer K) := by
  refine .mk' F sc_nearer_image (fun _ _ _ _ _ _ us hl => match us, hl with | [_, _, _, _], _ => rfl) (fun vs H Q E h => ?_) (fun f cdv A outer s H vs Q E hr h => ?_)
  · unfold spNearer at h
    obtain ⟨a, rows, xss, p, x, b, rfl, _⟩ := h
    rfl
  · unfold spNearer at h
    obtain ⟨a, rows, xss, p, x, b, rfl, hL, hR, hp, hx, hxl, hlen, q⟩ := h
    have nd := sc_nearer_image.nd
    refine ⟨_, PSs.nox (pss_cons (ps_set (i := 4) nd rfl (Or.inl rfl) (pe_ix ix_list (pv 0) (pv 1) (fun _ _ => rfl)))
      (pss_cons (ps_set (i := 5) nd rfl (Or.inl rfl) (pe_ifExp (pt_cmpR op_gt (pv 2) pe_int (nomark _)) (pe_ix ix_list (pv 0) (pe_op op_sub (pv 2) pe_int) (fun _ _ => rfl)) (pe_df (D1.mono (by decide)) hr rfl pass0 (pa_cons (pe_ix ix_list (pv 0) (pe_op op_sub (pe_op op_sub pe_int (pv 2)) pe_int) (fun _ _ => rfl)) pa_nil))))
      (pss_cons (ps_asg (pe_ifExp (pt_val (pv 3)) (pe_tup (pa_cons (pv 5) (pa_cons (pv 4) pa_nil))) (pe_tup (pa_cons (pv 4) (pa_cons (pv 5) pa_nil)))) (pg_tup rfl (pgs_cons (pg_name (i := 6) nd rfl (Or.inl rfl)) (pgs_cons (pg_name (i := 7) nd rfl (Or.inl rfl)) pgs_nil))))
      (pss_cons (ps_set (i := 8) nd rfl (Or.inl rfl) (pe_df (D2.mono (by decide)) hr rfl pass0 (pa_cons (pv 6) (pa_cons (pv 7) pa_nil))))
      (pss_cons (ps_if (pt_cmpR op_lt (pe_op op_mul pe_int (pv 8)) (pe_callB call_len_seq (by rfl) B.len boot_len (pa_cons (pv 5) pa_nil)) (nomark _)) (pss_one (ps_ret pe_non)) pss_nil)
      (pss_cons (ps_set (i := 9) nd rfl (Or.inl rfl) (pe_op op_catA (pe_slice sl_tupA (pv 6) po_none (po_some (pe_op op_sub (pe_callB call_len_seq (by rfl) B.len boot_len (pa_cons (pv 6) pa_nil)) (pv 8)))) (pe_slice sl_tupA (pv 7) (po_some (pv 8)) po_none)))
      (pss_cons (ps_if (PW.pt (pw_or (pt_cmpR op_gt (pe_op op_mul pe_int (pv 8)) (pe_callB call_len_seq (by rfl) B.len boot_len (pa_cons (pv 5) pa_nil)) (nomark _)) (pw_or1 (pt_cmpR (op_ltD hr.units) (pe_df D3 hr rfl pass0 (pa_cons (pv 9) pa_nil)) (pe_df D3 hr rfl pass0 (pa_cons (pv 4) pa_nil)) (nomark _))))) (pss_one (ps_ret (pv 9))) pss_nil)
      (pss_one (ps_ret pe_non))))))))), ?_⟩
    have hg : ∀ j, j < xss.length → (xss.getD j []).length < 100000 := fun j hj => by
      rw [List.getD_eq_getElem?_getD, List.getElem?_eq_getElem hj]
      exact hlen _ (List.getElem_mem hj)
    refine ⟨_, rfl, _, rfl, ixL_rows hL hR rfl hp fun row rr => ?_⟩
    -- what comes behind more
    suffices key : ∀ more H1, Same H H1 → Row H1 more (img xss x) → (img xss x).length < 100000 → _ by
      refine ⟨_, rfl, _, _, rfl, rfl, _, rfl, ?_⟩
      refine ite_of (fun h0 => ?_) (fun h0 => ?_)
      · have h0 : 0 < x := of_decide_eq_true h0
        have ei : img xss x = xss.getD (x - 1).toNat [] := if_pos h0
        refine ⟨_, rfl, _, rfl, _, _, rfl, rfl, ixL_rows hL hR (j := (x - 1).toNat) (by omega) (by omega) fun more rm => ?_⟩
        exact key more H (Same.refl H) (by rw [ei]; exact rm) (by rw [ei]; exact hg _ (by omega))
      · have h0 : ¬ 0 < x := of_decide_eq_false h0
        have ei : img xss x = undone (xss.getD (0 - x - 1).toNat []) := if_neg h0
        have hb := hg (0 - x - 1).toNat (by omega)
        refine ⟨_, rfl, _, rfl, _, _, rfl, rfl, _, _, rfl, rfl, ixL_rows hL hR (j := (0 - x - 1).toNat) (by omega) (by omega) fun less rm => ?_⟩
        refine spUndone_i rm (by omega) fun more H1 e1 r1 => ?_
        exact key more H1 e1 (by rw [ei]; exact r1) (by rw [ei, undone_len]; exact hb)
    intro more H1 e1 rm hml
    have rr1 := rr.same e1
    have hrow := hg p hp
    have en : nearer xss p x b = (if 2 * gone (firstOf b (img xss x) (xss.getD p [])) (firstOf b (xss.getD p []) (img xss x)) < (img xss x).length then none else if (img xss x).length < 2 * gone (firstOf b (img xss x) (xss.getD p [])) (firstOf b (xss.getD p []) (img xss x)) ∨ halvesLt (halves (joined (firstOf b (img xss x) (xss.getD p [])) (firstOf b (xss.getD p []) (img xss x)))) (halves (xss.getD p [])) = true then some (joined (firstOf b (img xss x) (xss.getD p [])) (firstOf b (xss.getD p []) (img xss x))) else none) := rfl
    generalize nearer xss p x b = N at en q
    generalize img xss x = M at en rm hml
    generalize xss.getD p [] = R at en rr rr1 hrow
    have pick : ∀ (Q' : VK) (σ : L2.St), σ[3]? = some (some (.bl b)) → σ[4]? = some (some row) → σ[5]? = some (some more) → (∀ t f1 s2, H1 t = none → Row H1 f1 (firstOf b M R) → Row H1 s2 (firstOf b R M) → Q' (.ref t) (upd H1 t (.tup [f1, s2]))) →
        tIf (tTest (tVar 3)) (tTup (tCons (tVar 5) (tCons (tVar 4) tNil))) (tTup (tCons (tVar 4) (tCons (tVar 5) tNil))) σ H1 Q' := by
      intro Q' σ s3 s4 s5 k
      refine ⟨_, s3, b, rfl, ?_⟩
      refine ite_of (fun hb => ?_) (fun hb => ?_)
      · exact ⟨_, s5, _, s4, by rw [PySem.sizeLine_eq]; simp, fun t ht => k t more row ht (by rw [hb]; exact rm) (by rw [hb]; exact rr1)⟩
      · exact ⟨_, s4, _, s5, by rw [PySem.sizeLine_eq]; simp, fun t ht => k t row more ht (by rw [hb]; exact rr1) (by rw [hb]; exact rm)⟩
    refine pick _ _ rfl rfl rfl fun t f1 s2 ht rf rs => ⟨t, _, rfl, .inl (.inl upd_same), rfl, _, _, rfl, _, _, rfl, rfl, ?_⟩
    have e2 : Same H1 (upd H1 t (.tup [f1, s2])) := Same.new ht
    have rf := rf.same e2
    have rs := rs.same e2
    have rm2 := rm.same e2
    have rr2 := rr1.same e2
    have lf : (firstOf b M R).length < 100000 := by cases b <;> simpa [firstOf]
    have ls : (firstOf b R M).length < 100000 := by cases b <;> simpa [firstOf]
    generalize firstOf b M R = A1 at en rf lf
    generalize firstOf b R M = A2 at en rs ls
    have gl := gone_le A1 A2
    have jl := joined_len A1 A2
    refine ⟨_, rfl, _, rfl, spGone_i rf rs ?_⟩
    obtain ⟨am, rfl, hm2⟩ := len_row (K := K) rm2
    obtain ⟨af, rfl, hf2⟩ := len_row (K := K) rf
    refine ⟨_, rfl, _, _, rfl, rfl, .inl ⟨by decide, by decide⟩, _, rfl, am, _, rfl, .inr hm2, _, _, rfl, rfl, _, rfl, ?_⟩
    simp only [iV, List.length_map]
    refine ite_of (fun h => ?_) (fun h => ?_)
    · have h : (2 : Int) * (gone A1 A2 : Nat) < (M.length : Int) := of_decide_eq_true h
      rw [if_pos (by omega)] at en
      subst en
      exact q _ _ (e1.trans e2) rfl
    · have h : ¬ (2 : Int) * (gone A1 A2 : Nat) < (M.length : Int) := of_decide_eq_false h
      rw [if_neg (by omega)] at en
      refine ⟨_, rfl, _, rfl, af, _, rfl, .inr hf2, _, rfl, _, _, rfl, rfl, _, rfl, ?_⟩
      refine slA_row rf fun v3 H3 e3 r3 => ?_
      have r3 : Row H3 v3 (cut A1 none (some (((iV A1).length : Int) - (gone A1 A2 : Nat)))) := r3
      rw [show (((iV A1).length : Int) - (gone A1 A2 : Nat)) = ((A1.length - gone A1 A2 : Nat) : Int) by simp only [iV, List.length_map]; omega, cut_take] at r3
      refine ⟨_, rfl, _, rfl, _, rfl, ?_⟩
      refine noPart ?_
      refine slA_row (rs.same e3) fun v4 H4 e4 r4 => ?_
      rw [cut_drop] at r4
      refine catA_row (r3.same e4) r4 (by rw [PySem.sizeLine_eq]; simp; omega) fun v5 H5 e5 r5 => ?_
      have r5 : Row H5 v5 (joined A1 A2) := r5
      have e25 := (e3.trans e4).trans e5
      have hm5 := SqT.same e25 hm2
      refine ⟨_, rfl, _, _, rfl, rfl, .inl ⟨by decide, by decide⟩, _, rfl, am, _, rfl, .inr hm5, _, _, rfl, rfl, _, rfl, ?_⟩
      simp only [iV, List.length_map]
      refine ite_of (fun h2 => ?_) (fun h2 => ?_)
      · have h2 : (M.length : Int) < (2 : Int) * (gone A1 A2 : Nat) := of_decide_eq_true h2
        rw [if_pos (.inl (by omega))] at en
        subst en
        exact ⟨_, rfl, q _ _ ((e1.trans e2).trans e25) r5⟩
      · have h2 : ¬ (M.length : Int) < (2 : Int) * (gone A1 A2 : Nat) := of_decide_eq_false h2
        refine ⟨_, rfl, spHalves_i r5 (by omega) fun v6 H6 e6 r6 => ⟨_, rfl, spHalves_i (rr2.same (e25.trans e6)) (by omega) fun v7 H7 e7 r7 => ?_⟩⟩
        refine less_halves (r6.same e7) r7 ⟨_, rfl, ?_⟩
        have e57 := e6.trans e7
        refine ite_of (fun h3 => ?_) (fun h3 => ?_)
        · rw [if_pos (.inr h3)] at en
          subst en
          exact ⟨_, rfl, q _ _ (((e1.trans e2).trans e25).trans e57) (r5.same e57)⟩
        · rw [if_neg (by rintro (h4 | h4); omega; rw [h3] at h4; exact absurd h4 (by decide))] at en
          subst en
          exact q _ _ (((e1.trans e2).trans e25).trans e57) rfl
end
end My
namespace My
open PySem PySem.Spec PyProof.Rows L2
/-! ### plain -/
abbrev Step := Nat × Int × Bool
def lettersFor (p o : Nat) : List Int := if o = p then [] else [(o : Int) + 1, 0 - (o : Int) - 1]
def near4 (xss : List (List Int)) (p : Nat) (x : Int) (b : Bool) : Option (Step × List Int) := (nearer xss p x b).map fun r => ((p, x, b), r)
def near3 (xss : List (List Int)) (p : Nat) (x : Int) : Option (Step × List Int) := [false, true].findSome? (near4 xss p x)
def near2 (xss : List (List Int)) (p o : Nat) : Option (Step × List Int) := (lettersFor p o).findSome? (near3 xss p)
def near1 (xss : List (List Int)) (p : Nat) : Option (Step × List Int) := (List.range xss.length).findSome? (near2 xss p)
def near (xss : List (List Int)) : Option (Step × List Int) := (List.range xss.length).findSome? (near1 xss)
theorem find_some {α β : Type} {g : α → Option β} {l : List α} {i : Nat} {x : α} {r : β} (hi : l[i]? = some x) (hb : ∀ (j : Nat) (y : α), j < i → l[j]? = some y → g y = none) (h : g x = some r) : l.findSome? g = some r := by
  induction l generalizing i with
  | nil => simp at hi
  | cons y l ih =>
    cases i with
    | zero =>
      obtain rfl : y = x := by simpa using hi
      rw [List.findSome?_cons, h]
    | succ i =>
      rw [List.findSome?_cons, hb 0 y (by omega) rfl]
      exact ih (by simpa using hi) fun j z hj hz => hb (j + 1) z (by omega) (by simpa using hz)
theorem find_none {α β : Type} {g : α → Option β} {l : List α} (hb : ∀ (j : Nat) (y : α), j < l.length → l[j]? = some y → g y = none) : l.findSome? g = none := by
  rw [List.findSome?_eq_none_iff]
  intro x hx
  obtain ⟨j, hj, rfl⟩ := List.mem_iff_getElem.mp hx
  exact hb j _ hj (List.getElem?_eq_getElem hj)
theorem findR_some {β : Type} {g : Nat → Option β} {n i : Nat} {r : β} (hi : i < n) (hb : ∀ j, j < i → g j = none) (h : g i = some r) : (List.range n).findSome? g = some r := find_some (i := i) (x := i) (by simp [hi]) (fun j y hj hy => by
    rw [List.getElem?_range (by omega)] at hy
    cases hy
    exact hb j hj) h
theorem findR_none {β : Type} {g : Nat → Option β} {n : Nat} (hb : ∀ j, j < n → g j = none) : (List.range n).findSome? g = none := find_none fun j y hj hy => by
  simp only [List.length_range] at hj
  rw [List.getElem?_range hj] at hy
  cases hy
  exact hb j hj
theorem iList_of {K : PySem.W.Frag} {tl : TE} {σ : L2.St} {H : Hp} {R : It → Hp → Prop} (C : Addr → Hp → Prop) (h : ∀ Q : VK, (∀ l H3, C l H3 → Q (.ref l) H3) → tl σ H Q) (hC : ∀ l H3, C l H3 → ∃ xs, SqL K H3 l xs) (k : ∀ l H3, C l H3 → R (Itl K l) H3) : iList K tl σ H R :=
  h _ fun l H3 c => ⟨l, rfl, hC l H3 c, k l H3 c⟩
theorem gName_i {j : Nat} {v : V} {σ : L2.St} {H : Hp} {Q : L2.St → Hp → Prop} (q : Q (σ.set j (some v)) H) : gName j v σ H Q := q
theorem tFor_list {K : PySem.W.Frag} {tl : TE} {g : TG} {tb : TS} {D : Ends} {σ : L2.St} {H : Hp} (C : Addr → Hp → Prop) (h : ∀ Q : VK, (∀ l H3, C l H3 → Q (.ref l) H3) → tl σ H Q) (hC : ∀ l H3, C l H3 → ∃ xs, SqL K H3 l xs)
    (k : ∀ l H3, C l H3 → ∃ W : Nat → Nat → L2.St → Hp → Prop, (∃ m, W 0 m σ H3) ∧ ∀ i m σ H, W i m σ H → ((Itl K l).stop i H ∧ D.nx σ H) ∨ ((Itl K l).go i H ∧ ∃ N : L2.St → Hp → Prop, (∀ σ' H', N σ' H' → ∃ m', m' < m ∧ W (i + 1) m' σ' H') ∧ ∀ x H', (Itl K l).yld i H x H' → g x σ H' fun σ2 H2 => tb { nx := N, rt := D.rt, bk := D.nx, ct := N } σ2 H2)) :
    tFor (iList K tl) g tb D σ H := iList_of C h hC k
def NearV (H : Hp) (v : V) : Option (Step × List Int) → Prop
  | none => v = .non
  | some (s, r) => ∃ (a t : Addr) (u : V), v = .ref a ∧ H a = some (.tup [.ref t, u]) ∧ H t = some (.tup [.int s.1, .int s.2.1, .bl s.2.2]) ∧ Row H u r
section
variable {P : Program} {w : World} {K : PySem.W.Frag} {mg : Str → Option Value} {base : Heap}
@[irreducible] def spNear (K : PySem.W.Frag) : Sp := fun vs H Q _ => ∃ (a : Addr) (rows : List V) (xss : List (List Int)), vs = [.ref a] ∧ SqL K H a rows ∧ Rws H rows xss ∧ xss.length < 1000 ∧ (∀ xs ∈ xss, xs.length < 100000) ∧ ∀ v H', Same H H' → NearV H' v (near xss) → Q v H'
theorem spNear_i {H : Hp} {a : Addr} {rows : List V} {xss : List (List Int)} {Q : VK} {E : XK} (h1 : SqL K H a rows) (h2 : Rws H rows xss) (h3 : xss.length < 1000) (h6 : ∀ xs ∈ xss, xs.length < 100000) (q : ∀ v H', Same H H' → NearV H' v (near xss) → Q v H') : spNear K [.ref a] H Q E := by
  unfold spNear
  exact ⟨a, rows, xss, rfl, h1, h2, h3, h6, q⟩
theorem ok_near (B : Bt mg) (F : Fd K mg "near_step" s_near_step) (D3 : Df P w K mg base CX0 3 "nearer_image" ["images", "place", "letter", "ahead"] (spNearer K)) :
    Df P w K mg base CX0 4 "near_step" ["images"] (spNear K) := by
  refine .mk' F sc_near_step (fun _ _ _ _ _ _ us hl => match us, hl with | [_], _ => rfl) (fun vs H Q E h => ?_) (fun f cdv A outer s H vs Q E hr h => ?_)
  · unfold spNear at h
    obtain ⟨a, rows, xss, rfl, _⟩ := h
    rfl
  · unfold spNear at h
    obtain ⟨a, rows, xss, rfl, hL, hR, hn, hlen, q⟩ := h
    have nd := sc_near_step.nd
    refine ⟨_, PSs.nox (pss_cons (ps_for PassesOwn.never rfl (pi_range1 (by rfl) B.range (pa_cons (pe_callB call_lenK (by rfl) B.len boot_len (pa_cons (pv 0) pa_nil)) pa_nil)) (pg_name (i := 1) nd rfl (Or.inl rfl))
      (pss_one (ps_for PassesOwn.never rfl (pi_range1 (by rfl) B.range (pa_cons (pe_callB call_lenK (by rfl) B.len boot_len (pa_cons (pv 0) pa_nil)) pa_nil)) (pg_name (i := 2) nd rfl (Or.inl rfl))
      (pss_one (ps_for PassesOwn.never rfl (pi_list (pe_ifExp (pt_cmpR op_eq (pv 2) (pv 1) (nomark _)) (pe_lst pa_nil) (pe_lst (pa_cons (pe_op op_add (pv 2) (pe_int)) (pa_cons (pe_op op_sub (pe_op op_sub (pe_int) (pv 2)) (pe_int)) pa_nil))))) (pg_name (i := 3) nd rfl (Or.inl rfl))
      (pss_one (ps_for PassesOwn.never rfl (pi_tup (pe_tup (pa_cons (pe_bl) (pa_cons (pe_bl) pa_nil)))) (pg_name (i := 4) nd rfl (Or.inl rfl))
      (pss_cons (ps_set (i := 5) nd rfl (Or.inl rfl) (pe_df D3 hr rfl pass0 (pa_cons (pv 0) (pa_cons (pv 1) (pa_cons (pv 3) (pa_cons (pv 4) pa_nil))))))
      (pss_one (ps_if (pt_cmpR op_notN (pv 5) (pe_non) (nomark _))
      (pss_one (ps_ret (pe_tup (pa_cons (pe_tup (pa_cons (pv 1) (pa_cons (pv 3) (pa_cons (pv 4) pa_nil)))) (pa_cons (pv 5) pa_nil))))) (pss_nil)))))))))))
      (pss_one (ps_ret (pe_non)))), ?_⟩
    have hlen1 := hR.len
    refine ⟨_, rfl, a, _, rfl, .inl hL, _, rfl, by omega, by omega, ?_⟩
    have e1 : ((rows.length : Int)).toNat = xss.length := by omega
    rw [e1]
    refine for_wk (wk_range (H1 := H)) (fun i σ H' => ∃ x1 x2 x3 x4 x5, σ = [some (.ref a), x1, x2, x3, x4, x5] ∧ Same H H' ∧ ∀ j, j < i → near1 xss j = none) ⟨_, _, _, _, _, rfl, Same.refl H, fun j h => absurd h (by omega)⟩ (fun i σ H' h => by obtain ⟨_, _, _, _, _, _, h, _⟩ := h; exact h) ?_ ?_
    · rintro i σ H1 hi ⟨x1, x2, x3, x4, x5, rfl, s1, n1⟩
      refine ⟨_, rfl, a, _, rfl, .inl (s1.seq hL), _, rfl, by omega, by omega, ?_⟩
      rw [e1]
      refine for_wk (wk_range (H1 := H)) (fun k σ H' => ∃ x2 x3 x4 x5, σ = [some (.ref a), some (.int (0 + (i : Int))), x2, x3, x4, x5] ∧ Same H H' ∧ ∀ j, j < k → near2 xss i j = none) ⟨_, _, _, _, rfl, s1, fun j h => absurd h (by omega)⟩ (fun k σ H' h => by obtain ⟨_, _, _, _, _, h, _⟩ := h; exact h) ?_ ?_
      · rintro o σ H2 ho ⟨x2, x3, x4, x5, rfl, s2, n2⟩
        refine gName_i (tFor_list (fun l H3 => Same H H3 ∧ SqL K H3 l (iV (lettersFor i o))) (fun Q' third => ?_) (fun l H3 c => ⟨_, c.2⟩) ?_)
        · refine ⟨_, rfl, _, rfl, rfl, _, rfl, ?_⟩
          refine ite_of (fun h => ?_) (fun h => ?_)
          · have h : o = i := by rw [decI, decide_eq_true_eq] at h; omega
            refine ⟨Nat.zero_le _, fun l hl => third l (upd H2 l (.lst [])) ⟨s2.trans (Same.new hl), ?_⟩⟩
            rw [lettersFor, if_pos h]
            exact SqL.of upd_same
          · have h : o ≠ i := by rw [decI, decide_eq_false_iff_not] at h; omega
            refine ⟨_, rfl, _, _, rfl, rfl, _, rfl, _, _, rfl, rfl, _, _, rfl, rfl, by rw [PySem.sizeLine_eq]; simp, fun l hl => third l (upd H2 l (.lst [.int (0 + (o : Int) + 1), .int (0 - (0 + (o : Int)) - 1)])) ⟨s2.trans (Same.new hl), ?_⟩⟩
            rw [lettersFor, if_neg h]
            refine SqL.of ?_
            rw [upd_same, show (0 : Int) + (o : Int) = o by omega]
            rfl
        · rintro l H3 ⟨s3, hl⟩
          have hw := wk_list hl
          simp only [iV, List.length_map] at hw
          refine for_wk hw (fun k σ H' => ∃ x3 x4 x5, σ = [some (.ref a), some (.int (0 + (i : Int))), some (.int (0 + (o : Int))), x3, x4, x5] ∧ Same H3 H' ∧ ∀ (j : Nat) (y : Int), j < k → (lettersFor i o)[j]? = some y → near3 xss i y = none) ⟨_, _, _, rfl, Same.refl H3, fun j y h => absurd h (by omega)⟩ (fun k σ H' h => by obtain ⟨_, _, _, _, h, _⟩ := h; exact h) ?_ ?_
          · rintro k σ H4 hk ⟨x3, x4, x5, rfl, s4, n4⟩
            have hx := iV_getD hk
            have hy : (lettersFor i o)[k]? = some ((lettersFor i o).getD k 0) := by rw [List.getD_eq_getElem?_getD, List.getElem?_eq_getElem hk]; rfl
            generalize (lettersFor i o).getD k 0 = x at hx hy
            have hx : (List.map V.int (lettersFor i o)).getD k .non = .int x := hx
            rw [hx]
            have hxx : x ≠ 0 ∧ x.natAbs ≤ xss.length := by
              have := List.mem_of_getElem? hy
              unfold lettersFor at this
              split at this
              · simp at this
              · simp at this
                omega
            refine ⟨by rw [PySem.sizeLine_eq]; simp, fun t ht => ⟨t, rfl, ⟨_, .inl (.inl upd_same)⟩, ?_⟩⟩
            have s5 : Same H4 (upd H4 t (.tup [.bl false, .bl true])) := Same.new ht
            refine for_wk (wk_tup (K := K) (H1 := upd H4 t (.tup [.bl false, .bl true])) (.inl (.inl upd_same))) (fun k σ H' => ∃ x4 x5, σ = [some (.ref a), some (.int (0 + (i : Int))), some (.int (0 + (o : Int))), some (.int x), x4, x5] ∧ Same (upd H4 t (.tup [.bl false, .bl true])) H' ∧ ∀ (j : Nat) (b : Bool), j < k → [false, true][j]? = some b → near4 xss i x b = none) ⟨_, _, rfl, Same.refl _, fun j y h => absurd h (by omega)⟩ (fun k σ H' h => by obtain ⟨_, _, _, h, _⟩ := h; exact h) ?_ ?_
            · rintro k2 σ H6 hk2 ⟨x4, x5, rfl, s6, n6⟩
              have hk2 : k2 < 2 := hk2
              obtain ⟨b, hb, hbv⟩ : ∃ b, [false, true][k2]? = some b ∧ [V.bl false, V.bl true].getD k2 .non = .bl b := by
                match k2, hk2 with
                | 0, _ => exact ⟨false, rfl, rfl⟩
                | 1, _ => exact ⟨true, rfl, rfl⟩
              rw [hbv]
              have s36 : Same H H6 := ((s3.trans s4).trans s5).trans s6
              refine ⟨_, rfl, _, rfl, _, rfl, _, rfl, ?_⟩
              rw [show ((0 : Int) + (i : Int)) = i by omega]
              refine spNearer_i (s36.seq hL) (hR.same s36) hi hxx.1 hxx.2 hlen fun v H7 s7 o7 => ?_
              have s67 := s6.trans s7
              refine ⟨_, rfl, rfl, _, rfl, ?_⟩
              cases en : nearer xss i x b with
              | none =>
                rw [en] at o7
                obtain rfl : v = .non := o7
                refine iteF_of (by simp) ⟨_, _, rfl, s67, fun j b' hj hb' => ?_⟩
                by_cases h : j < k2
                · exact n6 j b' h hb'
                · obtain rfl : j = k2 := by omega
                  rw [hb] at hb'
                  cases hb'
                  rw [near4, en]
                  rfl
              | some r =>
                rw [en] at o7
                obtain ⟨a7, rfl, h7⟩ : Row H7 v r := o7
                have e4 : near4 xss i x b = some ((i, x, b), r) := by rw [near4, en]; rfl
                have e3 : near3 xss i x = some ((i, x, b), r) := find_some hb (fun j y hj hy => n6 j y hj hy) e4
                have e2 : near2 xss i o = some ((i, x, b), r) := find_some hy (fun j y hj hy => n4 j y hj hy) e3
                have e1 : near1 xss i = some ((i, x, b), r) := findR_some ho n2 e2
                have e0 : near xss = some ((i, x, b), r) := findR_some hi n1 e1
                refine iteT_of (by simp) ⟨_, rfl, _, rfl, _, rfl, by rw [PySem.sizeLine_eq]; simp, fun t7 ht7 => ⟨_, rfl, by rw [PySem.sizeLine_eq]; simp, fun u7 hu7 => q _ _ ?_ ?_⟩⟩
                · exact ((s36.trans s7).trans (Same.new ht7)).trans (Same.new hu7)
                · rw [e0]
                  exact ⟨u7, t7, _, rfl, upd_same, by rw [upd_ne (ne_of_none upd_same hu7), upd_same], (Row.same ((Same.new ht7).trans (Same.new hu7)) ⟨a7, rfl, h7⟩)⟩
            · rintro σ H6 ⟨x4, x5, rfl, s6, n6⟩
              refine ⟨_, _, _, rfl, (s4.trans s5).trans s6, fun j y hj hy4 => ?_⟩
              by_cases h : j < k
              · exact n4 j y h hy4
              · obtain rfl : j = k := by omega
                rw [hy] at hy4
                cases hy4
                exact find_none n6
          · rintro σ H4 ⟨x3, x4, x5, rfl, s4, n4⟩
            refine ⟨_, _, _, _, rfl, s3.trans s4, fun j hj => ?_⟩
            by_cases h : j < o
            · exact n2 j h
            · obtain rfl : j = o := by omega
              exact find_none n4
      · rintro σ H2 ⟨x2, x3, x4, x5, rfl, s2, n2⟩
        exact ⟨_, _, _, _, _, rfl, s2, fun j hj => by
          by_cases h : j < i
          · exact n1 j h
          · obtain rfl : j = i := by omega
            exact findR_none n2⟩
    · rintro σ H1 ⟨x1, x2, x3, x4, x5, rfl, s1, n1⟩
      refine q _ _ s1 ?_
      rw [show near xss = none from findR_none n1]
      rfl
end
end My
namespace My
open PySem PySem.Spec PyProof.Rows L2
/-- the steps down, and the last images -/
inductive Down : List (List Int) → List Step → List (List Int) → Prop
  | stop {xss : List (List Int)} : near xss = none → Down xss [] xss
  | step {xss last : List (List Int)} {s : Step} {r : List Int} {steps : List Step} : near xss = some (s, r) → Down (xss.set s.1 r) steps last → Down xss (s :: steps) last
/-- steps come to an end: G stays, and the measure falls -/
structure Falls (G : List (List Int) → Prop) (μ : List (List Int) → Nat) : Prop where
  small : ∀ xss, G xss → xss.length < 1000 ∧ (∀ xs ∈ xss, xs.length < 100000) ∧ μ xss < 16000000
  step : ∀ xss s r, G xss → near xss = some (s, r) → G (xss.set s.1 r) ∧ μ (xss.set s.1 r) < μ xss
/-- steps so far, in front of the rest -/
def DownFrom (x0 : List (List Int)) (done : List Step) (xss : List (List Int)) : Prop := ∀ steps last, Down xss steps last → Down x0 (done ++ steps) last
theorem near_place {xss : List (List Int)} {s : Step} {r : List Int} (h : near xss = some (s, r)) : s.1 < xss.length := by
  unfold near at h
  obtain ⟨p, hp, h⟩ := List.exists_of_findSome?_eq_some h
  unfold near1 at h
  obtain ⟨o, ho, h⟩ := List.exists_of_findSome?_eq_some h
  unfold near2 at h
  obtain ⟨x, hx, h⟩ := List.exists_of_findSome?_eq_some h
  unfold near3 at h
  obtain ⟨b, hb, h⟩ := List.exists_of_findSome?_eq_some h
  unfold near4 at h
  obtain ⟨r', _, h⟩ := Option.map_eq_some_iff.mp h
  cases h
  exact List.mem_range.mp hp
/-- a step as a value -/
def StepV (H : Hp) (v : V) (s : Step) : Prop := ∃ t, v = .ref t ∧ H t = some (.tup [.int s.1, .int s.2.1, .bl s.2.2])
inductive StepsV (H : Hp) : List V → List Step → Prop
  | nil : StepsV H [] []
  | cons {v : V} {s : Step} {vs : List V} {ss : List Step} : StepV H v s → StepsV H vs ss → StepsV H (v :: vs) (s :: ss)
theorem StepsV.tst {H H' : Hp} (e : Tst H H') : ∀ {vs : List V} {ss : List Step}, StepsV H vs ss → StepsV H' vs ss
  | _, _, .nil => .nil
  | _, _, .cons ⟨t, h1, h2⟩ r => .cons ⟨t, h1, e _ _ h2⟩ (StepsV.tst e r)
theorem StepsV.snoc {H : Hp} {v : V} {s : Step} (h : StepV H v s) : ∀ {vs : List V} {ss : List Step}, StepsV H vs ss → StepsV H (vs ++ [v]) (ss ++ [s])
  | _, _, .nil => .cons h .nil
  | _, _, .cons a r => .cons a (StepsV.snoc h r)
theorem StepsV.len {H : Hp} : ∀ {vs : List V} {ss : List Step}, StepsV H vs ss → vs.length = ss.length
  | _, _, .nil => rfl
  | _, _, .cons _ r => congrArg (· + 1) (StepsV.len r)
section
variable {P : Program} {w : World} {K : PySem.W.Frag} {mg : Str → Option Value} {base : Heap}
theorem ixN_nat' {n j : Nat} (h : j < n) : ixN n (j : Int) = some j := by
  unfold ixN
  simp [h]
/-! ### steps_down -/
@[irreducible] def spDown (K : PySem.W.Frag) : Sp := fun vs H Q _ => ∃ (a : Addr) (rows : List V) (xss : List (List Int)) (G : List (List Int) → Prop) (μ : List (List Int) → Nat), vs = [.ref a] ∧ SqS K H a rows ∧ Rws H rows xss ∧ Falls G μ ∧ G xss ∧
  ∀ (t s n : Addr) (sv nv : List V) (steps : List Step) (last : List (List Int)) (H' : Hp), Same H H' → H' t = some (.tup [.ref s, .ref n]) → H' s = some (.lst sv) → StepsV H' sv steps → H' n = some (.lst nv) → Rws H' nv last → Down xss steps last → G last → Q (.ref t) H'
theorem spDown_i {H : Hp} {a : Addr} {rows : List V} {xss : List (List Int)} {G : List (List Int) → Prop} {μ : List (List Int) → Nat} {Q : VK} {E : XK} (h1 : SqS K H a rows) (h2 : Rws H rows xss) (h3 : Falls G μ) (h4 : G xss)
    (q : ∀ (t s n : Addr) (sv nv : List V) (steps : List Step) (last : List (List Int)) (H' : Hp), Same H H' → H' t = some (.tup [.ref s, .ref n]) → H' s = some (.lst sv) → StepsV H' sv steps → H' n = some (.lst nv) → Rws H' nv last → Down xss steps last → G last → Q (.ref t) H') : spDown K [.ref a] H Q E := by
  unfold spDown
  exact ⟨a, rows, xss, G, μ, rfl, h1, h2, h3, h4, q⟩
theorem ok_down (B : Bt mg) (F : Fd K mg "steps_down" s_steps_down) (D4 : Df P w K mg base CX0 4 "near_step" ["images"] (spNear K)) : Df P w K mg base CX0 5 "steps_down" ["images"] (spDown K) := by
  refine .mk' F sc_steps_down (fun _ _ _ _ _ _ us hl => match us, hl with | [_], _ => rfl) (fun vs H Q E h => ?_) (fun f cdv A outer s H vs Q E hr h => ?_)
  · unfold spDown at h
    obtain ⟨a, rows, xss, G, μ, rfl, _⟩ := h
    rfl
  · unfold spDown at h
    obtain ⟨a, rows, xss, G, μ, rfl, hS, hR, hF, hG, q⟩ := h
    have nd := sc_steps_down.nd
    refine ⟨_, PSs.nox (pss_cons (ps_par (i := 1) (j := 2) (by rfl) nd rfl rfl (by decide) rfl rfl (pa_cons (pe_callTy call_list_of (by rfl) B.list (by decide +kernel) (pa_cons (pv 0) pa_nil)) (pa_cons (pe_lst pa_nil) pa_nil)) (by rfl))
      (pss_cons (ps_set (i := 3) nd rfl (Or.inl rfl) (pe_df D4 hr rfl pass0 (pa_cons (pv 1) pa_nil)))
      (pss_cons (ps_while PassesOwn.never (pt_cmpR op_notN (pv 3) (pe_non) (nomark _))
      (pss_cons (ps_expr (pe_bm PySem.F.plainAttrs_list PySem.F.slot_list_append PySem.F.type_list_append mt_append (pv 2) (pa_cons (pe_ix ix_tup (pv 3) (pe_int) (fun _ _ => rfl)) pa_nil)))
      (pss_cons (ps_asg (pe_ix ix_tup (pv 3) (pe_int) (fun _ _ => rfl)) (pg_sub (pv 1) (pe_ix ix_tup (pe_ix ix_tup (pv 3) (pe_int) (fun _ _ => rfl)) (pe_int) (fun _ _ => rfl)) set_list))
      (pss_one (ps_set (i := 3) nd rfl (Or.inl rfl) (pe_df D4 hr rfl pass0 (pa_cons (pv 1) pa_nil)))))))
      (pss_one (ps_ret (pe_tup (pa_cons (pv 2) (pa_cons (pv 1) pa_nil)))))))), ?_⟩
    obtain ⟨b1, b2, b3⟩ := hF.small _ hG
    refine ⟨_, rfl, a, _, rfl, hS, fun n hn => ⟨Nat.zero_le _, fun l hl => ⟨_, _, rfl, ?_⟩⟩⟩
    have s1 : Same H (upd (upd H n (.lst rows)) l (.lst [])) := (Same.new hn).trans (Same.new hl)
    have hn1 : upd (upd H n (.lst rows)) l (.lst []) n = some (.lst rows) := by rw [upd_ne (ne_of_none upd_same hl), upd_same]
    refine ⟨_, rfl, spNear_i (SqL.of hn1) (hR.same s1) b1 b2 fun v H1 s2 nv => ?_⟩
    have hl0 : H l = none := by
      cases e : H l with
      | none => rfl
      | some o => exact absurd ((Same.new hn) _ _ e) (by rw [hl]; simp)
    have hnl : n ≠ l := ne_of_none upd_same hl
    refine ⟨fun m σ H' => ∃ v xs nvals svals done, σ = [some (.ref a), some (.ref n), some (.ref l), some v] ∧ m = μ xs ∧ Same H H' ∧ H' n = some (.lst nvals) ∧ Rws H' nvals xs ∧ H' l = some (.lst svals) ∧ StepsV H' svals done ∧ NearV H' v (near xs) ∧ G xs ∧ DownFrom xss done xs ∧ done.length + μ xs ≤ μ xss,
      ⟨μ xss, v, xss, rows, [], [], rfl, rfl, s1.trans s2, s2 _ _ hn1, hR.same (s1.trans s2), s2 _ _ upd_same, .nil, nv, hG, fun _ _ h => h, by simp⟩, ?_⟩
    rintro m σ H2 ⟨v, xs, nvals, svals, done, rfl, rfl, s3, e1, r1, e2, r2, nv, g, df, hm⟩
    refine ⟨_, rfl, rfl, _, rfl, ?_⟩
    refine iteN (fun e => ?_) (fun e => ?_)
    · subst e
      have en : near xs = none := by
        cases h : near xs with
        | none => rfl
        | some p =>
          rw [h] at nv
          obtain ⟨_, _, _, h, _⟩ := nv
          cases h
      refine ⟨_, rfl, _, rfl, by rw [PySem.sizeLine_eq]; simp, fun t ht => ?_⟩
      have s4 : Same H2 (upd H2 t (.tup [.ref l, .ref n])) := Same.new ht
      have := df [] xs (.stop en)
      rw [List.append_nil] at this
      exact q t l n svals nvals done xs _ (s3.trans s4) upd_same (s4 _ _ e2) (r2.tst (Tst.of s4)) (s4 _ _ e1) (r1.same s4) this g
    · cases en : near xs with
      | none =>
        rw [en] at nv
        exact absurd nv e
      | some p =>
        obtain ⟨st, r⟩ := p
        rw [en] at nv
        obtain ⟨t, u, z, rfl, ht, hu, hz⟩ := nv
        have hp := near_place en
        obtain ⟨g2, lt⟩ := hF.step xs st r g en
        obtain ⟨c1, c2, c3⟩ := hF.small _ g2
        have c4 := (hF.small _ g).2.2
        refine ⟨fun σ' H' => ∃ v nvals svals, σ' = [some (.ref a), some (.ref n), some (.ref l), some v] ∧ Same H H' ∧ H' n = some (.lst nvals) ∧ Rws H' nvals (xs.set st.1 r) ∧ H' l = some (.lst svals) ∧ StepsV H' svals (done ++ [st]) ∧ NearV H' v (near (xs.set st.1 r)), fun σ' H' ⟨v, nvals, svals, h1, h2, h3, h4, h5, h6, h7⟩ => ⟨_, lt, v, xs.set st.1 r, nvals, svals, done ++ [st], h1, rfl, h2, h3, h4, h5, h6, h7, g2, fun steps last h => by
          rw [List.append_assoc]
          exact df _ _ (.step en h), by simp; omega⟩, ?_⟩
        refine ⟨_, rfl, .inl ⟨rfl, _, SqL.of e2⟩, _, rfl, t, _, _, _, rfl, rfl, .inl (.inl ht), atI_nat (j := 0) rfl, l, svals, .ref u, rfl, rfl, e2, by rw [r2.len, PySem.sizeLine_eq]; omega, ?_⟩
        have s5 : Same H (upd H2 l (.lst (svals ++ [.ref u]))) := Same.mut s3 hl0
        have t5 : Tst H2 (upd H2 l (.lst (svals ++ [.ref u]))) := (Tst.refl _).upd e2 fun xs z => by cases z
        have e15 : upd H2 l (.lst (svals ++ [.ref u])) n = some (.lst nvals) := by rw [upd_ne hnl]; exact e1
        have ht5 := t5 _ _ ht
        have hu5 := t5 _ _ hu
        refine ⟨_, rfl, t, _, _, _, rfl, rfl, .inl (.inl ht5), atI_nat (j := 1) rfl, _, rfl, _, rfl, t, _, _, _, rfl, rfl, .inl (.inl ht5), atI_nat (j := 0) rfl, u, _, _, _, rfl, rfl, .inl (.inl hu5), atI_nat (j := 0) rfl, n, nvals, _, st.1, rfl, rfl, e15, ?_, ?_⟩
        · exact ixN_nat' (by rw [r1.len]; exact hp)
        · have s6 : Same H (upd (upd H2 l (.lst (svals ++ [.ref u]))) n (.lst (nvals.set st.1 z))) := Same.mut s5 hn
          have t6 : Tst H2 (upd (upd H2 l (.lst (svals ++ [.ref u]))) n (.lst (nvals.set st.1 z))) := t5.upd e15 fun xs z => by cases z
          have r6 : Rws (upd (upd H2 l (.lst (svals ++ [.ref u]))) n (.lst (nvals.set st.1 z))) (nvals.set st.1 z) (xs.set st.1 r) := Rws.set (hz.tst t6) st.1 (r1.tst t6)
          refine ⟨_, rfl, spNear_i (SqL.of upd_same) r6 c1 c2 fun v H7 s7 nv7 => ?_⟩
          refine ⟨v, nvals.set st.1 z, svals ++ [.ref u], rfl, s6.trans s7, s7 _ _ upd_same, r6.same s7, s7 _ _ ?_, (r2.snoc ⟨u, rfl, hu⟩).tst (t6.trans (Tst.of s7)), nv7⟩
          rw [upd_ne hnl.symm, upd_same]
end
end My
namespace My
open PySem PySem.Spec PyProof.Rows L2
/-! ### lists and tuples of rows, compared -/
def rowsPy (t : Bool) (xss : List (List Int)) : PyData := if t then .tuple (xss.map (intPy true)) else .list (xss.map (intPy true))
theorem eqvAll_rows : ∀ xss yss : List (List Int), PyData.eqvAll (xss.map (intPy true)) (yss.map (intPy true)) = decide (xss = yss)
  | [], [] => by simp [PyData.eqvAll]
  | [], _ :: _ => by simp [PyData.eqvAll]
  | _ :: _, [] => by simp [PyData.eqvAll]
  | x :: xs, y :: ys => by
    rw [List.map_cons, List.map_cons, PyData.eqvAll, eqvAll_rows xs ys, eqv_intPy, ← Bool.decide_and]
    exact decide_eq_decide.mpr (by rw [List.cons.injEq])
theorem eqv_rows (t : Bool) (xss yss : List (List Int)) : PyData.eqv (rowsPy t xss) (rowsPy t yss) = decide (xss = yss) := by
  cases t
  · show PyData.eqv (.list _) (.list _) = _
    rw [PyData.eqv, eqvAll_rows]
  · show PyData.eqv (.tuple _) (.tuple _) = _
    rw [PyData.eqv, eqvAll_rows]
theorem can_rows : ∀ xss : List (List Int), PyData.canLayAll0 (xss.map (intPy true)) = true
  | [] => by simp [PyData.canLayAll0]
  | x :: r => by
    rw [List.map_cons, PyData.canLayAll0, can_rows r]
    simp [intPy, PyData.canLay0, canAll_int]
theorem depth_rows : ∀ xss : List (List Int), PyData.depthAll (xss.map (intPy true)) ≤ 2
  | [] => by simp [PyData.depthAll]
  | x :: r => by
    rw [List.map_cons, PyData.depthAll]
    refine Nat.max_le.mpr ⟨?_, depth_rows r⟩
    have := depthAll_int x
    simp only [intPy, if_true, PyData.depth]
    omega
theorem shaped_rows (t : Bool) (xss : List (List Int)) : SeqAt.shaped (rowsPy t xss) = true := by
  have := depth_rows xss
  unfold SeqAt.shaped
  cases t
  · show (PyData.canLay0 (.list _) && decide (PyData.depth (.list _) ≤ 64)) = true
    rw [PyData.canLay0, can_rows, PyData.depth]
    simp; omega
  · show (PyData.canLay0 (.tuple _) && decide (PyData.depth (.tuple _) ≤ 64)) = true
    rw [PyData.canLay0, can_rows, PyData.depth]
    simp; omega
/-- a list or tuple of rows -/
def RowsV (K : PySem.W.Frag) (H : Hp) (v : V) (t : Bool) (xss : List (List Int)) : Prop := ∃ (a : Addr) (vs : List V), v = .ref a ∧ (if t then SqT K H a vs else SqL K H a vs) ∧ Rws H vs xss
theorem Rws.dpa {K : PySem.W.Frag} {H : Hp} : ∀ {vs : List V} {xss : List (List Int)}, Rws H vs xss → DpAll K H vs (xss.map (intPy true))
  | _, _, .nil => .nil
  | _, _, .cons r t => .cons r.intD.dp (Rws.dpa t)
theorem RowsV.dp {K : PySem.W.Frag} {H : Hp} {v : V} {t : Bool} {xss : List (List Int)} (h : RowsV K H v t xss) : Dp K H v (rowsPy t xss) := by
  obtain ⟨a, vs, rfl, h, r⟩ := h
  cases t
  · exact .lst h r.dpa
  · exact .tup h r.dpa
theorem RowsV.same {K : PySem.W.Frag} {H H' : Hp} {v : V} {t : Bool} {xss : List (List Int)} (e : Same H H') (h : RowsV K H v t xss) : RowsV K H' v t xss := by
  obtain ⟨a, vs, rfl, h, r⟩ := h
  refine ⟨a, vs, rfl, ?_, r.same e⟩
  cases t
  · exact e.seq h
  · exact SqT.same e h
theorem eqD_rows {K : PySem.W.Frag} {H : Hp} {v w : V} {t : Bool} {xss yss : List (List Int)} {Q : VK} (h : RowsV K H v t xss) (h' : RowsV K H w t yss) (q : Q (.bl (decide (xss = yss))) H) : rEqD K v w H Q := ⟨_, _, h.dp, h'.dp, shaped_rows _ _, shaped_rows _ _, by rw [eqv_rows]; exact q⟩
theorem neD_rows {K : PySem.W.Frag} {H : Hp} {v w : V} {t : Bool} {xss yss : List (List Int)} {Q : VK} (h : RowsV K H v t xss) (h' : RowsV K H w t yss) (q : Q (.bl (!decide (xss = yss))) H) : rNeD K v w H Q := ⟨_, _, h.dp, h'.dp, shaped_rows _ _, shaped_rows _ _, by rw [eqv_rows]; exact q⟩
/-! ### plain -/
def rowD' (xs : List Int) : Dt := .tup (xs.map Dt.int)
def rowsD (xss : List (List Int)) : Dt := .tup (xss.map rowD')
def plainRowsD (n : Int) : Dt → Bool
  | .tup ds => decide ((ds.length : Int) = n) && ds.all (plainRowD n)
  | _ => false
def PlainRow (n : Int) (xs : List Int) : Prop := (∀ x ∈ xs, 0 - n ≤ x ∧ x ≤ n ∧ x ≠ 0) ∧ adjOk xs = true
theorem plainRowD_row {n : Int} {d : Dt} (h : plainRowD n d = true) : ∃ xs, d = rowD' xs ∧ PlainRow n xs := by
  cases d with
  | tup ds =>
    have h : (ds.all (letterD n) && adjOk (ds.map intD)) = true := h
    rw [Bool.and_eq_true] at h
    obtain ⟨xs, rfl, hx⟩ := letters_ints h.1
    rw [intD_map] at h
    exact ⟨xs, rfl, hx, h.2⟩
  | _ => cases h
theorem plainRowsD_rows {n : Int} {d : Dt} (h : plainRowsD n d = true) : ∃ xss, d = rowsD xss ∧ (xss.length : Int) = n ∧ ∀ xs ∈ xss, PlainRow n xs := by
  cases d with
  | tup ds =>
    have h : (decide ((ds.length : Int) = n) && ds.all (plainRowD n)) = true := h
    rw [Bool.and_eq_true, decide_eq_true_eq, List.all_eq_true] at h
    obtain ⟨h1, h2⟩ := h
    have key : ∀ ds : List Dt, (∀ d ∈ ds, plainRowD n d = true) → ∃ xss : List (List Int), ds = xss.map rowD' ∧ ∀ xs ∈ xss, PlainRow n xs := by
      intro ds
      induction ds with
      | nil => exact fun _ => ⟨[], rfl, by simp⟩
      | cons d r ih =>
        intro h
        obtain ⟨xs, rfl, hx⟩ := plainRowD_row (h d (by simp))
        obtain ⟨xss, rfl, hxs⟩ := ih fun e he => h e (by simp [he])
        refine ⟨xs :: xss, rfl, fun y hy => ?_⟩
        rcases List.mem_cons.mp hy with rfl | hy
        · exact hx
        · exact hxs y hy
    obtain ⟨xss, rfl, hx⟩ := key ds h2
    exact ⟨xss, rfl, by simpa using h1, hx⟩
  | _ => cases h
theorem rows_of_dv {H : Hp} {vs : List V} : ∀ {xss : List (List Int)}, DVs H vs (xss.map rowD') → Rws H vs xss := by
  induction vs with
  | nil =>
    intro xss h
    cases xss with
    | nil => exact .nil
    | cons x r => cases h
  | cons v vs ih =>
    intro xss h
    cases xss with
    | nil => cases h
    | cons x r => cases h with | cons h1 h2 => exact .cons (row_of_dv h1) (ih h2)
def upTo (n : Int) : List Int := (List.range (n + 1 - 1).toNat).map fun (i : Nat) => 1 + (i : Int)
def absI (x : Int) : Int := if x < 0 then -x else x
def heads (xss : List (List Int)) : List Int := xss.map fun xs => absI (xs.getD 0 0)
def renLast (n : Int) (xss : List (List Int)) : Bool := xss.all (fun xs => decide (xs.length = 1)) && decide ((heads xss).mergeSort = upTo n)
theorem sorted_eq {a b : List Int} (h : a.Perm b) (s : a.Pairwise (· ≤ ·)) : a = b.mergeSort := by
  have p := List.pairwise_mergeSort (le := fun (a b : Int) => decide (a ≤ b)) (fun a b c h1 h2 => by simp at *; omega) (fun a b => by simp; omega) b
  refine List.Perm.eq_of_pairwise (le := fun a b => a ≤ b) (fun a b _ _ h1 h2 => by omega) s ?_ (h.trans (List.mergeSort_perm b _).symm)
  exact p.imp fun h => by simpa using h
theorem rws_of {H : Hp} {f : Nat → List Int} : ∀ {ys : List V} {l : List Nat}, ys.length = l.length → (∀ (k : Nat) (v : V) (i : Nat), ys[k]? = some v → l[k]? = some i → Row H v (f i)) → Rws H ys (l.map f)
  | [], [], _, _ => .nil
  | [], _ :: _, h, _ => absurd h (by simp)
  | _ :: _, [], h, _ => absurd h (by simp)
  | y :: ys, i :: l, h, g => .cons (g 0 y i rfl rfl) (rws_of (by simpa using h) fun k v j h1 h2 => g (k + 1) v j (by simpa using h1) (by simpa using h2))
theorem all_range2 {α : Type} (xs : List α) (d : α) (p : α → Bool) : ((List.range xs.length).all fun k => p (xs.getD k d)) = xs.all p := by
  rw [← all_range xs d p, List.all_map]
  rfl
theorem get_one {g : List Int} (h : g.length = 1) : g[0]? = some (g.getD 0 0) := by
  rw [List.getD_eq_getElem?_getD, List.getElem?_eq_getElem (by omega)]
  rfl
theorem kept_nil (xss : List (List Int)) (n : Nat) : decide ((sel (fun i => !decide ((xss.getD i []).length = 1)) n).map (fun i => xss.getD i []) = []) = (List.range n).all fun i => decide ((xss.getD i []).length = 1) := by
  rw [Bool.eq_iff_iff]
  simp [sel]
section
variable {P : Program} {w : World} {K : PySem.W.Frag} {mg : Str → Option Value} {base : Heap}
@[irreducible] def spRenIn : Sp := fun vs H Q _ => ∃ (n : Int) (v : V) (d : Dt), vs = [.int n, v] ∧ DV H v d ∧ (1 ≤ n ∧ n ≤ 4) ∧ (∀ ds, d = .tup ds → ∀ e ∈ ds, Short e) ∧ (plainRowsD n d = false → ∀ H', Same H H' → Q (.bl false) H') ∧
  (∀ xss, plainRowsD n d = true → d = rowsD xss → ∃ G μ, Falls G μ ∧ G xss ∧ ∀ steps last H', Down xss steps last → Same H H' → Q (.bl (renLast n last)) H')
theorem spRenIn_i {H : Hp} {n : Int} {v : V} {d : Dt} {Q : VK} {E : XK} (h : DV H v d) (hn : 1 ≤ n ∧ n ≤ 4) (hs : ∀ ds, d = .tup ds → ∀ e ∈ ds, Short e) (q1 : plainRowsD n d = false → ∀ H', Same H H' → Q (.bl false) H')
    (q2 : ∀ xss, plainRowsD n d = true → d = rowsD xss → ∃ G μ, Falls G μ ∧ G xss ∧ ∀ steps last H', Down xss steps last → Same H H' → Q (.bl (renLast n last)) H') : spRenIn [.int n, v] H Q E := by
  unfold spRenIn
  exact ⟨n, v, d, rfl, h, hn, hs, q1, q2⟩
theorem Down.len {xss last : List (List Int)} {steps : List Step} (h : Down xss steps last) : last.length = xss.length := by
  induction h with
  | stop _ => rfl
  | step _ _ ih => rw [ih, List.length_set]
theorem ok_ren_in (B : Bt mg) (F : Fd K mg "is_renaming_in" s_is_renaming_in) (D2 : Df P w K mg base CX0 2 "is_plain_row" ["deeds", "value"] spPlainRow) (D5 : Df P w K mg base CX0 5 "steps_down" ["images"] (spDown K)) :
    Df P w K mg base CX0 6 "is_renaming_in" ["deeds", "value"] spRenIn := by
  refine .mk' F sc_is_renaming_in (fun _ _ _ _ _ _ us hl => match us, hl with | [_, _], _ => rfl) (fun vs H Q E h => ?_) (fun f cdv A outer s H vs Q E hr h => ?_)
  · unfold spRenIn at h
    obtain ⟨n, v, d, rfl, _⟩ := h
    rfl
  · unfold spRenIn at h
    obtain ⟨n, v, d, rfl, hv, hn, hs, q1, q2⟩ := h
    have nd := sc_is_renaming_in.nd
    refine ⟨_, PSs.nox (pss_cons (ps_if (PW.pt (pw_or (pt_not (pt_val (pe_callB call_is (by rfl) B.isinstance boot_isinstance (pa_cons (pv 1) (pa_cons (pe_cls (n := "tuple") rfl B.tuple (by decide +kernel)) pa_nil))))) (pw_or (pt_cmpR op_ne (pe_callB call_lenK (by rfl) B.len boot_len (pa_cons (pv 1) pa_nil)) (pv 0) (nomark _)) (pw_or1 (pt_not (pt_val (pe_callB (cr_all rfl) (by rfl) B.all (by decide +kernel) (pa_cons (pe_lc (own := [("row", 3)]) (g := gName 3) rfl nd (pi_tup (pv 1)) (blkOk_by (own := [("row", 3)]) (N := ["deeds", "value", "last", "row"]) (sc := defScope s_is_renaming_in) (by decide +kernel))
        (fun _ _ _ _ _ => pg_name (i := 3) nd rfl (Or.inl rfl)) (fun _ _ _ _ _ => pts_nil) (fun _ _ _ _ _ => pe_df (D2.mono (by decide)) hr rfl pass0 (pa_cons (pv 0) (pa_cons (pv 3) pa_nil)))) pa_nil))))))))
      (pss_one (ps_ret (pe_bl))) (pss_nil))
      (pss_cons (ps_set (i := 2) nd rfl (Or.inl rfl) (pe_ix ix_tup (pe_df D5 hr rfl pass0 (pa_cons (pv 1) pa_nil)) (pe_int) (fun _ _ => rfl)))
      (pss_cons (ps_if (pt_cmpR (op_neD hr.units) (pe_lc (own := [("row", 3)]) (g := gName 3) rfl nd (pi_list (pv 2)) (blkOk_by (own := [("row", 3)]) (N := ["deeds", "value", "last", "row"]) (sc := defScope s_is_renaming_in) (by decide +kernel))
        (fun _ _ _ _ _ => pg_name (i := 3) nd rfl (Or.inl rfl)) (fun _ _ _ _ _ => pts_one (pt_cmpR op_ne (pe_callB (r := rLen K) call_lenK (by rfl) B.len boot_len (pa_cons (pv 3) pa_nil)) (pe_int) (nomark _))) (fun _ _ _ _ _ => pv 3)) (pe_lst pa_nil) (nomark _))
      (pss_one (ps_ret (pe_bl))) (pss_nil))
      (pss_one (ps_ret (pe_cmpR (op_eqD hr.units) (pe_callB cr_sortedI (by rfl) B.sorted (by decide +kernel) (pa_cons (pe_lc (own := [("row", 3)]) (g := gName 3) rfl nd (pi_list (pv 2)) (blkOk_by (own := [("row", 3)]) (N := ["deeds", "value", "last", "row"]) (sc := defScope s_is_renaming_in) (by decide +kernel))
        (fun _ _ _ _ _ => pg_name (i := 3) nd rfl (Or.inl rfl)) (fun _ _ _ _ _ => pts_nil) (fun _ _ _ _ _ => pe_callB call_abs (by rfl) B.abs (by decide +kernel) (pa_cons (pe_ix (r := rIxT K) ix_tup (pv 3) (pe_int) (fun _ _ => rfl)) pa_nil))) pa_nil)) (pe_listRg rfl (by rfl) B.list (prg_2 (by rfl) B.range (pe_int) (pe_op op_add (pv 0) (pe_int)))) (nomark _))))))), ?_⟩
    refine ⟨_, rfl, isi_dv hv (kit_tuple d) ⟨_, rfl, ?_⟩⟩
    cases hv with
    | @tup a vs ds h1 h2 =>
      have hlen := h2.len
      have hs := hs ds rfl
      refine iteF ⟨_, rfl, a, _, rfl, .inr (.inl (.inl h1)), _, rfl, rfl, _, rfl, ?_⟩
      refine ite_of (fun e => ?_) (fun e => ?_)
      · have e : ¬ ((ds.length : Int) = n) := by rw [decI] at e; rw [← hlen]; simpa using e
        refine q1 ?_ H (Same.refl H)
        show (decide ((ds.length : Int) = n) && _) = false
        rw [decide_eq_false e]
        rfl
      · have e : (ds.length : Int) = n := by rw [decI] at e; rw [← hlen]; simpa using e
        refine ⟨_, rfl, a, rfl, ⟨vs, .inl (.inl h1)⟩, fun D hD => ?_⟩
        refine lc_map (fun k v _ => v = .bl (plainRowD n (ds.getD k .non))) (wk_tup (.inl (.inl h1))) hD (by rw [PySem.sizeLine_eq]; omega) (fun _ => rfl) (fun _ _ _ _ _ h => h) (fun i H' hi e Q' q' => ?_) (fun H' ys s1 h3 h4 h5 => ?_)
        · obtain ⟨d, e1, e2⟩ := h2.get (List.getElem?_eq_getElem hi)
          have hd : DV H' (vs.getD i .non) (ds.getD i .non) := by
            rw [List.getD_eq_getElem?_getD, List.getD_eq_getElem?_getD, List.getElem?_eq_getElem hi, e1]
            exact e2.same e
          refine ⟨_, rfl, _, rfl, spPlainRow_i hd (hs _ ?_) fun H2 s2 => q' _ _ s2 rfl⟩
          rw [List.getD_eq_getElem?_getD, e1]
          exact List.mem_of_getElem? e1
        · have ey := bls_of h4 h5
          refine ⟨D, (List.range vs.length).map fun k => plainRowD n (ds.getD k .non), rfl, SqL.of (by rw [h3, ey]), _, rfl, ?_⟩
          rw [hlen, all_range ds .non (plainRowD n)]
          have e2 : plainRowsD n (.tup ds) = ds.all (plainRowD n) := by
            show (decide ((ds.length : Int) = n) && _) = _
            rw [decide_eq_true e]
            rfl
          refine ite_of (fun ed => ?_) (fun ed => ?_)
          · exact q1 (by rw [e2]; simpa using ed) _ s1
          · have ed : plainRowsD n (.tup ds) = true := by rw [e2]; simpa using ed
            obtain ⟨xss, exs, hl, hp⟩ := plainRowsD_rows ed
            obtain ⟨G, μ, hF, hG, q3⟩ := q2 xss ed exs
            obtain rfl : ds = xss.map rowD' := Dt.tup.inj exs
            have hR := rows_of_dv h2
            refine ⟨_, rfl, spDown_i (rows := vs) (.inr (.inl (.inl (s1 _ _ h1)))) (hR.same s1) hF hG fun t sL nL sv nv steps last H2 s2 k1 k2 k3 k4 k5 dn gl => ?_⟩
            refine ⟨t, _, _, _, rfl, rfl, .inl (.inl k1), atI_nat (j := 1) rfl, ?_⟩
            have lenl := k5.len
            have ln := dn.len
            refine ⟨_, rfl, nL, rfl, ⟨nv, SqL.of k4⟩, fun D2 hD2 => ?_⟩
            have gl (i : Nat) (hi : i < nv.length) : Row H2 (nv.getD i .non) (last.getD i []) := by
              obtain ⟨v, e1, e2⟩ := k5.get (i := i) (by omega)
              rw [List.getD_eq_getElem?_getD, e1]
              exact e2
            refine lc_sel (fun i => !decide ((last.getD i []).length = 1)) (fun i v H => Row H v (last.getD i [])) (wk_list (SqL.of k4)) hD2 (by rw [PySem.sizeLine_eq]; omega) (fun _ => rfl) (fun i v H H' t h => h.tst t) (fun i H3 hi s3 Q' q' => ?_) (fun i H3 hi hk s3 Q' q' => ⟨_, rfl, q' _ _ (Same.refl _) ((gl i hi).same s3)⟩) (fun H3 ys s3 g1 g2 g3 => ?_)
            · have r3 := (gl i hi).same s3
              generalize nv.getD i .non = g at r3 ⊢
              obtain ⟨ga, rfl, r4⟩ := len_row (K := K) r3
              refine ⟨_, rfl, ga, _, rfl, .inr r4, rfl, _, rfl, ?_⟩
              have := q' _ (Same.refl H3)
              rw [decI]
              simp only [iV, List.length_map]
              rw [show decide (((last.getD i []).length : Int) = 1) = decide ((last.getD i []).length = 1) from decide_eq_decide.mpr (by omega)]
              exact this
            · have kr := rws_of g2 g3
              have s23 := s2.trans s3
              refine ⟨Nat.zero_le _, fun l hl => neD_rows (t := false) (xss := (sel (fun i => !decide ((last.getD i []).length = 1)) nv.length).map fun i => last.getD i []) (yss := []) ⟨D2, ys, rfl, SqL.of (by rw [upd_ne (ne_of_none g1 hl)]; exact g1), kr.same (Same.new hl)⟩ ⟨l, [], rfl, SqL.of upd_same, .nil⟩ ⟨_, rfl, ?_⟩⟩
              have s4 := s3.trans (Same.new (o := .lst []) hl)
              have s04 := s1.trans (s2.trans s4)
              rw [kept_nil, lenl, all_range2 last [] fun xs => decide (xs.length = 1)]
              refine ite_of (fun h => ?_) (fun h => ?_)
              · have h : (last.all fun xs => decide (xs.length = 1)) = false := by simpa using h
                have := q3 steps last _ dn s04
                rw [show renLast n last = false by rw [renLast, h]; rfl] at this
                exact this
              · have h : (last.all fun xs => decide (xs.length = 1)) = true := by simpa using h
                have := q3 steps last
                rw [show renLast n last = decide ((heads last).mergeSort = upTo n) by rw [renLast, h]; rfl] at this
                have k4' := s4 _ _ k4
                have gl4 (i : Nat) (hi : i < nv.length) := (gl i hi).same s4
                refine ⟨_, rfl, nL, rfl, ⟨nv, SqL.of k4'⟩, fun D3 hD3 => ?_⟩
                refine lc_map (fun k v _ => v = .int (absI ((last.getD k []).getD 0 0))) (wk_list (SqL.of k4')) hD3 (by rw [PySem.sizeLine_eq]; omega) (fun _ => rfl) (fun _ _ _ _ _ h => h) (fun i H5 hi s5 Q' q' => ?_) (fun H5 zs s5 f1 f2 f3 => ?_)
                · have r5 := (gl4 i hi).same s5
                  have h1 : (last.getD i []).length = 1 := by
                    rw [List.all_eq_true] at h
                    have hi' : i < last.length := by omega
                    rw [List.getD_eq_getElem?_getD, List.getElem?_eq_getElem hi']
                    simpa using h _ (List.getElem_mem hi')
                  refine ⟨_, rfl, ?_⟩
                  refine ixT_row (j := 0) (x := (last.getD i []).getD 0 0) r5 rfl (get_one h1) ?_
                  exact ⟨_, rfl, q' _ _ (Same.refl _) rfl⟩
                · have ez := iV_of f2 f3
                  have eh : (List.range nv.length).map (fun k => absI ((last.getD k []).getD 0 0)) = heads last := by
                    rw [lenl]
                    unfold heads
                    apply List.ext_getElem
                    · simp
                    · intro i h1 h2
                      simp at h1
                      simp [List.getD_eq_getElem?_getD, h1]
                  rw [eh] at ez
                  subst ez
                  refine ⟨D3, heads last, rfl, SqL.of f1, fun ns' p perm ris hp => ?_⟩
                  have s6 : Same H5 (upd H5 p (.lst (ns'.map V.int))) := Same.new hp
                  refine ⟨_, rfl, _, _, rfl, rfl, _, _, rfl, rfl, ⟨by omega, by omega, by omega, by omega, by omega⟩, fun l2 hl2 => ?_⟩
                  have s7 : Same (upd H5 p (.lst (ns'.map V.int))) (upd (upd H5 p (.lst (ns'.map V.int))) l2 (.lst (rgV 1 (n + 1)))) := Same.new hl2
                  have es := sorted_eq perm ris
                  have er : rgV 1 (n + 1) = iV (upTo n) := by
                    unfold rgV upTo iV
                    rw [List.map_map]
                    rfl
                  refine eqD_int (t := false) (xs := ns') (ys := upTo n) (.lst (SqL.of (s7 _ _ upd_same))) (.lst (SqL.of (by rw [upd_same, er]))) ?_
                  have t := this _ dn (s04.trans ((s5.trans s6).trans s7))
                  rw [← es] at t
                  exact t
    | _ => exact iteT (q1 rfl H (Same.refl H))
end
end My
namespace My
open PySem PySem.Spec PyProof.Rows L2 SX
theorem passR {X : Cx} {E : XK} (tk : Takes X (fun cls d _ H => E cls d H)) : Passes (L2.CX X.prog X.w) X E := fun pins σ H s e s' I c => passAt tk σ pins H s e s' I c
theorem takes_no {X : Cx} : Takes X (fun _ _ _ _ => False) := fun u s' h => by
  obtain ⟨_, _, _, _, _, _, _, _, _, _, _, _, _, h⟩ := h
  exact h.2.2.2.elim
/-! ### plain -/
def signC (x : Int) : Nat := if 0 < x then 96 + x.toNat else 64 + (0 - x).toNat
def letterC (n : Nat) (c : Nat) : Int := if 97 ≤ c ∧ c < 97 + n then (c : Int) - 96 else if 65 ≤ c ∧ c < 65 + n then 64 - (c : Int) else 0
def textC (xs : List Int) : List Nat := if xs = [] then [49] else xs.map signC
def lettersL (n : Nat) (l : List Nat) : List Int := (l.map (letterC n)).takeWhile fun x => !decide (x = 0)
theorem cutS_S (a : List Nat) (lo hi : Option Int) : cutS (S a) lo hi = S (cut a lo hi) := by
  unfold cutS cut
  rw [S_len]
theorem cut_takeN (xs : List Nat) (m : Nat) : cut xs none (some (m : Int)) = xs.take m := by
  unfold cut HT.sIx
  simp
  rw [if_neg (by omega)]
  omega
theorem cut_dropN (xs : List Nat) (m : Nat) : cut xs (some (m : Int)) none = xs.drop m := by
  unfold cut HT.sIx
  simp only [Int.toNat_natCast]
  rw [if_neg (by omega), List.take_of_length_le (by simp)]
  by_cases h : m ≤ xs.length
  · rw [Nat.min_eq_left h]
  · rw [Nat.min_eq_right (by omega), List.drop_of_length_le (by omega), List.drop_of_length_le (by omega)]
section
variable {P : Program} {w : World} {K : PySem.W.Frag} {mg : Str → Option Value} {base : Heap}
/-! ### is_renaming -/
@[irreducible] def spRen (C : Addr) : Sp := fun vs H Q E => ∃ (v u : V) (dn d : Dt), vs = [v, u] ∧ DV H v dn ∧ DV H u d ∧ (betweenD dn 1 4 = false → E (.ref C) none H) ∧ (∀ ds, d = .tup ds → ∀ e ∈ ds, Short e) ∧ ∀ n, dn = .int n → 1 ≤ n → n ≤ 4 →
  (plainRowsD n d = false → ∀ H', Same H H' → Q (.bl false) H') ∧ (∀ xss, plainRowsD n d = true → d = rowsD xss → ∃ G μ, Falls G μ ∧ G xss ∧ ∀ steps last H', Down xss steps last → Same H H' → Q (.bl (renLast n last)) H')
theorem spRen_i {C : Addr} {H : Hp} {v u : V} {dn d : Dt} {Q : VK} {E : XK} (h1 : DV H v dn) (h2 : DV H u d) (r : betweenD dn 1 4 = false → E (.ref C) none H) (hs : ∀ ds, d = .tup ds → ∀ e ∈ ds, Short e)
    (q : ∀ n, dn = .int n → 1 ≤ n → n ≤ 4 → (plainRowsD n d = false → ∀ H', Same H H' → Q (.bl false) H') ∧ (∀ xss, plainRowsD n d = true → d = rowsD xss → ∃ G μ, Falls G μ ∧ G xss ∧ ∀ steps last H', Down xss steps last → Same H H' → Q (.bl (renLast n last)) H')) : spRen C [v, u] H Q E := by
  unfold spRen
  exact ⟨v, u, dn, d, rfl, h1, h2, r, hs, q⟩
theorem between_int {d : Dt} {lo hi : Int} (h : betweenD d lo hi = true) : ∃ n, d = .int n ∧ lo ≤ n ∧ n ≤ hi := by
  cases d with
  | int n =>
    simp [betweenD] at h
    exact ⟨n, rfl, h⟩
  | _ => cases h
theorem ok_ren {C : Addr} (F : Fd K mg "is_renaming" s_is_renaming) (D3 : Df P w K mg base (L2.CX P w) 3 "need_deeds" ["deeds"] (spDeeds C)) (D6 : Df P w K mg base CX0 6 "is_renaming_in" ["deeds", "value"] spRenIn) :
    Df P w K mg base (L2.CX P w) 7 "is_renaming" ["deeds", "value"] (spRen C) := by
  refine .mk' F sc_is_renaming (fun _ _ _ _ _ _ us hl => match us, hl with | [_, _], _ => rfl) (fun vs H Q E h => ?_) (fun f cdv A outer s H vs Q E hr h => ?_)
  · unfold spRen at h
    obtain ⟨v, u, dn, d, rfl, _⟩ := h
    rfl
  · unfold spRen at h
    obtain ⟨v, u, dn, d, rfl, h1, h2, r, hs, q⟩ := h
    have nd := sc_is_renaming.nd
    refine ⟨_, pss_cons (ps_expr (pe_df (D3.mono (by decide)) hr rfl (passR (takes_of rfl rfl rfl rfl)) (pa_cons (pv 0) pa_nil)))
      (pss_one (ps_ret (pe_df D6 hr rfl pass0 (pa_cons (pv 0) (pa_cons (pv 1) pa_nil))))), ?_⟩
    refine ⟨_, rfl, spDeeds_i h1 (fun hb => ?_) r⟩
    obtain ⟨n, rfl, hn⟩ := between_int hb
    cases h1
    obtain ⟨q1, q2⟩ := q n rfl hn.1 hn.2
    exact ⟨_, rfl, _, rfl, spRenIn_i h2 hn hs q1 q2⟩
/-! ### sign_of -/
@[irreducible] def spSign : Sp := fun vs H Q _ => ∃ x : Int, vs = [.int x] ∧ x ≠ 0 ∧ -4 ≤ x ∧ x ≤ 4 ∧ Q (.str (S [signC x])) H
theorem spSign_i {H : Hp} {x : Int} {Q : VK} {E : XK} (h : x ≠ 0) (h1 : -4 ≤ x) (h2 : x ≤ 4) (q : Q (.str (S [signC x])) H) : spSign [.int x] H Q E := by
  unfold spSign
  exact ⟨x, rfl, h, h1, h2, q⟩
theorem ok_sign (gD : ∃ t, mg "DONE" = some (.str (S [97, 98, 99, 100]) t)) (gU : ∃ t, mg "UNDONE" = some (.str (S [65, 66, 67, 68]) t)) (F : Fd K mg "sign_of" s_sign_of) : Df P w K mg base CX0 1 "sign_of" ["letter"] spSign := by
  obtain ⟨tD, gD⟩ := gD
  obtain ⟨tU, gU⟩ := gU
  refine .mk' F sc_sign_of (fun _ _ _ _ _ _ us hl => match us, hl with | [_], _ => rfl) (fun vs H Q E h => ?_) (fun f cdv A outer s H vs Q E hr h => ?_)
  · unfold spSign at h
    obtain ⟨x, rfl, _⟩ := h
    rfl
  · unfold spSign at h
    obtain ⟨x, rfl, h0, h1, h2, q⟩ := h
    have nd := sc_sign_of.nd
    refine ⟨_, PSs.nox (pss_one (ps_ret (pe_ifExp (pt_cmpR op_gt (pv 0) (pe_int) (nomark _)) (pe_ix ix_str (pe_glob (v := .str (SX.S [97, 98, 99, 100])) rfl gD ⟨_, rfl⟩) (pe_op op_sub (pv 0) (pe_int)) (fun _ _ => rfl)) (pe_ix ix_str (pe_glob (v := .str (SX.S [65, 66, 67, 68])) rfl gU ⟨_, rfl⟩) (pe_op op_sub (pe_op op_sub (pe_int) (pv 0)) (pe_int)) (fun _ _ => rfl))))), ?_⟩
    refine ⟨_, rfl, _, _, rfl, rfl, _, rfl, ?_⟩
    refine ite_of (fun h => ?_) (fun h => ?_)
    · have h : 0 < x := of_decide_eq_true h
      refine ⟨_, rfl, _, _, rfl, rfl, _, _, signC x, rfl, rfl, by decide +kernel, ?_, q⟩
      obtain rfl | rfl | rfl | rfl : x = 1 ∨ x = 2 ∨ x = 3 ∨ x = 4 := by omega
      all_goals rfl
    · have h : ¬ 0 < x := of_decide_eq_false h
      refine ⟨_, rfl, _, _, rfl, rfl, _, _, rfl, rfl, _, _, signC x, rfl, rfl, by decide +kernel, ?_, q⟩
      obtain rfl | rfl | rfl | rfl : x = -1 ∨ x = -2 ∨ x = -3 ∨ x = -4 := by omega
      all_goals rfl
/-! ### letter_of -/
@[irreducible] def spLetterOf : Sp := fun vs H Q _ => ∃ (n : Nat) (c : Nat), vs = [.int n, .str (S [c])] ∧ n ≤ 4 ∧ Q (.int (letterC n c)) H
theorem spLetterOf_i {H : Hp} {n c : Nat} {Q : VK} {E : XK} (h : n ≤ 4) (q : Q (.int (letterC n c)) H) : spLetterOf [.int n, .str (S [c])] H Q E := by
  unfold spLetterOf
  exact ⟨n, c, rfl, h, q⟩
theorem mem_from (a n c : Nat) (hn : n ≤ 4) : c ∈ [a, a + 1, a + 2, a + 3].take n ↔ a ≤ c ∧ c < a + n := by
  match n, hn with
  | 0, _ => simp <;> omega
  | 1, _ => simp <;> omega
  | 2, _ => simp <;> omega
  | 3, _ => simp <;> omega
  | 4, _ => simp <;> omega
theorem idx_D {c : Nat} (h1 : 97 ≤ c) (h2 : c < 101) : Txt.index0 (S [97, 98, 99, 100]) (S [c]) = some (c - 97) := by
  obtain rfl | rfl | rfl | rfl : c = 97 ∨ c = 98 ∨ c = 99 ∨ c = 100 := by omega
  all_goals decide +kernel
theorem idx_U {c : Nat} (h1 : 65 ≤ c) (h2 : c < 69) : Txt.index0 (S [65, 66, 67, 68]) (S [c]) = some (c - 65) := by
  obtain rfl | rfl | rfl | rfl : c = 65 ∨ c = 66 ∨ c = 67 ∨ c = 68 := by omega
  all_goals decide +kernel
theorem ok_letter_of (gD : ∃ t, mg "DONE" = some (.str (S [97, 98, 99, 100]) t)) (gU : ∃ t, mg "UNDONE" = some (.str (S [65, 66, 67, 68]) t)) (F : Fd K mg "letter_of" s_letter_of) : Df P w K mg base CX0 1 "letter_of" ["deeds", "sign"] spLetterOf := by
  obtain ⟨tD, gD⟩ := gD
  obtain ⟨tU, gU⟩ := gU
  refine .mk' F sc_letter_of (fun _ _ _ _ _ _ us hl => match us, hl with | [_, _], _ => rfl) (fun vs H Q E h => ?_) (fun f cdv A outer s H vs Q E hr h => ?_)
  · unfold spLetterOf at h
    obtain ⟨n, c, rfl, _⟩ := h
    rfl
  · unfold spLetterOf at h
    obtain ⟨n, c, rfl, hn, q⟩ := h
    have nd := sc_letter_of.nd
    refine ⟨_, PSs.nox (pss_cons (ps_if (pt_cmpR op_in_sign (pv 1) (pe_slice sl_str (pe_glob (v := .str (SX.S [97, 98, 99, 100])) rfl gD ⟨_, rfl⟩) po_none (po_some (pv 0))) (by rfl))
      (pss_one (ps_ret (pe_op op_add (pe_bmS PySem.F.plainAttrs_str PySem.F.slot_str_index PySem.F.type_str_index (mt_indexX rfl takes_no) (pe_glob (v := .str (SX.S [97, 98, 99, 100])) rfl gD ⟨_, rfl⟩) (pa_cons (pv 1) pa_nil)) (pe_int)))) (pss_nil))
      (pss_cons (ps_if (pt_cmpR op_in_sign (pv 1) (pe_slice sl_str (pe_glob (v := .str (SX.S [65, 66, 67, 68])) rfl gU ⟨_, rfl⟩) po_none (po_some (pv 0))) (by rfl))
      (pss_one (ps_ret (pe_op op_sub (pe_op op_sub (pe_int) (pe_bmS PySem.F.plainAttrs_str PySem.F.slot_str_index PySem.F.type_str_index (mt_indexX rfl takes_no) (pe_glob (v := .str (SX.S [65, 66, 67, 68])) rfl gU ⟨_, rfl⟩) (pa_cons (pv 1) pa_nil))) (pe_int)))) (pss_nil))
      (pss_one (ps_ret (pe_int))))), ?_⟩
    refine ⟨_, rfl, _, rfl, _, rfl, _, rfl, by decide +kernel, c, _, rfl, rfl, _, rfl, ?_⟩
    have e1 : decide (c ∈ (cutS (S [97, 98, 99, 100]) none (some (n : Int))).cps.toList) = decide (97 ≤ c ∧ c < 97 + n) := by
      rw [cutS_S, cut_takeN]
      exact decide_eq_decide.mpr (mem_from 97 n c hn)
    have e2 : decide (c ∈ (cutS (S [65, 66, 67, 68]) none (some (n : Int))).cps.toList) = decide (65 ≤ c ∧ c < 65 + n) := by
      rw [cutS_S, cut_takeN]
      exact decide_eq_decide.mpr (mem_from 65 n c hn)
    rw [e1]
    refine ite_of (fun h => ?_) (fun h => ?_)
    · have h : 97 ≤ c ∧ c < 97 + n := of_decide_eq_true h
      refine ⟨rfl, _, rfl, _, _, rfl, rfl, fun k hk => ?_, fun hk => ?_⟩
      · rw [idx_D h.1 (by omega)] at hk
        cases hk
        refine ⟨_, _, rfl, rfl, ?_⟩
        have e : letterC n c = ((c - 97 : Nat) : Int) + 1 := by rw [letterC, if_pos h]; omega
        rw [e] at q
        exact q
      · rw [idx_D h.1 (by omega)] at hk
        cases hk
    · have h : ¬ (97 ≤ c ∧ c < 97 + n) := of_decide_eq_false h
      refine ⟨_, rfl, _, rfl, _, rfl, _, rfl, by decide +kernel, c, _, rfl, rfl, _, rfl, ?_⟩
      rw [e2]
      refine ite_of (fun h2 => ?_) (fun h2 => ?_)
      · have h2 : 65 ≤ c ∧ c < 65 + n := of_decide_eq_true h2
        refine ⟨rfl, _, rfl, _, _, rfl, rfl, fun k hk => ?_, fun hk => ?_⟩
        · rw [idx_U h2.1 (by omega)] at hk
          cases hk
          refine ⟨_, _, rfl, rfl, _, _, rfl, rfl, ?_⟩
          have e : letterC n c = 0 - ((c - 65 : Nat) : Int) - 1 := by rw [letterC, if_neg h, if_pos h2]; omega
          rw [e] at q
          exact q
        · rw [idx_U h2.1 (by omega)] at hk
          cases hk
      · have h2 : ¬ (65 ≤ c ∧ c < 65 + n) := of_decide_eq_false h2
        have e : letterC n c = 0 := by rw [letterC, if_neg h, if_neg h2]
        rw [e] at q
        exact q
end
end My
namespace My
open PySem PySem.Spec PyProof.Rows L2 SX
theorem str_empty : (PySem.Str.ofString "") = S [] := by decide +kernel
theorem str_one : (PySem.Str.ofString "1") = S [49] := by decide +kernel
theorem strs_of {f : Nat → List Nat} {n : Nat} {ys : List V} (hl : ys.length = n) (h : ∀ (k : Nat) (v : V), ys[k]? = some v → v = .str (S (f k))) : ys = (((List.range n).map f).map S).map V.str := by
  apply List.ext_getElem?
  intro k
  by_cases hk : k < n
  · have h1 : ys[k]? = some (ys[k]'(by omega)) := List.getElem?_eq_getElem (by omega)
    rw [h1, h k _ h1]
    simp [hk]
  · rw [List.getElem?_eq_none (by omega), List.getElem?_eq_none (by simp; omega)]
theorem joinL_ones (f : Int → Nat) : ∀ xs : List Int, TL.joinL [] (xs.map fun x => [f x]) = xs.map f
  | [] => rfl
  | [x] => rfl
  | x :: y :: r => by
    show [f x] ++ ([] ++ TL.joinL [] ((y :: r).map fun x => [f x])) = _
    rw [joinL_ones f (y :: r)]
    rfl
theorem map_range_getD {α β : Type} (xs : List α) (d : α) (f : α → β) : ((List.range xs.length).map fun k => f (xs.getD k d)) = xs.map f := by
  apply List.ext_getElem
  · simp
  · intro i h1 h2
    simp at h1
    simp [List.getD_eq_getElem?_getD, h1]
theorem wk_str {H1 : Hp} (l : List Nat) : Wk (Its (S l)) H1 l.length (fun i => .str (S [l.getD i 0])) where
  go := fun i H _ hi => by show i < l.toArray.size; simpa using hi
  stop := fun i H _ hi => by show l.toArray.size ≤ i; simpa using hi
  yld := fun i H x H' _ hi y => by
    obtain ⟨e, c, hc, rfl⟩ := y
    refine ⟨e, ?_⟩
    have hc : l.toArray[i]? = some c := hc
    rw [List.getElem?_toArray] at hc
    rw [List.getD_eq_getElem?_getD, hc]
    rfl
section
variable {P : Program} {w : World} {K : PySem.W.Frag} {mg : Str → Option Value} {base : Heap}
/-! ### text_of -/
@[irreducible] def spText : Sp := fun vs H Q _ => ∃ (v : V) (xs : List Int), vs = [v] ∧ Row H v xs ∧ (∀ x ∈ xs, x ≠ 0 ∧ -4 ≤ x ∧ x ≤ 4) ∧ xs.length < 1000000 ∧ ∀ H', Same H H' → Q (.str (S (textC xs))) H'
theorem spText_i {H : Hp} {v : V} {xs : List Int} {Q : VK} {E : XK} (h : Row H v xs) (h2 : ∀ x ∈ xs, x ≠ 0 ∧ -4 ≤ x ∧ x ≤ 4) (hl : xs.length < 1000000) (q : ∀ H', Same H H' → Q (.str (S (textC xs))) H') : spText [v] H Q E := by
  unfold spText
  exact ⟨v, xs, rfl, h, h2, hl, q⟩
theorem ok_text (F : Fd K mg "text_of" s_text_of) (D1 : Df P w K mg base CX0 1 "sign_of" ["letter"] spSign) : Df P w K mg base CX0 2 "text_of" ["row"] spText := by
  refine .mk' F sc_text_of (fun _ _ _ _ _ _ us hl => match us, hl with | [_], _ => rfl) (fun vs H Q E h => ?_) (fun f cdv A outer s H vs Q E hr h => ?_)
  · unfold spText at h
    obtain ⟨v, xs, rfl, _⟩ := h
    rfl
  · unfold spText at h
    obtain ⟨v, xs, rfl, hv, hx, hl, q⟩ := h
    have nd := sc_text_of.nd
    refine ⟨_, PSs.nox (pss_one (ps_ret (pe_ifExp (pt_cmpR (op_neD hr.units) (pv 0) (pe_tup (pa_nil)) (nomark _)) (pe_join (pe_str) (pe_lc (own := [("letter", 1)]) (g := gName 1) rfl nd (pi_tup (pv 0)) (blkOk_by (own := [("letter", 1)]) (N := ["row", "letter"]) (sc := defScope s_text_of) (by decide +kernel))
        (fun _ _ _ _ _ => pg_name (i := 1) nd rfl (Or.inl rfl)) (fun _ _ _ _ _ => pts_nil) (fun _ _ _ _ _ => pe_df D1 hr rfl pass0 (pa_cons (pv 1) pa_nil)))) (pe_str)))), ?_⟩
    refine ⟨_, rfl, Nat.zero_le _, fun l hl => neD_int (t := true) (xs := xs) (ys := []) (hv.same (Same.new hl)).intD (.tup (.inl (.inl upd_same))) ⟨_, rfl, ?_⟩⟩
    have s1 : Same H (upd H l (.tup [])) := Same.new hl
    refine ite_of (fun h => ?_) (fun h => ?_)
    · have h : xs ≠ [] := by simpa using h
      obtain ⟨a, rfl, ha⟩ := hv
      have ha1 := s1 _ _ ha
      refine ⟨⟨_, rfl⟩, _, rfl, a, rfl, ⟨iV xs, .inl (.inl ha1)⟩, fun D hD => ?_⟩
      refine lc_map (fun k v _ => v = .str (S [signC (xs.getD k 0)])) (wk_tup (.inl (.inl ha1))) hD (by rw [PySem.sizeLine_eq]; simp [iV]; omega) (fun _ => rfl) (fun _ _ _ _ _ h => h) (fun i H' hi e Q' q' => ?_) (fun H' ys e h3 h4 h5 => ?_)
      · simp only [iV, List.length_map] at hi
        have := hx (xs.getD i 0) (by rw [List.getD_eq_getElem?_getD, List.getElem?_eq_getElem hi]; exact List.getElem_mem hi)
        rw [iV_getD hi]
        exact ⟨_, rfl, spSign_i this.1 this.2.1 this.2.2 (q' _ _ (Same.refl _) rfl)⟩
      · have ey := strs_of (f := fun k => [signC (xs.getD k 0)]) (n := xs.length) (by simpa [iV] using h4) h5
        rw [map_range_getD xs 0 fun x => [signC x]] at ey
        refine ⟨_, D, (xs.map fun x => [signC x]).map S, rfl, rfl, .inl (SqL.of (by rw [h3, ey])), ?_, ?_⟩
        · rw [lens, str_empty]
          have : ∀ xs : List Int, ((xs.map fun x => [signC x]).map (·.length)).sum = xs.length := by
            intro xs
            induction xs with
            | nil => rfl
            | cons x r ih => rw [List.map_cons, List.map_cons, List.sum_cons, ih]; simp; omega
          rw [this]
          simp [Str.length]
          omega
        · rw [str_empty, join_S, joinL_ones]
          have := q _ (s1.trans e)
          rw [textC, if_neg h] at this
          exact this
    · have h : xs = [] := by simpa using h
      have := q _ s1
      rw [textC, if_pos h] at this
      show Q (.str (PySem.Str.ofString "1")) _
      rw [str_one]
      exact this
theorem iV_snoc (a : List Int) (x : Int) : iV (a ++ [x]) = iV a ++ [.int x] := by simp [iV]
theorem take_map_succ {α : Type} {f : Nat → α} {m : List Nat} {i : Nat} (hi : i < m.length) : (m.take (i + 1)).map f = (m.take i).map f ++ [f (m.getD i 0)] := by
  rw [List.take_succ, List.map_append, List.getElem?_eq_getElem hi, List.getD_eq_getElem?_getD, List.getElem?_eq_getElem hi]
  rfl
/-! ### letters_at -/
@[irreducible] def spLettersAt : Sp := fun vs H Q _ => ∃ (n : Nat) (l : List Nat) (k : Nat), vs = [.int n, .str (S l), .int k] ∧ n ≤ 4 ∧ l.length < 1000000 ∧ ∀ p H', Same H H' → H p = none → H' p = some (.lst (iV (lettersL n (l.drop k)))) → Q (.ref p) H'
theorem spLettersAt_i {H : Hp} {n : Nat} {l : List Nat} {k : Nat} {Q : VK} {E : XK} (h : n ≤ 4) (hl : l.length < 1000000) (q : ∀ p H', Same H H' → H p = none → H' p = some (.lst (iV (lettersL n (l.drop k)))) → Q (.ref p) H') : spLettersAt [.int n, .str (S l), .int k] H Q E := by
  unfold spLettersAt
  exact ⟨n, l, k, rfl, h, hl, q⟩
theorem letters_stop {n : Nat} {l : List Nat} {i : Nat} (hi : i < l.length) (hb : ∀ j, j < i → letterC n (l.getD j 0) ≠ 0) (h : letterC n (l.getD i 0) = 0) : lettersL n l = (l.take i).map (letterC n) := by
  induction l generalizing i with
  | nil => simp at hi
  | cons c r ih =>
    cases i with
    | zero =>
      have h : letterC n c = 0 := h
      simp [lettersL, h]
    | succ i =>
      have h0 : letterC n c ≠ 0 := hb 0 (by omega)
      have := ih (i := i) (by simpa using hi) (fun j hj => hb (j + 1) (by omega)) h
      unfold lettersL at this ⊢
      rw [List.map_cons, List.takeWhile_cons, if_pos (by simpa using h0), this]
      rfl
theorem letters_all {n : Nat} {l : List Nat} (hb : ∀ j, j < l.length → letterC n (l.getD j 0) ≠ 0) : lettersL n l = l.map (letterC n) := by
  induction l with
  | nil => rfl
  | cons c r ih =>
    have h0 : letterC n c ≠ 0 := hb 0 (by simp)
    have := ih fun j hj => hb (j + 1) (by simpa using hj)
    unfold lettersL at this ⊢
    rw [List.map_cons, List.takeWhile_cons, if_pos (by simpa using h0), this]
theorem ok_letters_at (F : Fd K mg "letters_at" s_letters_at) (D1 : Df P w K mg base CX0 1 "letter_of" ["deeds", "sign"] spLetterOf) : Df P w K mg base CX0 2 "letters_at" ["deeds", "text", "start"] spLettersAt := by
  refine .mk' F sc_letters_at (fun _ _ _ _ _ _ us hl => match us, hl with | [_, _, _], _ => rfl) (fun vs H Q E h => ?_) (fun f cdv A outer s H vs Q E hr h => ?_)
  · unfold spLettersAt at h
    obtain ⟨n, l, k, rfl, _⟩ := h
    rfl
  · unfold spLettersAt at h
    obtain ⟨n, l, k, rfl, hn, hl, q⟩ := h
    have nd := sc_letters_at.nd
    refine ⟨_, PSs.nox (pss_cons (ps_set (i := 3) nd rfl (Or.inl rfl) (pe_lst pa_nil))
      (pss_cons (ps_for PassesOwn.never rfl (pi_str (pe_slice sl_str (pv 1) (po_some (pv 2)) po_none)) (pg_name (i := 4) nd rfl (Or.inl rfl))
      (pss_cons (ps_set (i := 5) nd rfl (Or.inl rfl) (pe_df D1 hr rfl pass0 (pa_cons (pv 0) (pa_cons (pv 4) pa_nil))))
      (pss_cons (ps_if (pt_cmpR op_eq (pv 5) (pe_int) (nomark _))
      (pss_one (ps_break)) (pss_nil))
      (pss_one (ps_expr (pe_bm PySem.F.plainAttrs_list PySem.F.slot_list_append PySem.F.type_list_append mt_append (pv 3) (pa_cons (pv 5) pa_nil)))))))
      (pss_one (ps_ret (pv 3))))), ?_⟩
    refine ⟨Nat.zero_le _, fun D hD => ?_⟩
    refine ⟨_, rfl, _, rfl, _, rfl, noPart ?_⟩
    refine ⟨_, rfl, by rw [S_len, PySem.sizeLine_eq]; omega, _, rfl, ?_⟩
    rw [cutS_S, cut_dropN]
    have hlen : (l.drop k).length < 1000000 := by rw [List.length_drop]; omega
    generalize l.drop k = m at q hlen
    have fin : ∀ (σ : L2.St) (H' : Hp), σ[3]? = some (some (.ref D)) → Same H H' → H' D = some (.lst (iV (lettersL n m))) → tRet (tVar 3) { nx := fun _ H' => Q .non H', rt := Q } σ H' := fun σ H' e1 e2 e3 => ⟨_, e1, q _ _ e2 hD e3⟩
    refine for_wk (wk_str (H1 := H) m) (fun i σ H' => ∃ x y, σ = [some (.int n), some (.str (S l)), some (.int k), some (.ref D), x, y] ∧ Same H H' ∧ H' D = some (.lst (iV ((m.take i).map (letterC n)))) ∧ ∀ j, j < i → letterC n (m.getD j 0) ≠ 0) ⟨_, _, rfl, Same.new hD, upd_same, fun j h => absurd h (by omega)⟩ (fun i σ H' h => by obtain ⟨_, _, _, h, _⟩ := h; exact h) ?_ ?_
    · rintro i σ H1 hi ⟨x, y, rfl, s1, e1, n1⟩
      refine ⟨_, rfl, _, rfl, spLetterOf_i hn ?_⟩
      refine ⟨_, rfl, rfl, _, rfl, ?_⟩
      rw [decI]
      refine ite_of (fun h => ?_) (fun h => ?_)
      · have h : letterC n (m.getD i 0) = 0 := of_decide_eq_true h
        refine fin _ _ rfl s1 ?_
        rw [letters_stop hi n1 h]
        exact e1
      · have h : letterC n (m.getD i 0) ≠ 0 := of_decide_eq_false h
        refine ⟨_, rfl, .inl ⟨rfl, _, SqL.of e1⟩, _, rfl, D, _, _, rfl, rfl, e1, ?_, ?_⟩
        · rw [PySem.sizeLine_eq]
          simp [iV]
          omega
        · refine ⟨_, _, rfl, Same.mut s1 hD, ?_, fun j hj => ?_⟩
          · rw [upd_same, take_map_succ hi, iV_snoc]
          · by_cases hji : j < i
            · exact n1 j hji
            · obtain rfl : j = i := by omega
              exact h
    · rintro σ H1 ⟨x, y, rfl, s1, e1, n1⟩
      refine fin _ _ rfl s1 ?_
      rw [letters_all n1]
      rw [List.take_length] at e1
      exact e1
end
end My
namespace My
open PySem PySem.Spec PyProof.Rows L2 SX
/-- the error class BadText -/
structure ErT (P : Program) (K : PySem.W.Frag) (mg : Str → Option Value) (C : Addr) : Prop where
  ex : ∃ fI cc, SupX.SupTxt P K mg "BadText" "at" "no text as wanted" C fI cc
def ErrAt (H : Hp) (E : XK) (C : Addr) (k : Int) : Prop := ∀ d H', Same H H' → H d = none → H' d = some (.xd [("at", .int k)]) → E (.ref C) (some d) H'
theorem ErrAt.same {H H' : Hp} {E : XK} {C : Addr} {k : Int} (h : ErrAt H E C k) (e : Same H H') : ErrAt H' E C k := fun d H2 e2 hd h2 => h d H2 (e.trans e2) (by
  cases q : H d with
  | none => rfl
  | some o => rw [e _ _ q] at hd; cases hd) h2
def readRow (n : Nat) (l : List Nat) : Except Int (List Int) :=
  if l = [49] then .ok []
  else if l.take 1 = [49] then .error 1
  else if l = [] ∨ (lettersL n l).length < l.length ∨ 200 < (lettersL n l).length then .error (min (lettersL n l).length 200 : Nat)
  else .ok (lettersL n l)
theorem decS {a b : List Nat} : decide (V.str (S a) = V.str (S b)) = decide (a = b) := by
  rw [decide_eq_decide]
  exact ⟨fun e => S_inj (V.str.inj e), fun e => by rw [e]⟩
section
variable {P : Program} {w : World} {K : PySem.W.Frag} {mg : Str → Option Value} {base : Heap}
/-! ### row_text -/
@[irreducible] def spRowText (CD CR : Addr) : Sp := fun vs H Q E => ∃ (v u : V) (dn d : Dt), vs = [v, u] ∧ DV H v dn ∧ DV H u d ∧ (betweenD dn 1 4 = false → E (.ref CD) none H) ∧ ∀ n, dn = .int n → 1 ≤ n → n ≤ 4 → (rowD n d = false → ∀ H', Same H H' → E (.ref CR) none H') ∧ (∀ xs, rowD n d = true → d = .tup (xs.map Dt.int) → ∀ H', Same H H' → Q (.str (S (textC (plain xs)))) H')
theorem spRowText_i {CD CR : Addr} {H : Hp} {v u : V} {dn d : Dt} {Q : VK} {E : XK} (h1 : DV H v dn) (h2 : DV H u d) (r : betweenD dn 1 4 = false → E (.ref CD) none H)
    (q : ∀ n, dn = .int n → 1 ≤ n → n ≤ 4 → (rowD n d = false → ∀ H', Same H H' → E (.ref CR) none H') ∧ (∀ xs, rowD n d = true → d = .tup (xs.map Dt.int) → ∀ H', Same H H' → Q (.str (S (textC (plain xs)))) H')) : spRowText CD CR [v, u] H Q E := by
  unfold spRowText
  exact ⟨v, u, dn, d, rfl, h1, h2, r, q⟩
theorem plainStep_mem {acc : List Int} {x y : Int} (h : y ∈ plainStep acc x) : y ∈ acc ∨ y = x := by
  unfold plainStep at h
  split at h
  · split at h
    · exact .inl ((List.dropLast_sublist acc).subset h)
    · simpa using h
  · simpa using h
theorem plain_mem {xs : List Int} {y : Int} (h : y ∈ plain xs) : y ∈ xs := by
  have key : ∀ (xs acc : List Int), y ∈ xs.foldl plainStep acc → y ∈ acc ∨ y ∈ xs := by
    intro xs
    induction xs with
    | nil => intro acc h; exact .inl h
    | cons x r ih =>
      intro acc h
      rcases ih _ h with h | h
      · rcases plainStep_mem h with h | rfl
        · exact .inl h
        · exact .inr (by simp)
      · exact .inr (by simp [h])
  rcases key xs [] h with h | h
  · cases h
  · exact h
theorem ok_row_text {CD CR : Addr} (F : Fd K mg "row_text" s_row_text) (D3 : Df P w K mg base (L2.CX P w) 3 "need_deeds" ["deeds"] (spDeeds CD)) (D5 : Df P w K mg base (L2.CX P w) 5 "need_row" ["deeds", "row"] (spNeedRow CR)) (D2 : Df P w K mg base CX0 2 "text_of" ["row"] spText) :
    Df P w K mg base (L2.CX P w) 6 "row_text" ["deeds", "row"] (spRowText CD CR) := by
  refine .mk' F sc_row_text (fun _ _ _ _ _ _ us hl => match us, hl with | [_, _], _ => rfl) (fun vs H Q E h => ?_) (fun f cdv A outer s H vs Q E hr h => ?_)
  · unfold spRowText at h
    obtain ⟨v, u, dn, d, rfl, _⟩ := h
    rfl
  · unfold spRowText at h
    obtain ⟨v, u, dn, d, rfl, h1, h2, r, q⟩ := h
    have nd := sc_row_text.nd
    refine ⟨_, pss_cons (ps_expr (pe_df (D3.mono (by decide)) hr rfl (passR (takes_of rfl rfl rfl rfl)) (pa_cons (pv 0) pa_nil)))
      (pss_one (ps_ret (pe_df (D2.mono (by decide)) hr rfl pass0 (pa_cons (pe_df D5 hr rfl (passR (takes_of rfl rfl rfl rfl)) (pa_cons (pv 0) (pa_cons (pv 1) pa_nil))) pa_nil)))), ?_⟩
    refine ⟨_, rfl, spDeeds_i h1 (fun hb => ?_) r⟩
    obtain ⟨n, rfl, hn⟩ := between_int hb
    cases h1
    obtain ⟨q1, q2⟩ := q n rfl hn.1 hn.2
    refine ⟨_, rfl, _, rfl, spNeedRow_i h2 (fun xs v' H' e1 e2 s1 r1 => ?_) q1⟩
    obtain ⟨ys, e3, hl, hx⟩ := rowD_tup e1
    obtain rfl : xs = ys := by
      rw [e2] at e3
      have := congrArg (List.map intD) (Dt.tup.inj e3)
      rwa [intD_map, intD_map] at this
    refine spText_i r1 (fun x hx' => ?_) ?_ fun H2 s2 => q2 xs e1 e2 H2 (s1.trans s2)
    · have := hx x (plain_mem hx')
      omega
    · have := plain_len xs
      omega
/-! ### read_letters -/
@[irreducible] def spReadLetters (C : Addr) : Sp := fun vs H Q E => ∃ (n : Nat) (v : V) (d : Dt), vs = [.int n, v] ∧ n ≤ 4 ∧ DV H v d ∧ ((∀ x, d ≠ .str x) → ErrAt H E C (-1)) ∧ (∀ l, d = .str (S l) → l.length < 1000000 ∧ (∀ k, readRow n l = .error k → ErrAt H E C k) ∧ (∀ xs, readRow n l = .ok xs → ∀ p H', Same H H' → H' p = some (.lst (iV xs)) → Q (.ref p) H'))
theorem spReadLetters_i {C : Addr} {H : Hp} {n : Nat} {v : V} {d : Dt} {Q : VK} {E : XK} (hn : n ≤ 4) (h : DV H v d) (r : (∀ x, d ≠ .str x) → ErrAt H E C (-1)) (q : ∀ l, d = .str (S l) → l.length < 1000000 ∧ (∀ k, readRow n l = .error k → ErrAt H E C k) ∧ (∀ xs, readRow n l = .ok xs → ∀ p H', Same H H' → H' p = some (.lst (iV xs)) → Q (.ref p) H')) : spReadLetters C [.int n, v] H Q E := by
  unfold spReadLetters
  exact ⟨n, v, d, rfl, hn, h, r, q⟩
theorem ok_read_letters {C : Addr} (B : Bt mg) (ET : ErT P K mg C) (gN : ∃ t, mg "MOST_IN_ROW" = some (.int 200 t)) (F : Fd K mg "read_letters" s_read_letters) (D2 : Df P w K mg base CX0 2 "letters_at" ["deeds", "text", "start"] spLettersAt) :
    Df P w K mg base (L2.CX P w) 3 "read_letters" ["deeds", "text"] (spReadLetters C) := by
  obtain ⟨tN, gN⟩ := gN
  obtain ⟨fI, cc, ET⟩ := ET.ex
  refine .mk' F sc_read_letters (fun _ _ _ _ _ _ us hl => match us, hl with | [_, _], _ => rfl) (fun vs H Q E h => ?_) (fun f cdv A outer s H vs Q E hr h => ?_)
  · unfold spReadLetters at h
    obtain ⟨n, v, d, rfl, _⟩ := h
    rfl
  · unfold spReadLetters at h
    obtain ⟨n, v, d, rfl, hn, hv, r, q⟩ := h
    have nd := sc_read_letters.nd
    refine ⟨_, pss_cons (ps_if (pt_not (pt_val (pe_callB call_is (by rfl) B.isinstance boot_isinstance (pa_cons (pv 1) (pa_cons (pe_cls (n := "str") rfl B.str (by decide +kernel)) pa_nil)))))
      (pss_one (ps_raise rfl (takes_of rfl rfl rfl rfl) (pmk_sup ET SupX.fld_at hr (pa_cons (pe_un un_neg (pe_int)) pa_nil) rfl))) (pss_nil))
      (pss_cons (ps_if (pt_cmpR op_eq (pv 1) (pe_str) (nomark _))
      (pss_one (ps_ret (pe_lst pa_nil))) (pss_nil))
      (pss_cons (ps_if (pt_cmpR op_eq (pe_slice sl_str (pv 1) po_none (po_some (pe_int))) (pe_str) (nomark _))
      (pss_one (ps_raise rfl (takes_of rfl rfl rfl rfl) (pmk_sup ET SupX.fld_at hr (pa_cons (pe_int) pa_nil) rfl))) (pss_nil))
      (pss_cons (ps_set (i := 2) nd rfl (Or.inl rfl) (pe_df D2 hr rfl pass0 (pa_cons (pv 0) (pa_cons (pv 1) (pa_cons (pe_int) pa_nil)))))
      (pss_cons (ps_if (PW.pt (pw_or (pt_cmpR op_eq (pv 1) (pe_str) (nomark _)) (pw_or (pt_cmpR op_lt (pe_callB call_lenK (by rfl) B.len boot_len (pa_cons (pv 2) pa_nil)) (pe_callB call_len_str (by rfl) B.len boot_len (pa_cons (pv 1) pa_nil)) (nomark _)) (pw_or1 (pt_cmpR op_gt (pe_callB call_lenK (by rfl) B.len boot_len (pa_cons (pv 2) pa_nil)) (pe_glob (v := .int 200) rfl gN ⟨_, rfl⟩) (nomark _))))))
      (pss_one (ps_raise rfl (takes_of rfl rfl rfl rfl) (pmk_sup ET SupX.fld_at hr (pa_cons (pe_callB (call_min2 rfl) (by rfl) B.min (by decide +kernel) (pa_cons (pe_callB call_lenK (by rfl) B.len boot_len (pa_cons (pv 2) pa_nil)) (pa_cons (pe_glob (v := .int 200) rfl gN ⟨_, rfl⟩) pa_nil))) pa_nil) rfl))) (pss_nil))
      (pss_one (ps_ret (pv 2))))))), ?_⟩
    refine ⟨_, rfl, isi_dv hv (kit_str d) ⟨_, rfl, ?_⟩⟩
    have rise : ∀ (k : Int) (H' : Hp), Same H H' → ErrAt H E C k → ∃ v', [V.int k] = [v'] ∧ ∀ d', H' d' = none → E (.ref C) (some d') (upd H' d' (.xd [("at", v')])) := fun k H' s1 er => ⟨_, rfl, fun d' hd' => (er.same s1) d' _ (Same.new hd') hd' upd_same⟩
    cases hv with
    | str x =>
      obtain ⟨l, rfl⟩ : ∃ l, x = S l := ⟨_, (S_tl x).symm⟩
      obtain ⟨hl, q1, q2⟩ := q l rfl
      refine iteF ⟨_, rfl, rfl, _, rfl, ?_⟩
      rw [str_one, decS]
      refine ite_of (fun h => ?_) (fun h => ?_)
      · have h : l = [49] := of_decide_eq_true h
        exact ⟨Nat.zero_le _, fun p hp => q2 [] (by rw [readRow, if_pos h]) p _ (Same.new hp) upd_same⟩
      · have h : l ≠ [49] := of_decide_eq_false h
        refine ⟨_, rfl, noPart ⟨_, rfl, _, rfl, by rw [S_len, PySem.sizeLine_eq]; omega, rfl, _, rfl, ?_⟩⟩
        rw [cutS_S, show cut l none (some 1) = l.take 1 from cut_takeN l 1, decS]
        refine ite_of (fun h2 => ?_) (fun h2 => ?_)
        · have h2 : l.take 1 = [49] := of_decide_eq_true h2
          exact rise 1 H (Same.refl H) (q1 _ (by rw [readRow, if_neg h, if_pos h2]))
        · have h2 : l.take 1 ≠ [49] := of_decide_eq_false h2
          refine ⟨_, rfl, _, rfl, spLettersAt_i (k := 0) hn hl fun p H1 s1 hp e1 => ?_⟩
          rw [List.drop_zero] at e1
          have hlp := SqL.of (K := K) e1
          have er : readRow n l = (if l = [] ∨ (lettersL n l).length < l.length ∨ 200 < (lettersL n l).length then .error (min (lettersL n l).length 200 : Nat) else .ok (lettersL n l)) := by rw [readRow, if_neg h, if_neg h2]
          generalize lettersL n l = f at er e1 hlp
          have bad : (l = [] ∨ f.length < l.length ∨ 200 < f.length) → ErrAt H E C (min f.length 200 : Nat) := fun h => q1 _ (by rw [er, if_pos h])
          have hm : (if (200 : Int) < ((iV f).length : Int) then (200 : Int) else ((iV f).length : Int)) = ((min f.length 200 : Nat) : Int) := by
            simp only [iV, List.length_map]
            split <;> omega
          have rs : (l = [] ∨ f.length < l.length ∨ 200 < f.length) → ∃ v', [V.int (if (200 : Int) < ((iV f).length : Int) then (200 : Int) else ((iV f).length : Int))] = [v'] ∧ ∀ d', H1 d' = none → E (.ref C) (some d') (upd H1 d' (.xd [("at", v')])) := fun h => rise _ H1 s1 (by rw [hm]; exact bad h)
          refine ⟨_, rfl, rfl, _, rfl, ?_⟩
          rw [str_empty, decS]
          refine ite_of (fun h3 => ?_) (fun h3 => ?_)
          · exact ⟨_, rfl, p, _, rfl, .inl hlp, _, _, rfl, rs (.inl (of_decide_eq_true h3))⟩
          · have h3 : l ≠ [] := of_decide_eq_false h3
            refine ⟨_, rfl, p, _, rfl, .inl hlp, _, rfl, _, rfl, by rw [S_len, PySem.sizeLine_eq]; omega, _, _, rfl, rfl, _, rfl, ?_⟩
            rw [S_len]
            refine ite_of (fun h4 => ?_) (fun h4 => ?_)
            · have h4 : ((iV f).length : Int) < (l.length : Int) := of_decide_eq_true h4
              simp only [iV, List.length_map] at h4
              exact ⟨_, rfl, p, _, rfl, .inl hlp, _, _, rfl, rs (.inr (.inl (by omega)))⟩
            · have h4 : ¬ ((iV f).length : Int) < (l.length : Int) := of_decide_eq_false h4
              simp only [iV, List.length_map] at h4
              refine ⟨_, rfl, p, _, rfl, .inl hlp, _, _, rfl, rfl, _, rfl, ?_⟩
              refine ite_of (fun h5 => ?_) (fun h5 => ?_)
              · have h5 : (200 : Int) < ((iV f).length : Int) := of_decide_eq_true h5
                simp only [iV, List.length_map] at h5
                exact ⟨_, rfl, p, _, rfl, .inl hlp, _, _, rfl, rs (.inr (.inr (by omega)))⟩
              · have h5 : ¬ (200 : Int) < ((iV f).length : Int) := of_decide_eq_false h5
                simp only [iV, List.length_map] at h5
                exact ⟨_, rfl, q2 f (by rw [er, if_neg (by rintro (h | h | h); exact h3 h; omega; omega)]) p _ s1 e1⟩
    | _ => exact iteT ⟨_, rfl, rise (-1) H (Same.refl H) (r fun x e => by cases e)⟩
end
end My
namespace My
open PySem PySem.Spec PyProof.Rows L2 SX
/-- where a head that must stand at a place ends, or the place at which it breaks off -/
def headAt (l : List Nat) : Nat → List Nat → Except Nat Nat
  | k, [] => .ok k
  | k, c :: r => if (l.drop k).take 1 = [c] then headAt l (k + 1) r else .error k
section
variable {P : Program} {w : World} {K : PySem.W.Frag} {mg : Str → Option Value} {base : Heap}
/-! ### read_row -/
@[irreducible] def spReadRow (CD CT : Addr) : Sp := fun vs H Q E => ∃ (v u : V) (dn d : Dt), vs = [v, u] ∧ DV H v dn ∧ DV H u d ∧ (betweenD dn 1 4 = false → E (.ref CD) none H) ∧ ∀ n : Nat, dn = .int n → 1 ≤ n → n ≤ 4 → ((∀ x, d ≠ .str x) → ErrAt H E CT (-1)) ∧
  (∀ l, d = .str (S l) → l.length < 1000000 ∧ (∀ k, readRow n l = .error k → ErrAt H E CT k) ∧ (∀ xs, readRow n l = .ok xs → ∀ v' H', Same H H' → Row H' v' (plain xs) → Q v' H'))
theorem spReadRow_i {CD CT : Addr} {H : Hp} {v u : V} {dn d : Dt} {Q : VK} {E : XK} (h1 : DV H v dn) (h2 : DV H u d) (r : betweenD dn 1 4 = false → E (.ref CD) none H)
    (q : ∀ n : Nat, dn = .int n → 1 ≤ n → n ≤ 4 → ((∀ x, d ≠ .str x) → ErrAt H E CT (-1)) ∧ (∀ l, d = .str (S l) → l.length < 1000000 ∧ (∀ k, readRow n l = .error k → ErrAt H E CT k) ∧ (∀ xs, readRow n l = .ok xs → ∀ v' H', Same H H' → Row H' v' (plain xs) → Q v' H'))) : spReadRow CD CT [v, u] H Q E := by
  unfold spReadRow
  exact ⟨v, u, dn, d, rfl, h1, h2, r, q⟩
theorem ok_len {n : Nat} {l : List Nat} {xs : List Int} (h : readRow n l = .ok xs) : xs.length ≤ 200 ∧ (xs = [] ∨ xs.length = l.length) := by
  unfold readRow at h
  split at h
  · cases h
    simp
  · split at h
    · cases h
    · split at h
      · cases h
      · rename_i h3
        cases h
        have : (lettersL n l).length ≤ l.length := by
          unfold lettersL
          have := (List.takeWhile_sublist (fun x => !decide (x = 0)) (l := l.map (letterC n))).length_le
          simpa using this
        refine ⟨by omega, .inr ?_⟩
        have h4 : ¬ (lettersL n l).length < l.length := fun h => h3 (.inr (.inl h))
        omega
theorem ok_read_row {CD CT : Addr} (F : Fd K mg "read_row" s_read_row) (D3 : Df P w K mg base (L2.CX P w) 3 "need_deeds" ["deeds"] (spDeeds CD)) (D3r : Df P w K mg base (L2.CX P w) 3 "read_letters" ["deeds", "text"] (spReadLetters CT)) (D1 : Df P w K mg base CX0 1 "plain_of" ["letters"] (spPlain K)) :
    Df P w K mg base (L2.CX P w) 4 "read_row" ["deeds", "text"] (spReadRow CD CT) := by
  refine .mk' F sc_read_row (fun _ _ _ _ _ _ us hl => match us, hl with | [_, _], _ => rfl) (fun vs H Q E h => ?_) (fun f cdv A outer s H vs Q E hr h => ?_)
  · unfold spReadRow at h
    obtain ⟨v, u, dn, d, rfl, _⟩ := h
    rfl
  · unfold spReadRow at h
    obtain ⟨v, u, dn, d, rfl, h1, h2, r, q⟩ := h
    have nd := sc_read_row.nd
    refine ⟨_, pss_cons (ps_expr (pe_df D3 hr rfl (passR (takes_of rfl rfl rfl rfl)) (pa_cons (pv 0) pa_nil)))
      (pss_one (ps_ret (pe_df (D1.mono (by decide)) hr rfl pass0 (pa_cons (pe_df D3r hr rfl (passR (takes_of rfl rfl rfl rfl)) (pa_cons (pv 0) (pa_cons (pv 1) pa_nil))) pa_nil)))), ?_⟩
    refine ⟨_, rfl, spDeeds_i h1 (fun hb => ?_) r⟩
    obtain ⟨n, rfl, hn⟩ := between_int hb
    obtain ⟨m, rfl⟩ : ∃ m : Nat, n = m := ⟨n.toNat, by omega⟩
    cases h1
    obtain ⟨q1, q2⟩ := q m rfl (by omega) (by omega)
    refine ⟨_, rfl, _, rfl, spReadLetters_i (by omega) h2 q1 fun l hl => ?_⟩
    obtain ⟨b1, b2, b3⟩ := q2 l hl
    refine ⟨b1, b2, fun xs hx p H1 s1 e1 => ?_⟩
    refine spPlain_i (.inl (SqL.of e1)) ?_ fun v' H2 s2 r2 => b3 xs hx v' H2 (s1.trans s2) r2
    have := (ok_len hx).1
    omega
/-! ### behind_head -/
@[irreducible] def spHead (C : Addr) : Sp := fun vs H Q E => ∃ (l : List Nat) (k : Nat) (hd : List Nat), vs = [.str (S l), .int k, .str (S hd)] ∧ l.length < 1000000 ∧ (∀ j, headAt l k hd = .ok j → Q (.int j) H) ∧ (∀ j, headAt l k hd = .error j → ErrAt H E C j)
theorem spHead_i {C : Addr} {H : Hp} {l : List Nat} {k : Nat} {hd : List Nat} {Q : VK} {E : XK} (hl : l.length < 1000000) (q : ∀ j, headAt l k hd = .ok j → Q (.int j) H) (r : ∀ j, headAt l k hd = .error j → ErrAt H E C j) : spHead C [.str (S l), .int k, .str (S hd)] H Q E := by
  unfold spHead
  exact ⟨l, k, hd, rfl, hl, q, r⟩
theorem cut_one (l : List Nat) (k : Nat) : cut l (some (k : Int)) (some ((k : Int) + 1)) = (l.drop k).take 1 := by
  unfold cut HT.sIx
  simp only [Int.toNat_natCast]
  rw [if_neg (by omega), if_neg (by omega)]
  have e : ((k : Int) + 1).toNat = k + 1 := by omega
  rw [e]
  by_cases h : k < l.length
  · rw [Nat.min_eq_left (by omega), Nat.min_eq_left (by omega)]
    congr 1
    omega
  · rw [Nat.min_eq_right (by omega), Nat.min_eq_right (by omega), List.drop_of_length_le (by omega), List.drop_of_length_le (by omega)]
    simp
theorem ok_head {C : Addr} (ET : ErT P K mg C) (F : Fd K mg "behind_head" s_behind_head) : Df P w K mg base (L2.CX P w) 1 "behind_head" ["text", "start", "head"] (spHead C) := by
  obtain ⟨fI, cc, ET⟩ := ET.ex
  refine .mk' F sc_behind_head (fun _ _ _ _ _ _ us hl => match us, hl with | [_, _, _], _ => rfl) (fun vs H Q E h => ?_) (fun f cdv A outer s H vs Q E hr h => ?_)
  · unfold spHead at h
    obtain ⟨l, k, hd, rfl, _⟩ := h
    rfl
  · unfold spHead at h
    obtain ⟨l, k, hd, rfl, hl, q, r⟩ := h
    have nd := sc_behind_head.nd
    refine ⟨_, pss_cons (ps_set (i := 3) nd rfl (Or.inl rfl) (pv 1))
      (pss_cons (ps_for (passes_of rfl) rfl (pi_str (pv 2)) (pg_name (i := 4) nd rfl (Or.inl rfl))
      (pss_cons (ps_if (pt_cmpR op_ne (pe_slice sl_str (pv 0) (po_some (pv 3)) (po_some (pe_op op_add (pv 3) (pe_int)))) (pv 4) (nomark _))
      (pss_one (ps_raise rfl (takes_of rfl rfl rfl rfl) (pmk_sup ET SupX.fld_at hr (pa_cons (pv 3) pa_nil) rfl))) (pss_nil))
      (pss_one (ps_aug (i := 3) nd rfl (.inl rfl) (pe_int) ip_add))))
      (pss_one (ps_ret (pv 3)))), ?_⟩
    refine ⟨_, rfl, _, rfl, _, rfl, ?_⟩
    refine for_wk (wk_str (H1 := H) hd) (fun i σ H' => ∃ x, σ = [some (.str (S l)), some (.int k), some (.str (S hd)), some (.int ((k + i : Nat) : Int)), x] ∧ H' = H ∧ headAt l k hd = headAt l (k + i) (hd.drop i)) ⟨_, rfl, rfl, by simp⟩ (fun i σ H' h => by obtain ⟨_, _, rfl, _⟩ := h; exact Same.refl _) ?_ ?_
    · rintro i σ H1 hi ⟨x, rfl, rfl, e1⟩
      have ec : hd.drop i = hd.getD i 0 :: hd.drop (i + 1) := by
        rw [List.drop_eq_getElem_cons hi, List.getD_eq_getElem?_getD, List.getElem?_eq_getElem hi]
        rfl
      rw [ec, headAt] at e1
      refine ⟨_, rfl, _, rfl, _, rfl, _, rfl, _, _, rfl, rfl, _, rfl, _, rfl, by rw [S_len, PySem.sizeLine_eq]; omega, _, rfl, rfl, _, rfl, ?_⟩
      rw [cutS_S, show cut l (some ((k + i : Nat) : Int)) (some (((k + i : Nat) : Int) + 1)) = (l.drop (k + i)).take 1 from cut_one l (k + i), decS]
      refine ite_of (fun h => ?_) (fun h => ?_)
      · have h : ¬ (l.drop (k + i)).take 1 = [hd.getD i 0] := by simpa using h
        rw [if_neg h] at e1
        exact ⟨_, rfl, _, rfl, fun d' hd' => r _ e1 d' _ (Same.new hd') hd' upd_same⟩
      · have h : (l.drop (k + i)).take 1 = [hd.getD i 0] := by simpa using h
        rw [if_pos h] at e1
        exact ⟨_, rfl, _, _, rfl, rfl, _, rfl, rfl, e1⟩
    · rintro σ H1 ⟨x, rfl, rfl, e1⟩
      refine ⟨_, rfl, q _ ?_⟩
      rw [e1, List.drop_length]
      rfl
end
end My
namespace My
open PySem PySem.Spec PyProof.Rows L2 SX
theorem str_sp : (PySem.Str.ofString " ") = S [32] := by decide +kernel
theorem str_eq : (PySem.Str.ofString "=") = S [61] := by decide +kernel
theorem tOp_i {r : R2} {ta tb : TE} {σ : L2.St} {H : Hp} {Q : VK} (h : ta σ H fun x H1 => tb σ H1 fun y H2 => r x y H2 Q) : tOp r ta tb σ H Q := h
theorem tIf_of {c : TT} {a b : TE} {σ : L2.St} {H : Hp} {Q : VK} (k : Bool) (x : V) (hc : ∀ R : Bool → Hp → Prop, R k H → c σ H R) (ha : k = true → ∀ Q' : VK, Q' x H → a σ H Q') (hb : k = false → ∀ Q' : VK, Q' x H → b σ H Q') (q : Q x H) : tIf c a b σ H Q :=
  hc _ (ite_of (fun h => ha h _ q) (fun h => hb h _ q))
/-! ### plain -/
def dHead (d : Nat) : List Nat := (if 1 < d then [32] else []) ++ [signC d] ++ [61]
def readImgs (n : Nat) (l : List Nat) : Nat → Nat → Nat → List (List Int) → Except Nat (List (List Int) × Nat)
  | 0, _, k, found => .ok (found, k)
  | t + 1, d, k, found => match headAt l k (dHead d) with
    | .error e => .error e
    | .ok k1 => if (l.drop k1).take 1 = [49] then readImgs n l t (d + 1) (k1 + 1) (found ++ [[]])
      else if lettersL n (l.drop k1) = [] then .error k1
      else readImgs n l t (d + 1) (k1 + (lettersL n (l.drop k1)).length) (found ++ [plain (lettersL n (l.drop k1))])
def readImages (n : Nat) (l : List Nat) : Except Nat (List (List Int)) := match readImgs n l n 1 0 [] with
  | .error e => .error e
  | .ok (found, k) => if k < l.length then .error k else .ok found
theorem adj_iff (xs : List Int) : adjOk xs = true ↔ ∀ k, k + 1 < xs.length → xs.getD k 0 ≠ 0 - xs.getD (k + 1) 0 := by
  unfold adjOk
  rw [List.all_eq_true]
  constructor
  · intro h k hk
    have := h k (List.mem_range.mpr (by omega))
    simpa using this
  · intro h k hk
    have := h k (by have := List.mem_range.mp hk; omega)
    simpa using this
theorem getD_snoc_lt {acc : List Int} {x : Int} {k : Nat} (h : k < acc.length) : (acc ++ [x]).getD k 0 = acc.getD k 0 := by
  rw [List.getD_eq_getElem?_getD, List.getD_eq_getElem?_getD, List.getElem?_append_left h]
theorem getD_snoc_eq {acc : List Int} {x : Int} : (acc ++ [x]).getD acc.length 0 = x := by
  rw [List.getD_eq_getElem?_getD, List.getElem?_append_right (Nat.le_refl _)]
  simp
theorem plainStep_adj {acc : List Int} {x : Int} (h : adjOk acc = true) : adjOk (plainStep acc x) = true := by
  rw [adj_iff] at h ⊢
  have hr : acc = [] ∨ ∃ r z, acc = r ++ [z] := by
    rcases List.eq_nil_or_concat acc with h | ⟨r, z, h⟩
    · exact .inl h
    · exact .inr ⟨r, z, by rw [h, List.concat_eq_append]⟩
  rcases hr with rfl | ⟨r, z, rfl⟩
  · intro k hk
    simp [plainStep] at hk
  · have es : plainStep (r ++ [z]) x = if z = 0 - x then r else r ++ [z] ++ [x] := by
      unfold plainStep
      rw [List.getLast?_append]
      simp
    rw [es]
    by_cases hz : z = 0 - x
    · rw [if_pos hz]
      intro k hk
      have := h k (by simp; omega)
      rw [getD_snoc_lt (by omega), getD_snoc_lt (by omega)] at this
      exact this
    · rw [if_neg hz]
      intro k hk
      simp at hk
      by_cases hk2 : k < r.length
      · have := h k (by simp; omega)
        have e1 : (r ++ [z] ++ [x]).getD k 0 = (r ++ [z]).getD k 0 := getD_snoc_lt (by rw [List.length_append]; simp; omega)
        have e2 : (r ++ [z] ++ [x]).getD (k + 1) 0 = (r ++ [z]).getD (k + 1) 0 := getD_snoc_lt (by rw [List.length_append]; simp; omega)
        rw [e1, e2]
        exact this
      · obtain rfl : k = r.length := by omega
        rw [getD_snoc_lt (by simp), getD_snoc_eq, show r.length + 1 = (r ++ [z]).length by simp, getD_snoc_eq]
        exact hz
theorem plain_adj (xs : List Int) : adjOk (plain xs) = true := by
  have key : ∀ (xs acc : List Int), adjOk acc = true → adjOk (xs.foldl plainStep acc) = true := by
    intro xs
    induction xs with
    | nil => exact fun acc h => h
    | cons x r ih => exact fun acc h => ih _ (plainStep_adj h)
  exact key xs [] rfl
theorem letterC_ok {n c : Nat} (h : letterC n c ≠ 0) : 0 - (n : Int) ≤ letterC n c ∧ letterC n c ≤ n := by
  unfold letterC at h ⊢
  split
  · omega
  · split
    · omega
    · rename_i h1 h2
      rw [if_neg h1, if_neg h2] at h
      exact absurd rfl h
theorem lettersL_ok {n : Nat} {l : List Nat} {x : Int} (h : x ∈ lettersL n l) : x ≠ 0 ∧ 0 - (n : Int) ≤ x ∧ x ≤ n := by
  unfold lettersL at h
  have h1 := (List.takeWhile_prefix (fun x : Int => !decide (x = 0)) (l := l.map (letterC n))).subset h
  have h2 : x ≠ 0 := by
    have := List.all_takeWhile (p := fun x : Int => !decide (x = 0)) (l := l.map (letterC n))
    rw [List.all_eq_true] at this
    simpa using this x h
  obtain ⟨c, _, rfl⟩ := List.mem_map.mp h1
  exact ⟨h2, letterC_ok h2⟩
def GoodRows (n : Nat) (xss : List (List Int)) : Prop := ∀ xs ∈ xss, PlainRow n xs
theorem readImgs_good {n : Nat} {l : List Nat} : ∀ {t d k : Nat} {found : List (List Int)} {xss : List (List Int)} {k' : Nat}, GoodRows n found → readImgs n l t d k found = .ok (xss, k') → GoodRows n xss ∧ xss.length = found.length + t
  | 0, _, _, _, _, _, h, e => by
    cases e
    exact ⟨h, rfl⟩
  | t + 1, d, k, found, xss, k', h, e => by
    rw [readImgs] at e
    split at e
    · cases e
    · split at e
      · have := readImgs_good (found := found ++ [[]]) (fun xs hx => by
          rcases List.mem_append.mp hx with hx | hx
          · exact h xs hx
          · rw [List.mem_singleton.mp hx]
            exact ⟨by simp, rfl⟩) e
        refine ⟨this.1, ?_⟩
        rw [this.2, List.length_append]
        simp; omega
      · split at e
        · cases e
        · rename_i k1 _ _ _
          have := readImgs_good (found := found ++ [plain (lettersL n (l.drop k1))]) (fun xs hx => by
            rcases List.mem_append.mp hx with hx | hx
            · exact h xs hx
            · rw [List.mem_singleton.mp hx]
              refine ⟨fun x hx => ?_, plain_adj _⟩
              have := lettersL_ok (plain_mem hx)
              omega) e
          refine ⟨this.1, ?_⟩
          rw [this.2, List.length_append]
          simp; omega
theorem rowsD_plain {n : Nat} {xss : List (List Int)} (h : GoodRows n xss) (hl : xss.length = n) : plainRowsD n (rowsD xss) = true := by
  show (decide (((xss.map rowD').length : Int) = n) && (xss.map rowD').all (plainRowD n)) = true
  rw [Bool.and_eq_true, decide_eq_true_eq, List.length_map, List.all_eq_true]
  refine ⟨by omega, fun d hd => ?_⟩
  obtain ⟨xs, hx, rfl⟩ := List.mem_map.mp hd
  obtain ⟨h1, h2⟩ := h xs hx
  show ((xs.map Dt.int).all (letterD n) && adjOk ((xs.map Dt.int).map intD)) = true
  rw [Bool.and_eq_true, intD_map, List.all_eq_true]
  refine ⟨fun d hd => ?_, h2⟩
  obtain ⟨x, hx, rfl⟩ := List.mem_map.mp hd
  have := h1 x hx
  simp [letterD, betweenD]
  omega
theorem dvs_rows {H : Hp} : ∀ {vs : List V} {xss : List (List Int)}, Rws H vs xss → DVs H vs (xss.map rowD')
  | _, _, .nil => .nil
  | _, _, .cons r t => .cons r.dv (dvs_rows t)
end My
namespace My
open PySem PySem.Spec PyProof.Rows L2 SX
theorem rowsD_inj {xss yss : List (List Int)} (h : rowsD xss = rowsD yss) : xss = yss := by
  have h1 : xss.map rowD' = yss.map rowD' := Dt.tup.inj h
  have key : ∀ xss : List (List Int), (xss.map rowD').map (fun d => match d with | .tup ds => ds.map intD | _ => []) = xss := by
    intro xss
    rw [List.map_map]
    exact (List.map_congr_left fun xs _ => intD_map xs).trans (List.map_id xss)
  rw [← key xss, h1, key]
theorem lettersL_len (n : Nat) (l : List Nat) : (lettersL n l).length ≤ l.length := by
  unfold lettersL
  have := (List.takeWhile_sublist (fun x => !decide (x = 0)) (l := l.map (letterC n))).length_le
  rw [List.length_map] at this
  exact this
theorem readImgs_short {n : Nat} {l : List Nat} : ∀ {t d k : Nat} {found : List (List Int)} {xss : List (List Int)} {k' : Nat}, (∀ xs ∈ found, xs.length ≤ l.length) → readImgs n l t d k found = .ok (xss, k') → ∀ xs ∈ xss, xs.length ≤ l.length
  | 0, _, _, _, _, _, h, e => by
    cases e
    exact h
  | t + 1, d, k, found, xss, k', h, e => by
    rw [readImgs] at e
    split at e
    · cases e
    · split at e
      · refine readImgs_short (found := found ++ [[]]) (fun xs hx => ?_) e
        rcases List.mem_append.mp hx with hx | hx
        · exact h xs hx
        · rw [List.mem_singleton.mp hx]
          simp
      · split at e
        · cases e
        · rename_i k1 _ _ _
          refine readImgs_short (fun xs hx => ?_) e
          rcases List.mem_append.mp hx with hx | hx
          · exact h xs hx
          · rw [List.mem_singleton.mp hx]
            have h1 := plain_len (lettersL n (l.drop k1))
            have h2 := lettersL_len n (l.drop k1)
            rw [List.length_drop] at h2
            omega
section
variable {P : Program} {w : World} {K : PySem.W.Frag} {mg : Str → Option Value} {base : Heap}
/-- what a renaming's reading promises of a text -/
def ReadRen (K : PySem.W.Frag) (H : Hp) (Q : VK) (E : XK) (CT CR : Addr) (n : Nat) (l : List Nat) : Prop := l.length < 1000000 ∧ (∀ k : Nat, readImages n l = .error k → ErrAt H E CT k) ∧ (∀ xss, readImages n l = .ok xss → ∃ G μ, Falls G μ ∧ G xss ∧ ∀ steps last, Down xss steps last → (renLast n last = false → ∀ H', Same H H' → E (.ref CR) none H') ∧ (renLast n last = true → ∀ (t : Addr) (vs : List V) H', Same H H' → H' t = some (.tup vs) → Rws H' vs xss → Q (.ref t) H'))
@[irreducible] def spReadRen (K : PySem.W.Frag) (CD CT CR : Addr) : Sp := fun vs H Q E => ∃ (v u : V) (dn d : Dt), vs = [v, u] ∧ DV H v dn ∧ DV H u d ∧ (betweenD dn 1 4 = false → E (.ref CD) none H) ∧ ∀ n : Nat, dn = .int n → 1 ≤ n → n ≤ 4 → ((∀ x, d ≠ .str x) → ErrAt H E CT (-1)) ∧ (∀ l, d = .str (S l) → ReadRen K H Q E CT CR n l)
theorem spReadRen_i {CD CT CR : Addr} {H : Hp} {v u : V} {dn d : Dt} {Q : VK} {E : XK} (h1 : DV H v dn) (h2 : DV H u d) (r : betweenD dn 1 4 = false → E (.ref CD) none H)
    (q : ∀ n : Nat, dn = .int n → 1 ≤ n → n ≤ 4 → ((∀ x, d ≠ .str x) → ErrAt H E CT (-1)) ∧ (∀ l, d = .str (S l) → ReadRen K H Q E CT CR n l)) : spReadRen K CD CT CR [v, u] H Q E := by
  unfold spReadRen
  exact ⟨v, u, dn, d, rfl, h1, h2, r, q⟩
theorem ok_read_ren {CD CT CR : Addr} (B : Bt mg) (ET : ErT P K mg CT) (ER : Er K mg "BadRenaming" CR) (F : Fd K mg "read_renaming" s_read_renaming) (D3 : Df P w K mg base (L2.CX P w) 3 "need_deeds" ["deeds"] (spDeeds CD)) (DH : Df P w K mg base (L2.CX P w) 1 "behind_head" ["text", "start", "head"] (spHead CT))
    (D1 : Df P w K mg base CX0 1 "sign_of" ["letter"] spSign) (D2 : Df P w K mg base CX0 2 "letters_at" ["deeds", "text", "start"] spLettersAt) (D1p : Df P w K mg base CX0 1 "plain_of" ["letters"] (spPlain K)) (D7 : Df P w K mg base (L2.CX P w) 7 "is_renaming" ["deeds", "value"] (spRen CD)) :
    Df P w K mg base (L2.CX P w) 8 "read_renaming" ["deeds", "text"] (spReadRen K CD CT CR) := by
  obtain ⟨fI, cc, ET⟩ := ET.ex
  refine .mk' F sc_read_renaming (fun _ _ _ _ _ _ us hl => match us, hl with | [_, _], _ => rfl) (fun vs H Q E h => ?_) (fun f cdv A outer s H vs Q E hr h => ?_)
  · unfold spReadRen at h
    obtain ⟨v, u, dn, d, rfl, _⟩ := h
    rfl
  · unfold spReadRen at h
    obtain ⟨v, u, dn, d, rfl, h1, h2, r, q⟩ := h
    have nd := sc_read_renaming.nd
    refine ⟨_, pss_cons (ps_expr (pe_df (D3.mono (by decide)) hr rfl (passR (takes_of rfl rfl rfl rfl)) (pa_cons (pv 0) pa_nil)))
      (pss_cons (ps_if (pt_not (pt_val (pe_callB call_is (by rfl) B.isinstance boot_isinstance (pa_cons (pv 1) (pa_cons (pe_cls (n := "str") rfl B.str (by decide +kernel)) pa_nil)))))
      (pss_one (ps_raise rfl (takes_of rfl rfl rfl rfl) (pmk_sup ET SupX.fld_at hr (pa_cons (pe_un un_neg (pe_int)) pa_nil) rfl))) (pss_nil))
      (pss_cons (ps_par (i := 2) (j := 3) (by rfl) nd rfl rfl (by decide) rfl rfl (pa_cons (pe_lst pa_nil) (pa_cons (pe_int) pa_nil)) (by rfl))
      (pss_cons (ps_for (passes_of rfl) rfl (pi_range2 (by rfl) B.range (pa_cons (pe_int) (pa_cons (pe_op op_add (pv 0) (pe_int)) pa_nil))) (pg_name (i := 4) nd rfl (Or.inl rfl))
      (pss_cons (ps_set (i := 3) nd rfl (Or.inl rfl) (pe_df (DH.mono (by decide)) hr rfl (passR (takes_of rfl rfl rfl rfl)) (pa_cons (pv 1) (pa_cons (pv 3) (pa_cons (pe_op op_add_str (pe_op op_add_str (pe_ifExp (pt_cmpR op_gt (pv 4) (pe_int) (nomark _)) (pe_str) (pe_str)) (pe_df (D1.mono (by decide)) hr rfl pass0 (pa_cons (pv 4) pa_nil))) (pe_str)) pa_nil)))))
      (pss_cons (ps_if (pt_cmpR op_eq (pe_slice sl_str (pv 1) (po_some (pv 3)) (po_some (pe_op op_add (pv 3) (pe_int)))) (pe_str) (nomark _))
      (pss_cons (ps_expr (pe_bm PySem.F.plainAttrs_list PySem.F.slot_list_append PySem.F.type_list_append mt_append (pv 2) (pa_cons (pe_tup (pa_nil)) pa_nil)))
      (pss_cons (ps_aug (i := 3) nd rfl (.inl rfl) (pe_int) ip_add)
      (pss_one (ps_continue)))) (pss_nil))
      (pss_cons (ps_set (i := 5) nd rfl (Or.inl rfl) (pe_df (D2.mono (by decide)) hr rfl pass0 (pa_cons (pv 0) (pa_cons (pv 1) (pa_cons (pv 3) pa_nil)))))
      (pss_cons (ps_if (pt_cmpR (op_eqD hr.units) (pv 5) (pe_lst pa_nil) (nomark _))
      (pss_one (ps_raise rfl (takes_of rfl rfl rfl rfl) (pmk_sup ET SupX.fld_at hr (pa_cons (pv 3) pa_nil) rfl))) (pss_nil))
      (pss_cons (ps_expr (pe_bm PySem.F.plainAttrs_list PySem.F.slot_list_append PySem.F.type_list_append mt_append (pv 2) (pa_cons (pe_df (D1p.mono (by decide)) hr rfl pass0 (pa_cons (pv 5) pa_nil)) pa_nil)))
      (pss_one (ps_aug (i := 3) nd rfl (.inl rfl) (pe_callB call_lenK (by rfl) B.len boot_len (pa_cons (pv 5) pa_nil)) ip_add))))))))
      (pss_cons (ps_if (pt_cmpR op_lt (pv 3) (pe_callB call_len_str (by rfl) B.len boot_len (pa_cons (pv 1) pa_nil)) (nomark _))
      (pss_one (ps_raise rfl (takes_of rfl rfl rfl rfl) (pmk_sup ET SupX.fld_at hr (pa_cons (pv 3) pa_nil) rfl))) (pss_nil))
      (pss_cons (ps_if (pt_not (pt_val (pe_df D7 hr rfl (passR (takes_of rfl rfl rfl rfl)) (pa_cons (pv 0) (pa_cons (pe_callTy call_tuple_of (by rfl) B.tuple (by decide +kernel) (pa_cons (pv 2) pa_nil)) pa_nil)))))
      (pss_one (ps_raise rfl (takes_of rfl rfl rfl rfl) (pmk_own PySem.F.excBase_ValueError ER.x ER.g ER.k (raises_own ER.b ER.t) rfl))) (pss_nil))
      (pss_one (ps_ret (pe_callTy call_tuple_of (by rfl) B.tuple (by decide +kernel) (pa_cons (pv 2) pa_nil))))))))), ?_⟩
    refine ⟨_, rfl, spDeeds_i h1 (fun hb => ?_) r⟩
    obtain ⟨n, rfl, hn⟩ := between_int hb
    obtain ⟨m, rfl⟩ : ∃ m : Nat, n = m := ⟨n.toNat, by omega⟩
    cases h1
    obtain ⟨q1, q2⟩ := q m rfl (by omega) (by omega)
    refine ⟨_, rfl, isi_dv h2 (kit_str d) ⟨_, rfl, ?_⟩⟩
    have rise : ∀ (k : Int) (H' : Hp), Same H H' → ErrAt H E CT k → ∃ v', [V.int k] = [v'] ∧ ∀ d', H' d' = none → E (.ref CT) (some d') (upd H' d' (.xd [("at", v')])) := fun k H' s1 er => ⟨_, rfl, fun d' hd' => (er.same s1) d' _ (Same.new hd') hd' upd_same⟩
    cases h2 with
    | str x =>
      obtain ⟨l, rfl⟩ : ∃ l, x = S l := ⟨_, (S_tl x).symm⟩
      obtain ⟨hl, qe, qo⟩ := q2 l rfl
      have hnm : m ≤ 4 := by omega
      refine iteF ⟨Nat.zero_le _, fun D hD => ⟨_, _, rfl, ?_⟩⟩
      refine ⟨_, rfl, _, _, rfl, rfl, _, _, rfl, ⟨by omega, by omega, by omega, by omega⟩, ?_⟩
      rw [show ((m : Int) + 1 - 1).toNat = m by omega]
      refine for_wk (wk_range (H1 := H)) (fun i σ H' => ∃ (k : Nat) (x4 x5 : Option V) (vals : List V) (found : List (List Int)), σ = [some (.int m), some (.str (S l)), some (.ref D), some (.int k), x4, x5] ∧ Same H H' ∧ H' D = some (.lst vals) ∧ Rws H' vals found ∧ found.length = i ∧ readImgs m l m 1 0 [] = readImgs m l (m - i) (1 + i) k found) ⟨0, _, _, [], [], rfl, Same.new hD, upd_same, .nil, rfl, rfl⟩ (fun i σ H' h => by obtain ⟨_, _, _, _, _, _, h, _⟩ := h; exact h) ?_ ?_
      · rintro i σ H1 hi ⟨k, x4, x5, vals, found, rfl, s1, e1, r1, hf, rd⟩
        rw [show m - i = (m - (i + 1)) + 1 by omega, readImgs] at rd
        have hdeed : ((1 : Int) + (i : Int)) = ((1 + i : Nat) : Int) := by omega
        rw [hdeed]
        refine ⟨_, rfl, _, rfl, tOp_i (tOp_i ?_)⟩
        refine tIf_of (decide (1 < 1 + i)) (.str (S (if 1 < 1 + i then [32] else []))) (fun R r => ⟨_, rfl, _, _, rfl, rfl, _, rfl, ?_⟩) (fun h Q' q => ?_) (fun h Q' q => ?_) ?_
        · rw [show decide ((1 : Int) < ((1 + i : Nat) : Int)) = decide (1 < 1 + i) from decide_eq_decide.mpr (by omega)]
          exact r
        · rw [if_pos (of_decide_eq_true h), ← str_sp] at q
          exact q
        · rw [if_neg (of_decide_eq_false h), ← str_empty] at q
          exact q
        have l1 : (S (if 1 < 1 + i then [32] else [])).length ≤ 1 := by rw [S_len]; split <;> simp
        refine ⟨_, rfl, spSign_i (by omega) (by omega) (by omega) ⟨_, _, rfl, rfl, by rw [PySem.sizeLine_eq]; simp [S_len] at l1 ⊢; omega, ?_⟩⟩
        refine ⟨_, _, rfl, rfl, ?_, ?_⟩
        · rw [S_len] at l1
          rw [S_cat, str_eq, S_len, S_len, PySem.sizeLine_eq]
          simp only [List.length_append, List.length_cons, List.length_nil]
          omega
        · rw [S_cat, str_eq, S_cat]
          have ed : (if 1 < 1 + i then [32] else []) ++ [signC ((1 + i : Nat) : Int)] ++ [61] = dHead (1 + i) := rfl
          rw [ed]
          refine spHead_i hl (fun j hj => ?_) (fun j hj => ?_)
          · rw [hj] at rd
            have rd : readImgs m l m 1 0 [] = (if (l.drop j).take 1 = [49] then readImgs m l (m - (i + 1)) (1 + i + 1) (j + 1) (found ++ [[]]) else if lettersL m (l.drop j) = [] then .error j else readImgs m l (m - (i + 1)) (1 + i + 1) (j + (lettersL m (l.drop j)).length) (found ++ [plain (lettersL m (l.drop j))])) := rd
            have vl : vals.length < 16777216 := by rw [r1.len]; omega
            refine ⟨_, rfl, _, rfl, _, rfl, _, rfl, _, _, rfl, rfl, _, rfl, _, rfl, by rw [S_len, PySem.sizeLine_eq]; omega, rfl, _, rfl, ?_⟩
            rw [cutS_S, show cut l (some (j : Int)) (some ((j : Int) + 1)) = (l.drop j).take 1 from cut_one l j, str_one, decS]
            refine ite_of (fun h => ?_) (fun h => ?_)
            · rw [if_pos (of_decide_eq_true h)] at rd
              refine ⟨_, rfl, .inl ⟨rfl, _, SqL.of e1⟩, Nat.zero_le _, fun p hp => ?_⟩
              have s2 : Same H1 (upd H1 p (.tup [])) := Same.new hp
              refine ⟨D, vals, .ref p, rfl, rfl, s2 _ _ e1, by rw [PySem.sizeLine_eq]; exact vl, _, rfl, _, _, rfl, rfl, ?_⟩
              have t3 : Tst (upd H1 p (.tup [])) (upd (upd H1 p (.tup [])) D (.lst (vals ++ [.ref p]))) := (Tst.refl _).upd (s2 _ _ e1) fun xs z => by cases z
              exact ⟨j + 1, _, _, _, found ++ [[]], rfl, Same.mut (s1.trans s2) hD, upd_same, Rws.snoc (Row.tst t3 ⟨p, rfl, upd_same⟩) ((r1.same s2).tst t3), by simp [hf], rd⟩
            · rw [if_neg (of_decide_eq_false h)] at rd
              refine ⟨_, rfl, _, rfl, _, rfl, spLettersAt_i (k := j) hnm hl fun p H2 s2 hp e2 => ?_⟩
              generalize hL : lettersL m (l.drop j) = ls at rd e2
              refine ⟨_, rfl, Nat.zero_le _, fun z hz => eqD_int (t := false) (xs := ls) (ys := []) (.lst (SqL.of (by rw [upd_ne (ne_of_none e2 hz)]; exact e2))) (.lst (SqL.of upd_same)) ⟨_, rfl, ?_⟩⟩
              have s3 : Same H2 (upd H2 z (.lst [])) := Same.new hz
              have s13 := s1.trans (s2.trans s3)
              refine ite_of (fun h4 => ?_) (fun h4 => ?_)
              · rw [if_pos (of_decide_eq_true h4)] at rd
                exact ⟨_, rfl, rise j _ s13 (qe j (by rw [readImages, rd]))⟩
              · rw [if_neg (of_decide_eq_false h4)] at rd
                have e3 := s3 _ _ e2
                have hls : ls.length < 1000000 := by
                  rw [← hL]
                  unfold lettersL
                  have := (List.takeWhile_sublist (fun x => !decide (x = 0)) (l := (l.drop j).map (letterC m))).length_le
                  rw [List.length_map, List.length_drop] at this
                  omega
                refine ⟨_, rfl, .inl ⟨rfl, _, SqL.of (s3 _ _ (s2 _ _ e1))⟩, _, rfl, spPlain_i (.inl (SqL.of e3)) hls fun v H4 s4 r4 => ?_⟩
                have e1' := s4 _ _ (s3 _ _ (s2 _ _ e1))
                have hpD : p ≠ D := fun e => by rw [e, e1] at hp; cases hp
                refine ⟨D, vals, v, rfl, rfl, e1', by rw [PySem.sizeLine_eq]; exact vl, _, rfl, _, rfl, p, _, rfl, .inl (SqL.of (by rw [upd_ne hpD]; exact s4 _ _ e3)), _, _, rfl, rfl, ?_⟩
                have t5 : Tst H4 (upd H4 D (.lst (vals ++ [v]))) := (Tst.refl _).upd e1' fun xs z => by cases z
                refine ⟨j + ls.length, some (.int ((1 + i : Nat) : Int)), some (.ref p), _, found ++ [plain ls], ?_, Same.mut (s13.trans s4) hD, upd_same, Rws.snoc (r4.tst t5) ((r1.same ((s2.trans s3).trans s4)).tst t5), by simp [hf], rd⟩
                have e9 : (j : Int) + ((iV ls).length : Int) = ((j + ls.length : Nat) : Int) := by simp only [iV, List.length_map]; omega
                rw [← e9]
                rfl
          · have rd : readImgs m l m 1 0 [] = .error j := by rw [rd, hj]
            exact fun d' H' s2 hd' e2 => qe j (by rw [readImages, rd]) d' H' (s1.trans s2) (by
              cases q : H d' with
              | none => rfl
              | some o => rw [s1 _ _ q] at hd'; cases hd') e2
      · rintro σ H1 ⟨k, x4, x5, vals, found, rfl, s1, e1, r1, hf, rd⟩
        rw [Nat.sub_self, readImgs] at rd
        have gd := readImgs_good (by intro xs h; cases h) rd
        have er : readImages m l = if k < l.length then .error k else .ok found := by rw [readImages, rd]
        refine ⟨_, rfl, _, rfl, _, rfl, by rw [S_len, PySem.sizeLine_eq]; omega, _, _, rfl, rfl, _, rfl, ?_⟩
        rw [S_len]
        refine ite_of (fun h => ?_) (fun h => ?_)
        · have h : (k : Int) < (l.length : Int) := of_decide_eq_true h
          rw [if_pos (by omega)] at er
          exact ⟨_, rfl, rise k H1 s1 (qe k er)⟩
        · have h : ¬ (k : Int) < (l.length : Int) := of_decide_eq_false h
          rw [if_neg (by omega)] at er
          obtain ⟨G, μ, hF, hG, q3⟩ := qo found er
          refine ⟨_, rfl, _, rfl, D, vals, rfl, .inl ⟨SqL.of e1, fun t ht => ?_⟩⟩
          have s2 : Same H1 (upd H1 t (.tup vals)) := Same.new ht
          refine spRen_i (dn := .int m) (d := rowsD found) (.int _) (.tup upd_same (dvs_rows (r1.same s2))) (fun e => ?_) (fun ds e d hd => ?_) fun n en hn1 hn2 => ?_
          · have : betweenD (.int (m : Int)) 1 4 = true := by simp [betweenD]; omega
            rw [this] at e
            cases e
          · obtain rfl : found.map rowD' = ds := Dt.tup.inj e
            obtain ⟨xs, hx, rfl⟩ := List.mem_map.mp hd
            have := readImgs_short (by intro xs h; cases h) rd xs hx
            show (xs.map Dt.int).length < 1000000
            rw [List.length_map]
            omega
          · obtain rfl : (m : Int) = n := Dt.int.inj en
            have pt : plainRowsD m (rowsD found) = true := rowsD_plain gd.1 hf
            refine ⟨(fun pf => by rw [pt] at pf; cases pf), fun xss _ ex => ?_⟩
            obtain rfl : found = xss := rowsD_inj ex
            refine ⟨G, μ, hF, hG, fun steps last H3 dn s3 => ⟨_, rfl, ?_⟩⟩
            obtain ⟨q4, q5⟩ := q3 steps last dn
            have s123 := s1.trans (s2.trans s3)
            cases er : renLast m last with
            | false => exact iteT (q4 er _ s123)
            | true =>
              refine iteF ⟨_, rfl, D, vals, rfl, .inl ⟨SqL.of (s3 _ _ (s2 _ _ e1)), fun t2 ht2 => ?_⟩⟩
              have s4 : Same H3 (upd H3 t2 (.tup vals)) := Same.new ht2
              exact q5 er t2 vals _ (s123.trans s4) upd_same (r1.same ((s2.trans s3).trans s4))
    | _ => exact iteT ⟨_, rfl, rise (-1) H (Same.refl H) (q1 fun x e => by cases e)⟩
end
end My
namespace EnT
open PySem PySem.Spec PyProof.Rows
open Sem (wp)
open AutoSeq1 (wpAny_loadPart')
/-! ### enumerate of a tuple -/
theorem new_enum (l : Addr) (items : Array Value) (n : Nat) (dct : Option Addr) (sl : Array (Option Value)) :
    Meets (Builtin.«enumerate.__new__» ⟨[.type "enumerate", .ref l], []⟩) (fun _ R s => s.heap.get? l = some { cls := .type "tuple", dict := dct, data := .seq items n, slots := sl } ∧
      R (.ok (.ret (.ref (s.heap.push { cls := .type "tuple_iterator", data := .fields #[.ref l, .int 0 0] }).objs.size)))
        { s with heap := (s.heap.push { cls := .type "tuple_iterator", data := .fields #[.ref l, .int 0 0] }).push { cls := .type "enumerate", data := .fields #[.none, .bool false, .ref s.heap.objs.size, rawInt 0, .none, .none] } }) :=
  .of_wp fun prog w A R s h => by
    obtain ⟨hp, g, d, tk, os⟩ := s
    obtain ⟨hl, h⟩ := h
    have hsub := sub_enumerate
    have hT : Heap.IsTuple (Shared.heap ⟨hp, g, d, tk, os⟩) l items := ⟨_, hl, rfl, n, rfl⟩
    wp_walk using wpAny_loadPart' hl
    refine wpAny_stack_any fun st => wpAny_pure ?_
    split
    · rename_i c _ _ _ _ _
      cases (c == Value.type "enumerate") <;> (wp_walk using wpAny_loadPart' hl, wpAny_pyIter_tuple hT; exact ⟨_, rfl, h⟩)
    · wp_walk using wpAny_loadPart' hl, wpAny_pyIter_tuple hT
      exact ⟨_, rfl, h⟩
section
variable {prog : Program} {w : World} {A : Around} {E : Value → Shared → Prop} {s : Shared}
theorem call_enum {l : Addr} {items : Array Value} {Q : Value → Shared → Prop} (hL : s.heap.IsTuple l items)
    (h : ∀ h', IsEnum h' (s.heap.objs.size + 1) s.heap.objs.size 0 .none → h'.IsTupleIter s.heap.objs.size l 0 → (∀ b o, s.heap.get? b = some o → h'.get? b = some o) → Q (.ref (s.heap.objs.size + 1)) { s with heap := h' }) :
    wpAny (model prog w) A (call (.type "enumerate") [.ref l]) Q E s := by
  obtain ⟨⟨c, dct, dt, sl⟩, hl, hc, n, hd⟩ := hL
  replace hc : c = .type "tuple" := hc
  replace hd : dt = .seq items n := hd
  subst hc hd
  refine callType_new F.called_enumerate (by decide) (F.typeCall_enumerate_1 _) (F.newCall_enumerate_1 _) (fun obj => F.args_object_init_2 obj _) F.entry_enumerate_new (new_enum l items n dct sl) ⟨hl, ?_⟩
  have hz : (s.heap.push { cls := .type "tuple_iterator", data := .fields #[.ref l, .int 0 0] }).objs.size = s.heap.objs.size + 1 := Heap.size_push ..
  show _ ∧ _
  rw [hz]
  have he : IsEnum ((s.heap.push { cls := .type "tuple_iterator", data := .fields #[.ref l, .int 0 0] }).push { cls := .type "enumerate", data := .fields #[.none, .bool false, .ref s.heap.objs.size, rawInt 0, .none, .none] }) (s.heap.objs.size + 1) s.heap.objs.size 0 .none := by
    have q := Heap.get?_push_size (s.heap.push { cls := .type "tuple_iterator", data := .fields #[.ref l, .int 0 0] }) (o := { cls := .type "enumerate", data := .fields #[.none, .bool false, .ref s.heap.objs.size, rawInt 0, .none, .none] }) rfl
    rw [hz] at q
    exact q
  exact ⟨⟨_, he, rfl⟩, h _ he ⟨_, Heap.get?_push_of_some _ (Heap.get?_push_size _ rfl), rfl, rfl⟩ fun b o x => Heap.get?_push_of_some _ (Heap.get?_push_of_some _ x)⟩
end
end EnT
namespace L2
open PySem PySem.Spec PyProof.Rows
/-- the tuple at a, each item in a new pair -/
def IteT (K : PySem.W.Frag) (a : Addr) : It :=
  ⟨fun i H => ∃ (xs : List V) (x : V), SqT K H a xs ∧ xs[i]? = some x, fun i H v H' => ∃ T x, v = .ref T ∧ H T = none ∧ H' = upd H T (.tup [.int (i : Nat), x]) ∧ ∀ xs, SqT K H a xs → xs[i]? = some x, fun i H => ∃ xs : List V, SqT K H a xs ∧ xs.length ≤ i⟩
theorem turn_enumT {P : Program} {w : World} {K : PySem.W.Frag} {elts : List Expr} {kk : Nat} {tpos : Pos} (a e it : Addr) :
    Turn P w K (.Tuple elts kk tpos) (IteT K a) [e, it] e (fun i h => (∃ old, IsEnum h e it ((i : Nat) : Int) old) ∧ h.IsTupleIter it a i ∧ e ≠ it) where
  mem := by simp
  obj := fun i h st b hb => by
    obtain ⟨⟨old, he⟩, ⟨o, ho, hc, hd⟩, _⟩ := st
    rcases (by simpa using hb : b = e ∨ b = it) with z | z
    · rw [z]; exact ⟨_, he, fun v q => nomatch q⟩
    · rw [z]; exact ⟨o, ho, fun v q => by rw [hd] at q; cases q⟩
  keep := fun i h h' st k => let ⟨⟨old, he⟩, hi, hne⟩ := st; ⟨⟨old, k e (by simp) _ he⟩, hi.at fun o q => k it (by simp) o q, hne⟩
  item := by
    intro X hP hw hK hc i pins s σ H E I hf st hg
    subst hP hw hK
    obtain ⟨⟨old, he⟩, hit, hne⟩ := st
    obtain ⟨xs, x, hq, hx⟩ := hg
    obtain ⟨its, rv, p, hz⟩ := I.tuple hq
    have p : s.heap.IsTuple a its.toArray := p
    obtain ⟨u, hu, ru⟩ := rv.get hx
    have hel : e < s.heap.objs.size := Heap.lt_size he
    have hil : it < s.heap.objs.size := by obtain ⟨_, q, _⟩ := hit; exact Heap.lt_size q
    have n1 : a ≠ it := fun z => by
      obtain ⟨o, ho, hc, _⟩ := id p
      obtain ⟨o', ho', hc', _⟩ := id hit
      rw [z, ho'] at ho
      cases ho
      rw [hc'] at hc
      exact absurd hc (by simp)
    have n2 : e ≠ a := fun z => by
      obtain ⟨o, ho, hc, _⟩ := id p
      have he' : s.heap.get? e = some _ := he
      rw [z, ho] at he'
      cases he'
      exact absurd hc (by simp)
    have hlt : i < its.toArray.size := by
      have := (List.getElem?_eq_some_iff.mp hu).1
      simpa using this
    refine wpAny_pyNext_enum_itemD (Draws.tuple (A := X.A.in1) (I.ok.hd hc) it a n1 its.toArray) he ⟨hit, p⟩ hlt hne (by simp [hne, n2]) fun u' h' tk hP ho st' hT hsz hk => ?_
    have eu : u' = u := by
      rw [List.getElem?_toArray, hu] at hP
      exact (Option.some.inj hP).symm
    subst eu
    refine ⟨_, rfl, wpAny_letOwnedTupleGo_enum (s := { s with heap := h', toks := tk + 1 }) ho fun h'' he' sb => ?_⟩
    have hT2 : h''.get? s.heap.objs.size = some { cls := .type "tuple", data := .seq #[.int i tk, u'] } := (sb.2 _ (Nat.ne_of_gt hel)).trans hT
    have new : ObjOk X.prog X.w (upd H s.heap.objs.size (.tup [.int (i : Nat), x])) h'' s.heap.objs.size (.tup [.int (i : Nat), x]) :=
      ⟨by show 2 ≤ sizeLine; decide, [.int i tk, u'], .cons ⟨_, rfl⟩ (.cons ru .nil), ⟨_, hT2, rfl, _, rfl⟩⟩
    have I1 : Inv X pins σ (upd H s.heap.objs.size (.tup [.int (i : Nat), x])) { s with heap := h'', toks := tk + 1 } :=
      I.turnedNew (ch := [e, it]) (fun b ob hb q => (sb.2 b (fun z => hb (by simp [z]))).trans (hk b ob (fun z => hb (by simp [z])) (fun z => hb (by simp [z])) q)) hf (Nat.le_refl _) new
    refine ⟨.ref s.heap.objs.size, _, I1, rfl, ⟨_, x, rfl, I.hok.fresh (Nat.le_refl _), rfl, fun ys hy => by rw [I.tuple_inj hy hq]; exact hx⟩, ⟨⟨u', ?_⟩, st'.1.at fun o q => (sb.2 it (Ne.symm hne)).trans q, hne⟩, fun b hb => ?_⟩
    · have e1 : ((i + 1 : Nat) : Int) = (i : Int) + 1 := by omega
      rw [e1]
      exact he'
    · have hb' : b < s.heap.objs.size := by
        rcases (by simpa using hb : b = e ∨ b = it) with z | z
        · rw [z]; exact hel
        · rw [z]; exact hil
      rw [upd_ne (Nat.ne_of_lt hb')]
      exact (hf b hb).1
  done := by
    intro X hP hw hK hc i pins s σ H E I hf st hg
    subst hP hw hK
    obtain ⟨⟨old, he⟩, hit, hne⟩ := st
    obtain ⟨xs, hq, hx⟩ := hg
    obtain ⟨its, rv, p, hz⟩ := I.tuple hq
    have p : s.heap.IsTuple a its.toArray := p
    obtain ⟨f0, f1, f2, f3, f4, f5⟩ := hf it (by simp)
    have hl := rv.length
    have hT : s.TypeIs (.ref e) "enumerate" := ⟨_, he, rfl⟩
    unfold pyNext
    refine wpAny_bind (wpAny_attempt (wpAny_callSpecial?_slot (name := Str.ofString "__next__") hT F.slot_enumerate_next (wpAny_call_entry F.slot_enumerate_next hT F.entry_enumerate_next ?_ (F.args_enumerate_next_1 _))))
    show wpAny _ _ (field (.ref e) 2 >>= _) _ _ _
    refine wpAny_bind (wpAny_field he rfl (x := .ref it) rfl ?_)
    refine wpAny_bind (wpAny_nextOf_tuple_end (I.ok.hd hc) hit p (by simp; omega) fun h' x eb hx' => ?_)
    obtain ⟨o, ho, hcl⟩ := hx'
    refine wpAny_bind (wpAny_isInstance (T := "StopIteration") (b := true) ⟨o, ho, hcl⟩ isSubtype_stop ?_)
    exact wpAny_pure ⟨rfl, I.turned (t' := s.toks) (fun b o hb q => eb b o hb q) f0 f1 f3 f4 f5⟩
  self := fun A i s Q E st h => let ⟨⟨_, he⟩, _⟩ := st; wpAny_pyIter_enum he h
/-- enumerate of a tuple, walked -/
def iEnumT (K : PySem.W.Frag) (ta : TA) : TI := fun σ H R => ta σ H fun vs H1 => ∃ a xs, vs = [.ref a] ∧ SqT K H1 a xs ∧ R (IteT K a) H1
theorem pi_enumT {X : Cx} {e : Expr} {ta : TA} {p pos tpos : Pos} {elts : List Expr} {kk : Nat} (hg : Gl X "enumerate") (hm : X.mg "enumerate" = none) (ha : PA X [e] ta) (hs : starEach [e] X.env = [(false, eval e X.env)] := by rfl) :
    PI X (.Tuple elts kk tpos) (.Call (.Name "enumerate" p) [e] [] pos) (iEnumT X.K ta) := by
  refine ⟨fun pins s σ H R I h => ?_⟩
  refine Call_ (ld_blt I hg hm boot_enumerate (PyProof.Rows.callWith_type1 (thn (ha.run pos pins s σ H _ I h) fun us s1 ⟨vs, H1, I1, r1, q1⟩ => ?_) hs rfl))
  obtain ⟨a, xs, rfl, hq, q⟩ := q1
  rw [Vals.ref1 r1]
  obtain ⟨its, rv, p', hz⟩ := I1.tuple hq
  refine EnT.call_enum p' fun h' he hit hk => wpAny_pyIter_enum he ?_
  have I2 : Inv X pins σ H1 { s1 with heap := h' } := I1.kept (t' := s1.toks) hk
  refine ⟨s1.heap.objs.size + 1, [s1.heap.objs.size + 1, s1.heap.objs.size], _, _, H1, rfl, I2, turn_enumT a (s1.heap.objs.size + 1) s1.heap.objs.size, ⟨⟨.none, he⟩, hit, Nat.succ_ne_self _⟩, fun b hb => ?_, q⟩
  have hle : s1.heap.objs.size ≤ b := by
    rcases (by simpa using hb : b = s1.heap.objs.size + 1 ∨ b = s1.heap.objs.size) with z | z
    · rw [z]; exact Nat.le_add_right _ _
    · rw [z]; exact Nat.le_refl _
  exact I1.fpOk hle (I1.hok.fresh hle)
end L2
namespace My
open PySem PySem.Spec PyProof.Rows L2
/-- what is walked in pairs of a place and an item, each a new tuple -/
structure WkE (J : It) (H1 : Hp) (n : Nat) (Xv : Nat → V) : Prop where
  go : ∀ i H, Same H1 H → i < n → J.go i H
  stop : ∀ i H, Same H1 H → n ≤ i → J.stop i H
  yld : ∀ i H x H', Same H1 H → i < n → J.yld i H x H' → ∃ T, x = .ref T ∧ H T = none ∧ H' = upd H T (.tup [.int (i : Nat), Xv i])
theorem wkE_list {K : PySem.W.Frag} {H1 : Hp} {a : Addr} {xs : List V} (h : SqL K H1 a xs) : WkE (Ite K a) H1 xs.length (fun i => xs.getD i .non) where
  go := fun i H e hi => ⟨xs, xs[i], e.seq h, by simp [hi]⟩
  stop := fun i H e hi => ⟨xs, e.seq h, hi⟩
  yld := fun i H x H' e hi y => by
    obtain ⟨T, z, e1, e2, e3, e4⟩ := y
    have q := e4 xs (e.seq h)
    exact ⟨T, e1, e2, by rw [e3, List.getD_eq_getElem?_getD, q]; rfl⟩
theorem wkE_tup {K : PySem.W.Frag} {H1 : Hp} {a : Addr} {xs : List V} (h : SqT K H1 a xs) : WkE (IteT K a) H1 xs.length (fun i => xs.getD i .non) where
  go := fun i H e hi => ⟨xs, xs[i], SqT.same e h, by simp [hi]⟩
  stop := fun i H e hi => ⟨xs, SqT.same e h, hi⟩
  yld := fun i H x H' e hi y => by
    obtain ⟨T, z, e1, e2, e3, e4⟩ := y
    have q := e4 xs (SqT.same e h)
    exact ⟨T, e1, e2, by rw [e3, List.getD_eq_getElem?_getD, q]; rfl⟩
/-- a written text with parts, its reading by a name of its own -/
def tJoin (ts : List TE) : TE := fun σ H Q => tJs ts Str.empty σ H fun out H1 => Q (.str out) H1
theorem pe_joinedD {X : Cx} {v1 v2 : Expr} {rest : List Expr} {ts : List TE} {pos : Pos} (h : PJ X (v1 :: v2 :: rest) ts) : PE X (.JoinedStr (v1 :: v2 :: rest) pos) (tJoin ts) := pe_joined h
theorem lc_enum {K : PySem.W.Frag} {J : It} {H1 : Hp} {D : Addr} {n j1 j2 : Nat} {Xv : Nat → V} {te : TE} {vs : List Nat} {σ : L2.St} {Qd : Hp → Prop} (R : Nat → V → Hp → Prop) (hJ : WkE J H1 n Xv) (hD : H1 D = none) (hn : n < sizeLine)
    (hw : ∀ x y, wipe (((wipe σ vs).set j1 (some x)).set j2 (some y)) vs = wipe σ vs) (Rs : ∀ i v H H', Tst H H' → R i v H → R i v H')
    (he : ∀ i H', i < n → Same H1 H' → ∀ Q' : VK, (∀ v H'', Same H' H'' → R i v H'' → Q' v H'') → te (((wipe σ vs).set j1 (some (.int (i : Nat)))).set j2 (some (Xv i))) H' Q')
    (hd : ∀ (H' : Hp) (ys : List V), Same H1 H' → H' D = some (.lst ys) → ys.length = n → (∀ (k : Nat) (v : V), ys[k]? = some v → R k v H') → Qd H') :
    ∃ W : Nat → Nat → Hp → Prop, (∃ m, W 0 m (upd H1 D (.lst []))) ∧ ∀ i m H, W i m H →
      (J.stop i H ∧ Qd H) ∨ (J.go i H ∧ ∃ Nx : Hp → Prop, (∀ H', Nx H' → ∃ m', m' < m ∧ W (i + 1) m' H') ∧ ∀ x H', J.yld i H x H' → gTup K 2 (gCons (gName j1) (gCons (gName j2) gNil)) x (wipe σ vs) H' fun σ2 H2 => wipe σ2 vs = wipe σ vs ∧ tYes σ2 H2 fun b H3 =>
        if b = true then te σ2 H3 fun y H4 => ∃ acc, H4 D = some (.lst acc) ∧ acc.length < sizeLine ∧ Nx (upd H4 D (.lst (acc ++ [y]))) else Nx H3) := by
  refine ⟨fun i m H => m = n - i ∧ i ≤ n ∧ Same H1 H ∧ ∃ ys : List V, H D = some (.lst ys) ∧ ys.length = i ∧ ∀ (k : Nat) (v : V), ys[k]? = some v → R k v H, ⟨n, by simp, Nat.zero_le _, Same.new hD, [], upd_same, rfl, fun k v e => by simp at e⟩, ?_⟩
  rintro i m H ⟨rfl, hi, e1, ys, hys, hl, hR⟩
  by_cases hlt : i < n
  · refine .inr ⟨hJ.go i H e1 hlt, fun H' => Same H1 H' ∧ ∃ ys : List V, H' D = some (.lst ys) ∧ ys.length = i + 1 ∧ ∀ (k : Nat) (v : V), ys[k]? = some v → R k v H', fun H' p => ⟨n - (i + 1), by omega, rfl, hlt, p⟩, fun x H' y => ?_⟩
    obtain ⟨T, rfl, hT, rfl⟩ := hJ.yld i H x H' e1 hlt y
    have s2 : Same H (upd H T (.tup [.int (i : Nat), Xv i])) := Same.new hT
    refine ⟨T, _, rfl, .inl (.inl upd_same), rfl, _, _, rfl, _, _, rfl, rfl, hw _ _, ?_⟩
    refine he i _ hlt (e1.trans s2) _ (fun v H4 s4 hv => ⟨ys, s4 _ _ (s2 _ _ hys), by omega, Same.mut ((e1.trans s2).trans s4) hD, ys ++ [v], upd_same, by simp [hl], fun k u h1 => ?_⟩)
    have hD4 : H4 D = some (.lst ys) := s4 _ _ (s2 _ _ hys)
    have t4 : Tst H4 (upd H4 D (.lst (ys ++ [v]))) := (Tst.refl H4).upd hD4 fun xs z => by cases z
    by_cases hk : k < ys.length
    · rw [List.getElem?_append_left hk] at h1
      exact Rs _ _ _ _ (((Tst.of s2).trans (Tst.of s4)).trans t4) (hR k u h1)
    · rw [List.getElem?_append_right (by omega)] at h1
      have e0 : k - ys.length = 0 := by
        cases q : k - ys.length with
        | zero => rfl
        | succ m => rw [q] at h1; simp at h1
      rw [e0] at h1
      obtain rfl : v = u := by simpa using h1
      obtain rfl : k = i := by omega
      exact Rs _ _ _ _ t4 hv
  · obtain rfl : i = n := by omega
    exact .inl ⟨hJ.stop i H e1 (Nat.le_refl _), hd H ys e1 hys hl hR⟩
end My
namespace My
open PySem PySem.Spec PyProof.Rows L2 SX
def imgText (k : Nat) (xs : List Int) : List Nat := [signC ((k : Int) + 1)] ++ [61] ++ textC xs
def imgsText (xss : List (List Int)) : List Nat := TL.joinL [32] ((List.range xss.length).map fun k => imgText k (xss.getD k []))
theorem textC_len (xs : List Int) : (textC xs).length ≤ xs.length + 1 := by
  unfold textC
  split <;> simp
section
variable {P : Program} {w : World} {K : PySem.W.Frag} {mg : Str → Option Value} {base : Heap}
@[irreducible] def spRenText (CD CR : Addr) : Sp := fun vs H Q E => ∃ (v u : V) (dn d : Dt), vs = [v, u] ∧ DV H v dn ∧ DV H u d ∧ (betweenD dn 1 4 = false → E (.ref CD) none H) ∧ (∀ ds, d = .tup ds → ∀ e ∈ ds, Short e) ∧ ∀ n : Nat, dn = .int n → 1 ≤ n → n ≤ 4 →
  (plainRowsD n d = false → ∀ H', Same H H' → E (.ref CR) none H') ∧ (∀ xss, plainRowsD n d = true → d = rowsD xss → ∃ G μ, Falls G μ ∧ G xss ∧ ∀ steps last, Down xss steps last → (renLast n last = false → ∀ H', Same H H' → E (.ref CR) none H') ∧ (renLast n last = true → ∀ H', Same H H' → Q (.str (S (imgsText xss))) H'))
theorem spRenText_i {CD CR : Addr} {H : Hp} {v u : V} {dn d : Dt} {Q : VK} {E : XK} (h1 : DV H v dn) (h2 : DV H u d) (r : betweenD dn 1 4 = false → E (.ref CD) none H) (hs : ∀ ds, d = .tup ds → ∀ e ∈ ds, Short e)
    (q : ∀ n : Nat, dn = .int n → 1 ≤ n → n ≤ 4 → (plainRowsD n d = false → ∀ H', Same H H' → E (.ref CR) none H') ∧ (∀ xss, plainRowsD n d = true → d = rowsD xss → ∃ G μ, Falls G μ ∧ G xss ∧ ∀ steps last, Down xss steps last → (renLast n last = false → ∀ H', Same H H' → E (.ref CR) none H') ∧ (renLast n last = true → ∀ H', Same H H' → Q (.str (S (imgsText xss))) H'))) : spRenText CD CR [v, u] H Q E := by
  unfold spRenText
  exact ⟨v, u, dn, d, rfl, h1, h2, r, hs, q⟩
theorem sum_le {l : List Nat} {c : Nat} (h : ∀ x ∈ l, x ≤ c) : l.sum ≤ l.length * c := by
  induction l with
  | nil => simp
  | cons x r ih =>
    have h1 := h x (by simp)
    have h2 := ih fun y hy => h y (by simp [hy])
    rw [List.sum_cons, List.length_cons, Nat.succ_mul]
    omega
theorem ok_ren_text {CD CR : Addr} (B : Bt mg) (ER : Er K mg "BadRenaming" CR) (F : Fd K mg "renaming_text" s_renaming_text) (D3 : Df P w K mg base (L2.CX P w) 3 "need_deeds" ["deeds"] (spDeeds CD)) (D7 : Df P w K mg base (L2.CX P w) 7 "is_renaming" ["deeds", "value"] (spRen CD))
    (D1 : Df P w K mg base CX0 1 "sign_of" ["letter"] spSign) (D2 : Df P w K mg base CX0 2 "text_of" ["row"] spText) : Df P w K mg base (L2.CX P w) 8 "renaming_text" ["deeds", "renaming"] (spRenText CD CR) := by
  refine .mk' F sc_renaming_text (fun _ _ _ _ _ _ us hl => match us, hl with | [_, _], _ => rfl) (fun vs H Q E h => ?_) (fun f cdv A outer s H vs Q E hr h => ?_)
  · unfold spRenText at h
    obtain ⟨v, u, dn, d, rfl, _⟩ := h
    rfl
  · unfold spRenText at h
    obtain ⟨v, u, dn, d, rfl, h1, h2, r, hs, q⟩ := h
    have nd := sc_renaming_text.nd
    refine ⟨_, pss_cons (ps_expr (pe_df (D3.mono (by decide)) hr rfl (passR (takes_of rfl rfl rfl rfl)) (pa_cons (pv 0) pa_nil)))
      (pss_cons (ps_if (pt_not (pt_val (pe_df D7 hr rfl (passR (takes_of rfl rfl rfl rfl)) (pa_cons (pv 0) (pa_cons (pv 1) pa_nil)))))
      (pss_one (ps_raise rfl (takes_of rfl rfl rfl rfl) (pmk_own PySem.F.excBase_ValueError ER.x ER.g ER.k (raises_own ER.b ER.t) rfl))) (pss_nil))
      (pss_one (ps_ret (pe_join (pe_str) (pe_lc (own := [("at", 2), ("image", 3)]) (g := gTup K 2 (gCons (gName 2) (gCons (gName 3) gNil))) rfl nd (pi_enumT (by rfl) B.enumerate (pa_cons (pv 1) pa_nil)) (blkOk_by (own := [("at", 2), ("image", 3)]) (N := ["deeds", "renaming", "at", "image"]) (sc := defScope s_renaming_text) (by decide +kernel))
        (fun _ _ _ _ _ => pg_tup rfl (pgs_cons (pg_name (i := 2) nd rfl (Or.inl rfl)) (pgs_cons (pg_name (i := 3) nd rfl (Or.inl rfl)) pgs_nil))) (fun _ _ _ _ _ => pts_nil) (fun _ _ _ _ _ => pe_joinedD (PJ.cons (pe_fmt (pe_df (D1.mono (by decide)) hr rfl pass0 (pa_cons (pe_op op_add (pv 2) (pe_int)) pa_nil))) (PJ.cons (pe_str) (PJ.cons (pe_fmt (pe_df (D2.mono (by decide)) hr rfl pass0 (pa_cons (pv 3) pa_nil))) PJ.nil))))))))), ?_⟩
    refine ⟨_, rfl, spDeeds_i h1 (fun hb => ?_) r⟩
    obtain ⟨n, rfl, hn⟩ := between_int hb
    obtain ⟨m, rfl⟩ : ∃ m : Nat, n = m := ⟨n.toNat, by omega⟩
    cases h1
    obtain ⟨q1, q2⟩ := q m rfl (by omega) (by omega)
    refine ⟨_, rfl, _, rfl, spRen_i (.int _) h2 r hs fun n' en _ _ => ?_⟩
    obtain rfl : (m : Int) = n' := Dt.int.inj en
    refine ⟨fun pf H' s1 => ⟨_, rfl, iteT (q1 pf H' s1)⟩, fun xss pt ex => ?_⟩
    obtain ⟨G, μ, hF, hG, q3⟩ := q2 xss pt ex
    refine ⟨G, μ, hF, hG, fun steps last H' dn s1 => ⟨_, rfl, ?_⟩⟩
    obtain ⟨q4, q5⟩ := q3 steps last dn
    cases er : renLast m last with
    | false => exact iteT (q4 er H' s1)
    | true =>
      subst ex
      obtain ⟨yss, ey, hl, hp⟩ := plainRowsD_rows pt
      obtain rfl : xss = yss := rowsD_inj ey
      cases h2 with
      | @tup a vs _ g1 g2 =>
        have hR := rows_of_dv g2
        have hR1 := hR.same s1
        have gt : SqT K H' a vs := .inl (.inl (s1 _ _ g1))
        have hlen := hR.len
        refine iteF ⟨⟨_, rfl⟩, _, rfl, a, vs, rfl, gt, fun D hD => ?_⟩
        refine lc_enum (K := K) (j1 := 2) (j2 := 3) (fun k v _ => v = .str (S (imgText k (xss.getD k [])))) (wkE_tup gt) hD (by rw [PySem.sizeLine_eq]; omega) (fun _ _ => rfl) (fun _ _ _ _ _ h => h) (fun i H2 hi s2 Q' q' => ?_) (fun H2 ys s2 f1 f2 f3 => ?_)
        · obtain ⟨z, e1, rz⟩ := hR1.get (i := i) (by omega)
          have ez : vs.getD i .non = z := by rw [List.getD_eq_getElem?_getD, e1]; rfl
          rw [ez]
          have hm : xss.getD i [] ∈ xss := by
            rw [List.getD_eq_getElem?_getD, List.getElem?_eq_getElem (by omega)]
            exact List.getElem_mem _
          have hsh : (xss.getD i []).length < 1000000 := by
            have := hs _ rfl (rowD' (xss.getD i [])) (List.mem_map.mpr ⟨_, hm, rfl⟩)
            have : ((xss.getD i []).map Dt.int).length < 1000000 := this
            simpa using this
          have hle := (hp _ hm).1
          have tl := textC_len (xss.getD i [])
          have e0 : (Str.empty : Str) = S [] := rfl
          unfold imgText at q'
          generalize xss.getD i [] = X at hle tl hsh hm rz q'
          refine ⟨_, rfl, _, _, rfl, rfl, spSign_i (by omega) (by omega) (by omega) (.inl ⟨_, rfl, by rw [S_len, PySem.sizeLine_eq]; simp, _, rfl, by rw [e0, S_cat, S_len, PySem.sizeLine_eq]; simp, _, rfl, by rw [e0, S_cat, str_eq, S_cat, S_len, PySem.sizeLine_eq]; simp, _, rfl, spText_i (rz.same s2) (fun x hx => ?_) hsh fun H3 s3 => .inl ⟨_, rfl, by rw [S_len, PySem.sizeLine_eq]; omega, _, rfl, by rw [e0, S_cat, str_eq, S_cat, S_cat, S_len, PySem.sizeLine_eq]; simp; omega, q' _ _ s3 ?_⟩⟩)⟩
          · have := hle x hx
            omega
          · rw [e0, S_cat, str_eq, S_cat, S_cat]
            rfl
        · have ey := strs_of (f := fun k => imgText k (xss.getD k [])) (n := xss.length) (by omega) f3
          refine ⟨_, D, ((List.range xss.length).map fun k => imgText k (xss.getD k [])).map S, rfl, rfl, .inl (SqL.of (by rw [f1, ey])), ?_, ?_⟩
          · rw [lens, str_sp]
            have := sum_le (l := (((List.range xss.length).map fun k => imgText k (xss.getD k [])).map (·.length))) (c := 1000010) (by
              intro x hx
              simp only [List.mem_map, List.mem_range] at hx
              obtain ⟨_, ⟨k, hk, rfl⟩, rfl⟩ := hx
              have hm : xss.getD k [] ∈ xss := by
                rw [List.getD_eq_getElem?_getD, List.getElem?_eq_getElem hk]
                exact List.getElem_mem _
              have hsh : ((xss.getD k []).map Dt.int).length < 1000000 := hs _ rfl (rowD' (xss.getD k [])) (List.mem_map.mpr ⟨_, hm, rfl⟩)
              rw [List.length_map] at hsh
              have tl := textC_len (xss.getD k [])
              unfold imgText
              rw [List.length_append, List.length_append, List.length_singleton, List.length_singleton]
              omega)
            rw [S_len, List.length_map, List.length_map, List.length_range, List.length_singleton]
            rw [List.length_map, List.length_map, List.length_range] at this
            omega
          · rw [str_sp, join_S]
            exact q5 er _ (s1.trans s2)
end
end My
namespace My
open PySem PySem.Spec PyProof.Rows L2 SX
/-! ### the state of the draws -/
abbrev stK (g c : Addr) (r t : Int) : List (Key × V) := [(.inr "great", .ref g), (.inr "cells", .ref c), (.inr "rest", .int r), (.inr "turn", .int t)]
/-- where the state, its great numbers and its cells stand -/
structure Sd where
  s : Addr
  g : Addr
  c : Addr
/-- the state stands there; k more draws are allowed -/
def Dst (H : Hp) (u : Sd) (k : Nat) : Prop := ∃ (r t : Int) (gs cs : List Int), H u.s = some (.dK (stK u.g u.c r t)) ∧ H u.g = some (.lst (iV gs)) ∧ H u.c = some (.lst (iV cs)) ∧ u.c ≠ u.g ∧ gs.length < 1000000 ∧ 0 ≤ t ∧ t + k ≤ 2 ^ 40
/-- all but the state stays -/
def Kp (u : Sd) (H H' : Hp) : Prop := ∀ a o, a ≠ u.s → a ≠ u.g → H a = some o → H' a = some o
theorem Kp.refl (u : Sd) (H : Hp) : Kp u H H := fun _ _ _ _ h => h
theorem Kp.trans {u : Sd} {H H1 H2 : Hp} (a : Kp u H H1) (b : Kp u H1 H2) : Kp u H H2 := fun c o h1 h2 h => b c o h1 h2 (a c o h1 h2 h)
theorem Kp.of {u : Sd} {H H' : Hp} (e : Same H H') : Kp u H H' := fun a o _ _ h => e a o h
theorem Kp.tst {u : Sd} {H H' : Hp} {k : Nat} (e : Kp u H H') (d : Dst H u k) : Tst H H' := fun b xs h => by
  obtain ⟨r, t, gs, cs, h1, h2, _⟩ := d
  refine e b _ (fun z => ?_) (fun z => ?_) h
  · rw [z, h1] at h; cases h
  · rw [z, h2] at h; cases h
theorem Dst.same {H H' : Hp} {u : Sd} {k : Nat} (e : Same H H') (d : Dst H u k) : Dst H' u k := by
  obtain ⟨r, t, gs, cs, h1, h2, h3, h4⟩ := d
  exact ⟨r, t, gs, cs, e _ _ h1, e _ _ h2, e _ _ h3, h4⟩
theorem Dst.le {H : Hp} {u : Sd} {k j : Nat} (h : j ≤ k) (d : Dst H u k) : Dst H u j := by
  obtain ⟨r, t, gs, cs, h1, h2, h3, h4, h5, h6, h7⟩ := d
  exact ⟨r, t, gs, cs, h1, h2, h3, h4, h5, h6, by omega⟩
/-- an address that is not the state's -/
def Off (u : Sd) (D : Addr) : Prop := D ≠ u.s ∧ D ≠ u.g ∧ D ≠ u.c
theorem Dst.off {H : Hp} {u : Sd} {k : Nat} {D : Addr} (d : Dst H u k) (h : H D = none) : Off u D := by
  obtain ⟨r, t, gs, cs, h1, h2, h3, _⟩ := d
  exact ⟨(ne_of_none h1 h).symm, (ne_of_none h2 h).symm, (ne_of_none h3 h).symm⟩
/-- an own list may change -/
theorem Dst.mut {H : Hp} {u : Sd} {D : Addr} {k : Nat} {o : HO} (d : Dst H u k) (n : Off u D) : Dst (upd H D o) u k := by
  obtain ⟨r, t, gs, cs, h1, h2, h3, h4⟩ := d
  refine ⟨r, t, gs, cs, ?_, ?_, ?_, h4⟩
  · rw [upd_ne n.1.symm]; exact h1
  · rw [upd_ne n.2.1.symm]; exact h2
  · rw [upd_ne n.2.2.symm]; exact h3
theorem Kp.mut {u : Sd} {H H' : Hp} {D : Addr} {o : HO} (e : Kp u H H') (h : H D = none) : Kp u H (upd H' D o) := fun a p h1 h2 ha => by
  rw [upd_ne (ne_of_none ha h)]
  exact e a p h1 h2 ha
section
variable {P : Program} {w : World} {K : PySem.W.Frag} {mg : Str → Option Value} {base : Heap}
/-! ### _law_blended -/
@[irreducible] def spBlended : Sp := fun vs H Q _ => ∃ (u : Sd) (k : Nat), vs = [.ref u.s] ∧ Dst H u (k + 1) ∧ ∀ (i : Int) H', Kp u H H' → Dst H' u k → H' u.g = H u.g → Q (.int i) H'
theorem spBlended_i {H : Hp} {u : Sd} {k : Nat} {Q : VK} {E : XK} (h : Dst H u (k + 1)) (q : ∀ (i : Int) H', Kp u H H' → Dst H' u k → H' u.g = H u.g → Q (.int i) H') : spBlended [.ref u.s] H Q E := by
  unfold spBlended
  exact ⟨u, k, rfl, h, q⟩
theorem ok_blended (B : Bt mg) (F : Fd K mg "_law_blended" s_l_blended) : Df P w K mg base CX0 1 "_law_blended" ["_law_state"] spBlended := by
  refine .mk' F sc_l_blended (fun _ _ _ _ _ _ us hl => match us, hl with | [_], _ => rfl) (fun vs H Q E h => ?_) (fun f cdv A outer s H vs Q E hr h => ?_)
  · unfold spBlended at h
    obtain ⟨u, k, rfl, _⟩ := h
    rfl
  · unfold spBlended at h
    obtain ⟨⟨sd, g, c⟩, k, rfl, ⟨r, t, gs, cs, h1, h2, h3, hcg, h4, h5, h6⟩, q⟩ := h
    simp only at h1 h2 h3 hcg
    have nd := sc_l_blended.nd
    refine ⟨_, PSs.nox (pss_cons (ps_par (i := 1) (j := 2) (by rfl) nd rfl rfl (by decide) rfl rfl (pa_cons (pe_op op_add (pe_dget (hu_of hr) (pv 0) (pe_str) (fun _ _ => rfl)) (pe_int)) (pa_cons (pe_int) pa_nil)) (by rfl))
      (pss_cons (ps_dput (hu_of hr) (pv 0) (pe_str) (pv 1) rfl)
      (pss_cons (ps_for PassesOwn.never rfl (pi_list (pe_lst (pa_cons (pe_int) (pa_cons (pe_int) (pa_cons (pe_int) pa_nil))))) (pg_name (i := 3) nd rfl (Or.inl rfl))
      (pss_cons (ps_set (i := 4) nd rfl (Or.inl rfl) (pe_op op_add (pe_op op_mul (pe_int) (pv 1)) (pe_op op_fdiv (pv 3) (pe_int))))
      (pss_cons (ps_for PassesOwn.never rfl (pi_list (pe_dget (hu_of hr) (pv 0) (pe_str) (fun _ _ => rfl))) (pg_name (i := 5) nd rfl (Or.inl rfl))
      (pss_one (ps_set (i := 4) nd rfl (Or.inl rfl) (pe_op op_mod (pe_callTy call_int1 (by rfl) B.int (by decide +kernel) (pa_cons (pe_op op_add (pe_op op_add (pe_op op_mul (pv 4) (pe_int)) (pv 5)) (pv 1)) pa_nil)) (pv 3)))))
      (pss_one (ps_set (i := 2) nd rfl (Or.inl rfl) (pe_op op_add (pe_op op_mul (pv 2) (pe_int)) (pe_op op_mod (pe_callTy call_int1 (by rfl) B.int (by decide +kernel) (pa_cons (pe_op op_pow (pv 4) (pe_int)) pa_nil)) (pv 3))))))))
      (pss_one (ps_ret (pv 2)))))), ?_⟩
    refine ⟨_, rfl, sd, _, rfl, DGet.k (k := Sum.inr "turn") h1, _, _, rfl, rfl, _, _, rfl, ?_⟩
    refine ⟨_, rfl, _, rfl, sd, _, rfl, DPut.k (k := Sum.inr "turn") h1 (by rw [PySem.sizeLine_eq]; show (4 : Nat) < _; decide), ?_⟩
    have hsg : sd ≠ g := fun z => by rw [z, h2] at h1; cases h1
    have hsc : sd ≠ c := fun z => by rw [z, h3] at h1; cases h1
    generalize hH1 : upd H sd (.dK (putK (stK g c r t) (Sum.inr "turn") (.int (t + 1)))) = H1
    have a1 : H1 sd = some (.dK (stK g c r (t + 1))) := by rw [← hH1, upd_same]; rfl
    have a2 : H1 g = some (.lst (iV gs)) := by rw [← hH1, upd_ne hsg.symm]; exact h2
    have a3 : H1 c = some (.lst (iV cs)) := by rw [← hH1, upd_ne hsc.symm]; exact h3
    have kp : Kp ⟨sd, g, c⟩ H H1 := fun a o n1 n2 ha => by rw [← hH1, upd_ne n1]; exact ha
    refine ⟨by rw [PySem.sizeLine_eq]; simp, fun L hL => ⟨L, rfl, ⟨_, SqL.of upd_same⟩, ?_⟩⟩
    have s1 : Same H1 (upd H1 L (.lst [.int 2147483579, .int 2147483629, .int 2147483563])) := Same.new hL
    refine for_wk (wk_list (K := K) (H1 := upd H1 L (.lst (iV [2147483579, 2147483629, 2147483563]))) (SqL.of upd_same)) (fun i σ H' => ∃ (fo : Int) (x3 x4 x5 : Option V), σ = [some (.ref sd), some (.int (t + 1)), some (.int fo), x3, x4, x5] ∧ Same (upd H1 L (.lst (iV [2147483579, 2147483629, 2147483563]))) H') ⟨0, _, _, _, rfl, Same.refl _⟩ (fun i σ H' h => by obtain ⟨_, _, _, _, _, h⟩ := h; exact h) ?_ ?_
    · rintro i σ H2 hi ⟨fo, x3, x4, x5, rfl, s2⟩
      have hp : ∃ p : Int, (iV [2147483579, 2147483629, 2147483563]).getD i .non = .int p ∧ 2147483563 ≤ p ∧ p ≤ 2147483629 := by
        have hi : i < 3 := hi
        match i, hi with
        | 0, _ => exact ⟨_, rfl, by decide, by decide⟩
        | 1, _ => exact ⟨_, rfl, by decide, by decide⟩
        | 2, _ => exact ⟨_, rfl, by decide, by decide⟩
      obtain ⟨p, ep, p1, p2⟩ := hp
      rw [ep]
      have s12 := s1.trans s2
      refine ⟨_, rfl, _, _, rfl, rfl, .inl ⟨by decide, by decide⟩, _, rfl, _, _, rfl, rfl, ⟨by decide, by decide⟩, _, _, rfl, rfl, ?_⟩
      refine ⟨_, rfl, sd, _, rfl, DGet.k (k := Sum.inr "cells") (s12 _ _ a1), c, rfl, ⟨_, SqL.of (s12 _ _ a3)⟩, ?_⟩
      have hb0 : (48271 * (t + 1) + p / 53).natAbs < 2 ^ 64 := by omega
      refine for_wk (wk_list (K := K) (H1 := H2) (SqL.of (s12 _ _ a3))) (fun j σ H' => ∃ (b : Int) (x5 : Option V), σ = [some (.ref sd), some (.int (t + 1)), some (.int fo), some (.int p), some (.int b), x5] ∧ H' = H2 ∧ b.natAbs < 2 ^ 64) ⟨_, _, rfl, rfl, hb0⟩ (fun i σ H' h => by obtain ⟨_, _, _, rfl, _⟩ := h; exact Same.refl _) ?_ ?_
      · rintro j σ H3 hj ⟨b, x5, rfl, rfl, hb⟩
        simp only [iV, List.length_map] at hj
        rw [iV_getD hj]
        refine ⟨_, rfl, _, _, rfl, rfl, .inr ⟨by decide, by decide⟩, _, rfl, _, _, rfl, rfl, _, rfl, _, _, rfl, rfl, .inl ⟨_, rfl, _, rfl, _, _, rfl, rfl, by omega, ?_⟩⟩
        refine ⟨_, _, rfl, rfl, ?_⟩
        have h1 := Int.emod_nonneg (b * 69621 + cs.getD j 0 + (t + 1)) (show p ≠ 0 by omega)
        have h2 := Int.emod_lt_of_pos (b * 69621 + cs.getD j 0 + (t + 1)) (show 0 < p by omega)
        omega
      · rintro σ H3 ⟨b, x5, rfl, rfl, hb⟩
        refine ⟨_, rfl, _, _, rfl, rfl, .inr ⟨by decide, by decide⟩, _, rfl, _, _, rfl, rfl, ⟨by decide, by decide, hb⟩, .inl ⟨_, rfl, _, rfl, _, _, rfl, rfl, by omega, _, _, rfl, rfl, ?_⟩⟩
        exact ⟨_, _, _, _, rfl, s2⟩
    · rintro σ H2 ⟨fo, x3, x4, x5, rfl, s2⟩
      have s12 := s1.trans s2
      refine ⟨_, rfl, q fo H2 (kp.trans (Kp.of s12)) ⟨r, t + 1, gs, cs, s12 _ _ a1, s12 _ _ a2, s12 _ _ a3, hcg, h4, by omega, by omega⟩ ?_⟩
      rw [h2]
      exact s12 _ _ a2
/-! ### _law_draw -/
@[irreducible] def spDraw : Sp := fun vs H Q _ => ∃ (u : Sd) (k : Nat) (room : Int), vs = [.ref u.s, .int room] ∧ 1 ≤ room ∧ room < 1000000000 ∧ Dst H u (k + 1) ∧ ∀ (d : Int) H', 0 ≤ d → d < room → Kp u H H' → Dst H' u k → Q (.int d) H'
theorem spDraw_i {H : Hp} {u : Sd} {k : Nat} {room : Int} {Q : VK} {E : XK} (h1 : 1 ≤ room) (h2 : room < 1000000000) (h : Dst H u (k + 1)) (q : ∀ (d : Int) H', 0 ≤ d → d < room → Kp u H H' → Dst H' u k → Q (.int d) H') : spDraw [.ref u.s, .int room] H Q E := by
  unfold spDraw
  exact ⟨u, k, room, rfl, h1, h2, h, q⟩
theorem ok_draw (B : Bt mg) (F : Fd K mg "_law_draw" s_l_draw) (D_l_blended : Df P w K mg base CX0 1 "_law_blended" ["_law_state"] spBlended) : Df P w K mg base CX0 2 "_law_draw" ["_law_state", "_law_room"] spDraw := by
  refine .mk' F sc_l_draw (fun _ _ _ _ _ _ us hl => match us, hl with | [_, _], _ => rfl) (fun vs H Q E h => ?_) (fun f cdv A outer s H vs Q E hr h => ?_)
  · unfold spDraw at h
    obtain ⟨u, k, room, rfl, _⟩ := h
    rfl
  · unfold spDraw at h
    obtain ⟨⟨sd, g, c⟩, k, room, rfl, hr1, hr2, hd, q⟩ := h
    have nd := sc_l_draw.nd
    refine ⟨_, PSs.nox (C8.pss_cut (ps_if (pt_cmpR op_eq (pe_dget (hu_of hr) (pv 0) (pe_str) (fun _ _ => rfl)) (pe_int) (nomark _))
      (pss_one (ps_dput (hu_of hr) (pv 0) (pe_str) (pe_ifExp (pt_cmpR (op_neD hr.units) (pe_dget (hu_of hr) (pv 0) (pe_str) (fun _ _ => rfl)) (pe_lst pa_nil) (nomark _)) (pe_bm PySem.F.plainAttrs_list PySem.F.slot_list_pop PySem.F.type_list_pop mt_popAt (pe_dget (hu_of hr) (pv 0) (pe_str) (fun _ _ => rfl)) (pa_cons (pe_int) pa_nil)) (pe_df (D_l_blended.mono (by decide)) hr rfl pass0 (pa_cons (pv 0) pa_nil))) rfl)) (pss_nil))
      (pss_cons (ps_set (i := 2) nd rfl (Or.inl rfl) (pe_op op_mod (pe_callTy call_int1 (by rfl) B.int (by decide +kernel) (pa_cons (pe_dget (hu_of hr) (pv 0) (pe_str) (fun _ _ => rfl)) pa_nil)) (pv 1)))
      (pss_cons (ps_dput (hu_of hr) (pv 0) (pe_str) (pe_op op_fdiv (pe_dget (hu_of hr) (pv 0) (pe_str) (fun _ _ => rfl)) (pv 1)) rfl)
      (pss_one (ps_ret (pv 2)))))), ?_⟩
    obtain ⟨r, t, gs, cs, h1, h2, h3, hcg, h4, h5, h6⟩ := id hd
    simp only at h1 h2 h3 hcg
    have hsg : sd ≠ g := fun z => by rw [z, h2] at h1; cases h1
    have hsc : sd ≠ c := fun z => by rw [z, h3] at h1; cases h1
    refine ⟨fun σ' H' => ∃ x2, σ' = [some (.ref sd), some (.int room), x2] ∧ Kp ⟨sd, g, c⟩ H H' ∧ Dst H' ⟨sd, g, c⟩ k, ?_, ?_⟩
    · refine ⟨_, rfl, sd, _, rfl, DGet.k (k := Sum.inr "rest") h1, rfl, _, rfl, ?_⟩
      refine ite_of (fun h => ?_) (fun h => ?_)
      · -- what is put
        refine ⟨_, rfl, sd, _, rfl, DGet.k (k := Sum.inr "great") h1, Nat.zero_le _, fun l hl => neD_int (t := false) (xs := gs) (ys := []) (.lst (SqL.of (by rw [upd_ne (ne_of_none h2 hl)]; exact h2))) (.lst (SqL.of upd_same)) ⟨_, rfl, ?_⟩⟩
        have s1 : Same H (upd H l (.lst [])) := Same.new hl
        have hd1 := hd.same s1
        have put : ∀ (i : Int) (H' : Hp), Kp ⟨sd, g, c⟩ H H' → Dst H' ⟨sd, g, c⟩ k → ∃ kvs, H' sd = some (.dK kvs) ∧ kvs.length < sizeLine ∧ Kp ⟨sd, g, c⟩ H (upd H' sd (.dK (putK kvs (Sum.inr "rest") (.int i)))) ∧ Dst (upd H' sd (.dK (putK kvs (Sum.inr "rest") (.int i)))) ⟨sd, g, c⟩ k := fun i H' kp ds => by
          obtain ⟨r', t', gs', cs', g1, g2, g3, g4⟩ := ds
          refine ⟨_, g1, by rw [PySem.sizeLine_eq]; show (4 : Nat) < _; decide, fun a o n1 n2 ha => ?_, i, t', gs', cs', ?_, ?_, ?_, g4⟩
          · rw [upd_ne n1]
            exact kp a o n1 n2 ha
          · rw [upd_same]
            rfl
          · rw [upd_ne hsg.symm]
            exact g2
          · rw [upd_ne hsc.symm]
            exact g3
        refine ite_of (fun hg => ?_) (fun hg => ?_)
        · obtain ⟨x, gr, rfl⟩ : ∃ x gr, gs = x :: gr := by
            cases gs with
            | nil => simp at hg
            | cons x gr => exact ⟨x, gr, rfl⟩
          have h2' := s1 _ _ h2
          refine ⟨_, rfl, sd, _, rfl, DGet.k (k := Sum.inr "great") (s1 _ _ h1), .inl ⟨rfl, _, SqL.of h2'⟩, g, _, _, 0, .int x, rfl, rfl, h2', by omega, by omega, by simp [iV, seqIndex?], rfl, ?_⟩
          obtain ⟨kvs, p1, p2, p3, p4⟩ := put x (upd (upd H l (.lst [])) g (.lst ((iV (x :: gr)).eraseIdx 0))) (fun a o n1 n2 ha => by rw [upd_ne n2]; exact s1 _ _ ha) ⟨r, t, gr, cs, by show upd _ g _ sd = _; rw [upd_ne hsg]; exact s1 _ _ h1, upd_same, by show upd _ g _ c = _; rw [upd_ne hcg]; exact s1 _ _ h3, hcg, by simp at h4; omega, h5, by omega⟩
          exact ⟨_, rfl, sd, _, rfl, DPut.k (k := Sum.inr "rest") p1 p2, _, rfl, p3, p4⟩
        · refine ⟨_, rfl, spBlended_i hd1 fun i H' kp ds _ => ?_⟩
          obtain ⟨kvs, p1, p2, p3, p4⟩ := put i H' ((Kp.of s1).trans kp) ds
          exact ⟨_, rfl, sd, _, rfl, DPut.k (k := Sum.inr "rest") p1 p2, _, rfl, p3, p4⟩
      · exact ⟨_, rfl, Kp.refl _ _, hd.le (by omega)⟩
    · rintro σ' H' ⟨x2, rfl, kp, ds⟩
      obtain ⟨r', t', gs', cs', g1, g2, g3, g4, g5, g6, g7⟩ := ds
      simp only at g1 g2 g3 g4
      refine ⟨_, rfl, sd, _, rfl, DGet.k (k := Sum.inr "rest") g1, .inl ⟨_, rfl, _, rfl, _, _, rfl, rfl, by omega, ?_⟩⟩
      refine ⟨_, rfl, sd, _, rfl, DGet.k (k := Sum.inr "rest") g1, _, rfl, _, _, rfl, rfl, ⟨by omega, by omega⟩, _, rfl, sd, _, rfl, DPut.k (k := Sum.inr "rest") g1 (by rw [PySem.sizeLine_eq]; show (4 : Nat) < _; decide), ?_⟩
      refine ⟨_, rfl, q _ _ (Int.emod_nonneg _ (by omega)) (Int.emod_lt_of_pos _ (by omega)) (fun a o n1 n2 ha => ?_) ⟨r' / room, t', gs', cs', ?_, ?_, ?_, g4, g5, g6, g7⟩⟩
      · rw [upd_ne n1]
        exact kp a o n1 n2 ha
      · rw [upd_same]
        rfl
      · rw [upd_ne hsg.symm]
        exact g2
      · rw [upd_ne hsc.symm]
        exact g3
end
end My
namespace My
open PySem PySem.Spec PyProof.Rows L2 SX
theorem Kp.seq {K : PySem.W.Frag} {u : Sd} {H H' : Hp} {a : Addr} {xs : List V} (e : Kp u H H') (n1 : a ≠ u.s) (n2 : a ≠ u.g) (h : SqL K H a xs) : SqL K H' a xs := by
  rcases h with (h | ⟨o, h⟩) | h
  · exact .inl (.inl (e _ _ n1 n2 h))
  · exact .inl (.inr ⟨o, e _ _ n1 n2 h⟩)
  · exact .inr h
section
variable {P : Program} {w : World} {K : PySem.W.Frag} {mg : Str → Option Value} {base : Heap}
/-! ### _law_pick -/
@[irreducible] def spPick (K : PySem.W.Frag) : Sp := fun vs H Q _ => ∃ (u : Sd) (k : Nat) (a : Addr) (xs : List V), vs = [.ref u.s, .ref a] ∧ a ≠ u.s ∧ a ≠ u.g ∧ SqL K H a xs ∧ xs ≠ [] ∧ xs.length < 1000000 ∧ Dst H u (k + 1) ∧ ∀ (i : Nat) (v : V) H', xs[i]? = some v → Kp u H H' → Dst H' u k → Q v H'
theorem spPick_i {H : Hp} {u : Sd} {k : Nat} {a : Addr} {xs : List V} {Q : VK} {E : XK} (n1 : a ≠ u.s) (n2 : a ≠ u.g) (h1 : SqL K H a xs) (h2 : xs ≠ []) (h3 : xs.length < 1000000) (h : Dst H u (k + 1)) (q : ∀ (i : Nat) (v : V) H', xs[i]? = some v → Kp u H H' → Dst H' u k → Q v H') : spPick K [.ref u.s, .ref a] H Q E := by
  unfold spPick
  exact ⟨u, k, a, xs, rfl, n1, n2, h1, h2, h3, h, q⟩
theorem ok_pick (B : Bt mg) (F : Fd K mg "_law_pick" s_l_pick) (D_l_draw : Df P w K mg base CX0 2 "_law_draw" ["_law_state", "_law_room"] spDraw) : Df P w K mg base CX0 3 "_law_pick" ["_law_state", "_law_some"] (spPick K) := by
  refine .mk' F sc_l_pick (fun _ _ _ _ _ _ us hl => match us, hl with | [_, _], _ => rfl) (fun vs H Q E h => ?_) (fun f cdv A outer s H vs Q E hr h => ?_)
  · unfold spPick at h
    obtain ⟨u, k, a, xs, rfl, _⟩ := h
    rfl
  · unfold spPick at h
    obtain ⟨u, k, a, xs, rfl, n1, n2, hs, hne, hl, hd, q⟩ := h
    have nd := sc_l_pick.nd
    refine ⟨_, PSs.nox (pss_one (ps_ret (pe_ix ix_list (pv 1) (pe_df (D_l_draw.mono (by decide)) hr rfl pass0 (pa_cons (pv 0) (pa_cons (pe_callB call_lenK (by rfl) B.len boot_len (pa_cons (pv 1) pa_nil)) pa_nil))) (fun _ _ => rfl)))), ?_⟩
    have h0 : 0 < xs.length := List.length_pos_iff.mpr hne
    refine ⟨_, rfl, _, rfl, _, rfl, a, xs, rfl, .inl hs, spDraw_i (by omega) (by omega) hd fun d H' d0 d1 kp ds => ?_⟩
    obtain ⟨j, rfl⟩ : ∃ j : Nat, d = j := ⟨d.toNat, by omega⟩
    have hj : j < xs.length := by omega
    exact ⟨a, xs, _, xs[j], rfl, rfl, kp.seq n1 n2 hs, atI_nat (List.getElem?_eq_getElem hj), q j _ H' (List.getElem?_eq_getElem hj) kp ds⟩
/-! ### _law_begun -/
@[irreducible] def spBegun (K : PySem.W.Frag) : Sp := fun vs H Q _ => ∃ (a : Addr) (cs : List Int), vs = [.ref a] ∧ SqL K H a (iV cs) ∧ cs.length < 1000000 ∧ ∀ (u : Sd) H', Same H H' → Dst H' u (2 ^ 39) → Q (.ref u.s) H'
theorem spBegun_i {H : Hp} {a : Addr} {cs : List Int} {Q : VK} {E : XK} (h1 : SqL K H a (iV cs)) (h2 : cs.length < 1000000) (q : ∀ (u : Sd) H', Same H H' → Dst H' u (2 ^ 39) → Q (.ref u.s) H') : spBegun K [.ref a] H Q E := by
  unfold spBegun
  exact ⟨a, cs, rfl, h1, h2, q⟩
theorem iV_of2 {f : Nat → Int} : ∀ {ys : List V} {l : List Nat}, ys.length = l.length → (∀ (k : Nat) (v : V) (i : Nat), ys[k]? = some v → l[k]? = some i → v = .int (f i)) → ys = iV (l.map f)
  | [], [], _, _ => rfl
  | [], _ :: _, h, _ => absurd h (by simp)
  | _ :: _, [], h, _ => absurd h (by simp)
  | y :: ys, i :: l, h, g => by
    have e := iV_of2 (f := f) (ys := ys) (l := l) (by simpa using h) fun k v j h1 h2 => g (k + 1) v j (by simpa using h1) (by simpa using h2)
    rw [g 0 y i rfl rfl, e]
    rfl
theorem ok_begun (B : Bt mg) (F : Fd K mg "_law_begun" s_l_begun) : Df P w K mg base CX0 1 "_law_begun" ["_law_script"] (spBegun K) := by
  refine .mk' F sc_l_begun (fun _ _ _ _ _ _ us hl => match us, hl with | [_], _ => rfl) (fun vs H Q E h => ?_) (fun f cdv A outer s H vs Q E hr h => ?_)
  · unfold spBegun at h
    obtain ⟨a, cs, rfl, _⟩ := h
    rfl
  · unfold spBegun at h
    obtain ⟨a, cs, rfl, hs, hl, q⟩ := h
    have nd := sc_l_begun.nd
    refine ⟨_, PSs.nox (pss_cons (ps_setLc (i := 1) (own := [("_law_cell", 2)]) (g := gName 2) rfl nd rfl rfl (sw_true rfl rfl rfl (by decide +kernel)) (pi_list (pv 0)) (blkOk_by (own := [("_law_cell", 2)]) (N := ["_law_script", "_law_great", "_law_cell"]) (sc := defScope s_l_begun) (by decide +kernel))
        (fun _ _ _ _ _ => pg_name (i := 2) nd rfl (Or.inl rfl)) (fun _ _ _ _ _ => pts_one (pt_cmpR op_ge (pe_callB call_abs (by rfl) B.abs (by decide +kernel) (pa_cons (pv 2) pa_nil)) (pe_op op_pow (pe_int) (pe_int)) (nomark _))) (fun _ _ _ _ _ => pe_op op_sub (pe_callB call_abs (by rfl) B.abs (by decide +kernel) (pa_cons (pv 2) pa_nil)) (pe_op op_pow (pe_int) (pe_int))))
      (pss_one (ps_ret (pe_disp (pps_cons (pe_str) (pv 1) (pps_cons (pe_str) (pe_lc (own := [("_law_cell", 2)]) (g := gName 2) rfl nd (pi_list (pv 0)) (blkOk_by (own := [("_law_cell", 2)]) (N := ["_law_script", "_law_great", "_law_cell"]) (sc := defScope s_l_begun) (by decide +kernel))
        (fun _ _ _ _ _ => pg_name (i := 2) nd rfl (Or.inl rfl)) (fun _ _ _ _ _ => pts_nil) (fun _ _ _ _ _ => pe_callB call_abs (by rfl) B.abs (by decide +kernel) (pa_cons (pv 2) pa_nil))) (pps_cons (pe_str) (pe_int) (pps_cons (pe_str) (pe_int) pps_nil)))) (by rfl) (by rfl) (fun z => by cases z) (by decide))))), ?_⟩
    refine ⟨_, rfl, a, rfl, ⟨_, hs⟩, fun D hD => ?_⟩
    have hx (i : Nat) (hi : i < (iV cs).length) : (iV cs).getD i .non = .int (cs.getD i 0) := iV_getD (by simpa [iV] using hi)
    refine lc_sel (fun i => decide (10 ^ 18 ≤ absI (cs.getD i 0))) (fun i v _ => v = .int (absI (cs.getD i 0) - 10 ^ 18)) (wk_list hs) hD (by rw [PySem.sizeLine_eq]; simp [iV]; omega) (fun _ => rfl) (fun _ _ _ _ _ h => h) (fun i H3 hi s3 Q' q' => ?_) (fun i H3 hi hk s3 Q' q' => ?_) (fun H3 ys s3 g1 g2 g3 => ?_)
    · rw [hx i hi]
      exact ⟨_, rfl, _, rfl, _, _, rfl, rfl, ⟨by decide, by decide, by decide⟩, _, _, rfl, rfl, _, rfl, q' _ (Same.refl _)⟩
    · rw [hx i hi]
      exact ⟨_, rfl, _, rfl, _, _, rfl, rfl, ⟨by decide, by decide, by decide⟩, _, _, rfl, rfl, q' _ _ (Same.refl _) rfl⟩
    · have ey := iV_of2 g2 g3
      rw [ey] at g1
      have gl := sel_len (fun i => decide (10 ^ 18 ≤ absI (cs.getD i 0))) (iV cs).length
      simp only [iV, List.length_map] at gl
      have gl2 : ((sel (fun i => decide (10 ^ 18 ≤ absI (cs.getD i 0))) (iV cs).length).map fun i => absI (cs.getD i 0) - 10 ^ 18).length < 1000000 := by
        simp only [iV, List.length_map]
        omega
      generalize ((sel (fun i => decide (10 ^ 18 ≤ absI (cs.getD i 0))) (iV cs).length).map fun i => absI (cs.getD i 0) - 10 ^ 18) = gs at g1 gl2
      intro p hp
      have s4 : Same H3 (upd H3 p (.dK [])) := Same.new hp
      have hs4 : SqL K (upd H3 p (.dK [])) a (iV cs) := (s3.trans s4).seq hs
      refine ⟨_, rfl, _, rfl, a, rfl, ⟨_, hs4⟩, fun D2 hD2 => ?_⟩
      refine lc_map (fun k v _ => v = .int (absI (cs.getD k 0))) (wk_list hs4) hD2 (by rw [PySem.sizeLine_eq]; simp [iV]; omega) (fun _ => rfl) (fun _ _ _ _ _ h => h) (fun i H5 hi s5 Q' q' => ?_) (fun H5 zs s5 f1 f2 f3 => ?_)
      · rw [hx i hi]
        exact ⟨_, rfl, _, rfl, q' _ _ (Same.refl _) rfl⟩
      · have ez := iV_of f2 f3
        have hp5 := s5 p (.dK []) upd_same
        refine ⟨hp5, stK D D2 0 0, rfl, by show (4 : Nat) ≤ 15; decide, ?_⟩
        have hpD : D ≠ p := fun z => by rw [z, hp] at g1; cases g1
        have hpD2 : D2 ≠ p := fun z => by rw [z, hp5] at f1; cases f1
        have hDD : D2 ≠ D := fun z => by rw [z, s4 _ _ g1] at hD2; cases hD2
        refine q ⟨p, D, D2⟩ _ ?_ ⟨0, 0, gs, _, upd_same, by show upd H5 p _ D = _; rw [upd_ne hpD]; exact s5 _ _ (s4 _ _ g1), by show upd H5 p _ D2 = _; rw [upd_ne hpD2, f1, ez], hDD, gl2, by omega, by omega⟩
        have hp0 : H p = none := by
          cases e : H p with
          | none => rfl
          | some o => rw [s3 _ _ e] at hp; cases hp
        exact Same.mut (s3.trans (s4.trans s5)) hp0
end
end My
namespace RvT
open PySem PySem.Spec PyProof.Rows L2 HT
/-! ### t[::-1], t a tuple -/
theorem fm_congr {α β : Type} {f g : α → Option β} : ∀ {l : List α}, (∀ x ∈ l, f x = g x) → l.filterMap f = l.filterMap g
  | [], _ => rfl
  | x :: r, h => by
    rw [List.filterMap_cons, List.filterMap_cons, h x (by simp), fm_congr fun y hy => h y (by simp [hy])]
theorem back_run (xs : Array Value) : ((List.range xs.size).filterMap fun (k : Nat) => xs[((xs.size : Int) - 1 + (k : Int) * (-1)).toNat]?) = xs.toList.reverse := by
  have e : ((List.range xs.size).filterMap fun (k : Nat) => xs[((xs.size : Int) - 1 + (k : Int) * (-1)).toNat]?) = ((List.range xs.size).map fun k => xs.size - 1 - k).filterMap (xs[·]?) := by
    rw [List.filterMap_map]
    refine fm_congr fun k hk => ?_
    have := List.mem_range.mp hk
    have e2 : ((xs.size : Int) - 1 + (k : Int) * (-1)).toNat = xs.size - 1 - k := by omega
    rw [e2]
    rfl
  rw [e, PySem.W.krv_range, List.filterMap_reverse, PySem.W.krv_all]
section
variable {prog : Program} {w : World} {A : Around} {E : Value → Shared → Prop} {s : Shared}
theorem applied_back {sl : Addr} {vl vu vs : Value} {n : Nat} {Q : Int × Int × Nat → Shared → Prop} (hs : s.heap.IsSliceOf sl vl vu vs) (pl : IsPart vl none) (pu : IsPart vu none) (ps : IsPart vs (some (-1)))
    (h : Q ((n : Int) - 1, -1, n) s) : wpAny (model prog w) A (Builtin.Slice.sliceApplied (.ref sl) (pure (n : Int))) Q E s := by
  obtain ⟨os, hos, hcs, hds⟩ := id hs
  unfold Builtin.Slice.sliceApplied Builtin.Slice.sliceFields
  refine wpAny_bind (wpAny_bind (wpAny_field hos hds (x := vl) rfl (wpAny_bind (wpAny_field hos hds (x := vu) rfl (wpAny_bind (wpAny_field hos hds (x := vs) rfl (wpAny_pure ?_)))))))
  refine wpAny_bind (slicePart_ ps ?_)
  show wpAny _ _ (if ((-1 : Int) == 0) = true then _ else _) _ _ s
  rw [if_neg (by decide)]
  refine wpAny_bind (slicePart_ pl (wpAny_bind (slicePart_ pu (wpAny_bind (wpAny_pure ?_)))))
  have e : Builtin.Slice.slicePlaces ((n : Int) - 1) (-1) (-1) = n := by
    unfold Builtin.Slice.slicePlaces
    rw [if_neg (by decide)]
    split
    · rw [show (-(-1) : Int) = 1 by decide, Int.ediv_one]
      omega
    · omega
  show wpAny _ _ (pure ((n : Int) - 1, (-1 : Int), Builtin.Slice.slicePlaces ((n : Int) - 1) (-1) (-1))) _ _ s
  rw [e]
  exact wpAny_pure h
theorem get_back {t sl : Addr} {items : Array Value} {vl vu vs : Value} {Q : Value → Shared → Prop} (ht : IsTup s.heap t items) (hs : s.heap.IsSliceOf sl vl vu vs) (pl : IsPart vl none) (pu : IsPart vu none) (ps : IsPart vs (some (-1)))
    (h : Q (.ref s.heap.objs.size) { s with heap := s.heap.push { cls := .type "tuple", data := .seq items.toList.reverse.toArray } }) (hsz : items.size ≤ sizeLine) : wpAny (model prog w) A (getItem (.ref t) (.ref sl)) Q E s := by
  have htake : sizeOk (.seq items.toList.reverse.toArray) := by
    show items.toList.reverse.toArray.size ≤ sizeLine
    rw [List.size_toArray, List.length_reverse, Array.length_toList]
    exact hsz
  obtain ⟨os, hos, hcs, hds⟩ := id hs
  have hTs : s.TypeIs (.ref sl) "slice" := ⟨os, hos, hcs⟩
  unfold getItem
  try with_reducible refine wpAny_holding ?_
  first | refine wpAny_bind (wpAny_pure ?_) | skip
  refine wpAny_bind (wpAny_sequenceKey ht.typeIs (by decide) ?_)
  refine wpAny_bind (wpAny_callSpecial?_slot (name := Str.ofString "__getitem__") ht.typeIs PyProof.Rows.slot_tuple_getitem (wpAny_call_entry PyProof.Rows.slot_tuple_getitem ht.typeIs entry_tuple_getitem ?_ (args_tuple_getitem _ _)))
  show wpAny _ _ (Builtin.Tuple.tupleItemsOf (.ref t) >>= _) _ _ s
  refine wpAny_bind (tupleItemsOf_ ht ?_)
  refine wpAny_bind (wpAny_typeOf hTs ?_)
  rw [if_pos (by decide)]
  refine wpAny_bind (applied_back hs pl pu ps ?_)
  have hno : ¬ ((((items.size : Int) - 1) == 0 && (-1 : Int) == 1 && items.size == items.size) = true) := by
    intro q
    rw [Bool.and_eq_true, Bool.and_eq_true] at q
    exact absurd q.1.2 (by decide)
  show wpAny _ _ (if (((items.size : Int) - 1) == 0 && (-1 : Int) == 1 && items.size == items.size) = true then _ else _) _ _ s
  rw [if_neg hno, back_run]
  first
    | exact wpAny_bind (m := Builtin.Tuple.tupleExact _) (wpAny_newObj_type (wpAny_pure ⟨_, rfl, wpAny_pure h⟩) htake)
    | exact wpAny_bind (m := Builtin.Tuple.tupleExact _) (wpAny_newObj_type (wpAny_bind (wpAny_pure (wpAny_pure ⟨_, rfl, wpAny_pure h⟩))) htake)
    | exact wpAny_bind (wpAny_bind (m := Builtin.Tuple.tupleExact _) (wpAny_newObj_type (wpAny_pure (wpAny_pure ⟨_, rfl, wpAny_pure h⟩)) htake))
    | exact wpAny_bind (wpAny_bind (m := Builtin.Tuple.tupleExact _) (wpAny_newObj_type (wpAny_pure ⟨_, rfl, wpAny_pure h⟩) htake))
end
end RvT
namespace L2
open PySem PySem.Spec PyProof.Rows
def tRevT (K : PySem.W.Frag) (te : TE) : TE := fun σ H Q => te σ H fun x H1 => ∃ a xs, x = .ref a ∧ SqT K H1 a xs ∧ ∀ p, H1 p = none → Q (.ref p) (upd H1 p (.tup xs.reverse))
theorem pe_revT {X : Cx} {e : Expr} {te : TE} {k : Nat} {p1 p2 p3 pos : Pos} (he : PE X e te) : PE X (.Subscript e (.Slice none none (some (.UnaryOp .USub (.Constant (.int 1) k p1) p2)) p3) pos) (tRevT X.K te) := by
  refine ⟨fun pins s σ H Q I h => ?_⟩
  refine Subscript_ (thn (he.run pins s σ H _ I h) fun v s1 ⟨x, H1, I1, r1, q1⟩ => ?_)
  obtain ⟨a, xs, rfl, hx, q⟩ := q1
  cases r1
  have hst : PO X (some (.UnaryOp .USub (.Constant (.int 1) k p1) p2)) (tPart (tUn (rU fun i => .int (-i)) (tC (.int 1)))) := po_some (pe_un un_neg pe_int)
  refine wpAny_Slice (thn (po_none.run pins s1 σ H1 (fun o H2 => o = none ∧ H2 = H1) I1 ⟨rfl, rfl⟩) fun vl s2 ⟨l, H2, I2, pl, el, e2⟩ => ?_)
  subst el e2
  refine thn (po_none.run pins s2 σ H2 (fun o H3 => o = none ∧ H3 = H2) I2 ⟨rfl, rfl⟩) fun vu s3 ⟨u, H3, I3, pu, eu, e3⟩ => ?_
  subst eu e3
  refine thn (hst.run pins s3 σ H3 (fun o H4 => o = some (-1) ∧ H4 = H3) I3 ⟨1, rfl, -1, rfl, rfl, rfl⟩) fun vs s4 ⟨o, H4, I4, ps, eo, e4⟩ => ?_
  subst eo e4
  have I5 : Inv X pins σ H4 { s4 with heap := s4.heap.push { cls := .type "slice", data := .fields #[vl, vu, vs] } } := I4.kept (t' := s4.toks) fun b ob q => Heap.get?_push_of_some _ q
  obtain ⟨its, r, ht, hz⟩ := I5.tuple hx
  have hlen := r.length
  show wpAny (model X.prog X.w) X.A (subscriptTail e (.Slice none none (some (.UnaryOp .USub (.Constant (.int 1) k p1) p2)) p3) (.ref a) (.ref s4.heap.objs.size)) (EP X pins σ Q) X.xe { s4 with heap := s4.heap.push { cls := .type "slice", data := .fields #[vl, vu, vs] } }
  refine tail_any (ops := [.ref a, .ref s4.heap.objs.size]) ht.typeIs (PyProof.Rows.slot_tuple_getitem.lookup) ?_ (by with_unfolding_all rfl)
  refine RvT.get_back ht (Heap.IsSliceOf.new _ vl vu vs) pl pu ps ?_ (by rw [List.size_toArray]; omega)
  refine ⟨.ref _, _, I5.laid (t' := s4.toks) (o := .tup xs.reverse) (fun b ob q => Heap.get?_push_of_some _ q) (Nat.le_refl _) ?_, rfl, q _ (I5.hok.fresh (Nat.le_refl _))⟩
  exact ⟨by rw [List.length_reverse]; exact hz, its.reverse, r.reverse, IsTup.new _ _⟩
end L2
namespace My
open PySem PySem.Spec PyProof.Rows L2 SX
section
variable {P : Program} {w : World} {K : PySem.W.Frag} {mg : Str → Option Value} {base : Heap}
theorem ok_mk_plain (B : Bt mg) (F : Fd K mg "_law_mk_plain" s_l_mk_plain) : Df P w K mg base CX0 1 "_law_mk_plain" ["_law_letters"] (spPlain K) := by
  refine .mk' F sc_l_mk_plain (fun _ _ _ _ _ _ us hl => match us, hl with | [_], _ => rfl) (fun vs H Q E h => ?_) (fun f cdv A outer s H vs Q E hr h => ?_)
  · unfold spPlain at h
    obtain ⟨a, xs, rfl, _⟩ := h
    rfl
  · unfold spPlain at h
    obtain ⟨a, xs, rfl, hs, hl, q⟩ := h
    have nd := sc_l_mk_plain.nd
    obtain ⟨wi, pi, hpi⟩ := pi_pick hs
    refine ⟨_, PSs.nox (pss_cons (ps_set (i := 1) nd rfl (Or.inl rfl) (pe_lst pa_nil))
      (pss_cons (ps_for PassesOwn.never rfl (pi rfl (pv 0)) (pg_name (i := 2) nd rfl (Or.inl rfl))
      (pss_one (ps_if (PW.pt (pw_and (pt_cmpR (op_neD hr.units) (pv 1) (pe_lst pa_nil) (nomark _)) (pw_and1 (pt_cmpR op_eq (pe_ix ix_list (pv 1) (pe_un un_neg (pe_int)) (fun _ _ => rfl)) (pe_op op_sub (pe_int) (pv 2)) (nomark _)))))
      (pss_one (ps_expr (pe_bm0 PySem.F.plainAttrs_list PySem.F.slot_list_pop PySem.F.type_list_pop mt_pop (pv 1)))) (pss_one (ps_expr (pe_bm PySem.F.plainAttrs_list PySem.F.slot_list_append PySem.F.type_list_append mt_append (pv 1) (pa_cons (pv 2) pa_nil)))))))
      (pss_one (ps_ret (pe_callTy call_tuple_of (by rfl) B.tuple (by decide +kernel) (pa_cons (pv 1) pa_nil)))))), ?_⟩
    refine ⟨Nat.zero_le _, fun D hD => ?_⟩
    refine hpi _ _ _ _ (Same.new hD) (fun Q q => ⟨_, rfl, q⟩) fun J hJ => ?_
    refine for_wk hJ (fun i σ H' => ∃ x, σ = [some (.ref a), some (.ref D), x] ∧ Same H H' ∧ H' D = some (.lst (iV (plain (xs.take i))))) ?_ ?_ ?_ ?_
    · exact ⟨_, rfl, Same.new hD, upd_same⟩
    · rintro i σ H ⟨x, _, h, _⟩
      exact h
    · rintro i σ H' hi ⟨x, rfl, h4, h5⟩
      simp only [iV, List.length_map] at hi
      have hx : (iV xs).getD i .non = .int (xs.getD i 0) := iV_getD hi
      have ep : plain (xs.take (i + 1)) = plainStep (plain (xs.take i)) (xs.getD i 0) := by rw [take_get_succ hi, plain_snoc]
      have hlen : (plain (xs.take i)).length ≤ i := by
        have h1 := plain_len (xs.take i)
        rw [List.length_take] at h1
        omega
      rw [hx]
      generalize plain (xs.take i) = r at h5 ep hlen
      generalize xs.getD i 0 = y at ep
      refine ⟨_, rfl, Nat.zero_le _, fun l hl => neD_int (t := false) (xs := r) (ys := []) (.lst (SqL.of (by rw [upd_ne (ne_of_none h5 hl)]; exact h5))) (.lst (SqL.of upd_same)) ⟨_, rfl, ?_⟩⟩
      have h5l : upd H' l (.lst []) D = some (.lst (iV r)) := by rw [upd_ne (ne_of_none h5 hl)]; exact h5
      have h4l : Same H (upd H' l (.lst [])) := h4.trans (Same.new hl)
      have app : plainStep r y = r ++ [y] → ∃ l2 xs2 y2, V.ref D = .ref l2 ∧ [V.int y] = [y2] ∧ upd H' l (.lst []) l2 = some (.lst xs2) ∧ xs2.length < sizeLine ∧ ∃ x, [some (V.ref a), some (V.ref D), some (.int y)] = [some (.ref a), some (.ref D), x] ∧ Same H (upd (upd H' l (.lst [])) l2 (.lst (xs2 ++ [y2]))) ∧ upd (upd H' l (.lst [])) l2 (.lst (xs2 ++ [y2])) D = some (.lst (iV (plain (xs.take (i + 1))))) := fun e =>
        ⟨D, iV r, .int y, rfl, rfl, h5l, by rw [PySem.sizeLine_eq]; simp [iV]; omega, some (.int y), rfl, Same.mut h4l hD, by rw [upd_same, ep, e]; simp [iV]⟩
      have hr' : r = [] ∨ ∃ r' z, r = r' ++ [z] := by
        rcases List.eq_nil_or_concat r with h | ⟨r', z, h⟩
        · exact .inl h
        · exact .inr ⟨r', z, by rw [h, List.concat_eq_append]⟩
      rcases hr' with rfl | ⟨r', z, rfl⟩
      · exact iteF ⟨_, rfl, .inl ⟨rfl, _, SqL.of h5l⟩, _, rfl, app rfl⟩
      · refine iteT_of (by simp) ⟨_, rfl, 1, rfl, D, _, _, _, rfl, rfl, SqL.of h5l, by rw [iV, List.map_append]; exact atI_last _ _, _, rfl, _, _, rfl, rfl, rfl, _, rfl, ?_⟩
        have es : plainStep (r' ++ [z]) y = if z = 0 - y then r' else r' ++ [z] ++ [y] := by
          unfold plainStep
          rw [List.getLast?_append]
          simp
        by_cases hz : z = 0 - y
        · rw [if_pos hz] at es
          exact iteT_of (by rw [decI]; exact decide_eq_true hz) ⟨_, rfl, .inl ⟨rfl, _, SqL.of h5l⟩, D, _, .int z, rfl, rfl, h5l, by simp [iV], _, rfl, Same.mut h4l hD, by rw [upd_same, ep, es]; simp [iV]⟩
        · rw [if_neg hz] at es
          exact iteF_of (by rw [decI]; exact decide_eq_false hz) ⟨_, rfl, .inl ⟨rfl, _, SqL.of h5l⟩, _, rfl, app es⟩
    · rintro σ H' ⟨x, rfl, h4, h5⟩
      rw [List.take_of_length_le (by simp [iV])] at h5
      refine ⟨_, rfl, D, _, rfl, .inl ⟨SqL.of h5, fun l hl => ?_⟩⟩
      exact q _ _ (h4.trans (Same.new hl)) ⟨l, rfl, upd_same⟩
theorem ok_mk_undone (B : Bt mg) (F : Fd K mg "_law_mk_undone" s_l_mk_undone) : Df P w K mg base CX0 1 "_law_mk_undone" ["_law_row"] spUndone := by
  refine .mk' F sc_l_mk_undone (fun _ _ _ _ _ _ us hl => match us, hl with | [_], _ => rfl) (fun vs H Q E h => ?_) (fun f cdv A outer s H vs Q E hr h => ?_)
  · unfold spUndone at h
    obtain ⟨a, xs, rfl, _⟩ := h
    rfl
  · unfold spUndone at h
    obtain ⟨v, xs, rfl, ⟨a, rfl, hs⟩, hl, q⟩ := h
    have nd := sc_l_mk_undone.nd
    refine ⟨_, PSs.nox (pss_one (ps_ret (pe_callTy call_tuple_of (by rfl) B.tuple (by decide +kernel) (pa_cons (pe_lc (own := [("_law_letter", 1)]) (g := gName 1) rfl nd (pi_tup (pe_revT (pv 0))) (blkOk_by (own := [("_law_letter", 1)]) (N := ["_law_row", "_law_letter"]) (sc := defScope s_l_mk_undone) (by decide +kernel))
        (fun _ _ _ _ _ => pg_name (i := 1) nd rfl (Or.inl rfl)) (fun _ _ _ _ _ => pts_nil) (fun _ _ _ _ _ => pe_op op_sub (pe_int) (pv 1))) pa_nil)))), ?_⟩
    refine ⟨_, rfl, a, iV xs, rfl, .inl (.inl hs), fun p hp => ⟨p, rfl, ⟨_, .inl (.inl upd_same)⟩, fun D hD => ?_⟩⟩
    have s1 : Same H (upd H p (.tup (iV xs).reverse)) := Same.new hp
    refine lc_map (fun k v _ => v = .int (0 - xs.reverse.getD k 0)) (wk_tup (K := K) (.inl (.inl upd_same))) hD (by rw [PySem.sizeLine_eq]; simp [iV]; omega) (fun _ => rfl) (fun _ _ _ _ _ h => h) (fun i H' hi e Q' q' => ?_) (fun H' ys e h3 h4 h5 => ?_)
    · have hx : (iV xs).reverse.getD i .non = .int (xs.reverse.getD i 0) := by
        have h : i < xs.reverse.length := by simpa [iV] using hi
        rw [← List.map_reverse]
        exact iV_getD h
      rw [hx]
      exact ⟨_, rfl, _, _, rfl, rfl, q' _ _ (Same.refl _) rfl⟩
    · have ey := iV_of (n := xs.length) (by simpa [iV] using h4) h5
      rw [undone_range] at ey
      subst ey
      exact ⟨D, _, rfl, .inl ⟨SqL.of h3, fun l hl => q _ _ ((s1.trans e).trans (Same.new hl)) ⟨l, rfl, upd_same⟩⟩⟩
/-! ### _law_mk_letters -/
def allLetters (n : Int) : List Int := upTo n ++ (upTo n).map fun x => 0 - x
@[irreducible] def spLetters : Sp := fun vs H Q _ => ∃ n : Int, vs = [.int n] ∧ 0 ≤ n ∧ n ≤ 4 ∧ ∀ p H', Same H H' → H p = none → H' p = some (.lst (iV (allLetters n))) → Q (.ref p) H'
theorem spLetters_i {H : Hp} {n : Int} {Q : VK} {E : XK} (h0 : 0 ≤ n) (h1 : n ≤ 4) (q : ∀ p H', Same H H' → H p = none → H' p = some (.lst (iV (allLetters n))) → Q (.ref p) H') : spLetters [.int n] H Q E := by
  unfold spLetters
  exact ⟨n, rfl, h0, h1, q⟩
theorem upTo_len (n : Int) : (upTo n).length = n.toNat := by
  unfold upTo
  simp
theorem ok_mk_letters (B : Bt mg) (F : Fd K mg "_law_mk_letters" s_l_mk_letters) : Df P w K mg base CX0 1 "_law_mk_letters" ["_law_deeds"] spLetters := by
  refine .mk' F sc_l_mk_letters (fun _ _ _ _ _ _ us hl => match us, hl with | [_], _ => rfl) (fun vs H Q E h => ?_) (fun f cdv A outer s H vs Q E hr h => ?_)
  · unfold spLetters at h
    obtain ⟨n, rfl, _⟩ := h
    rfl
  · unfold spLetters at h
    obtain ⟨n, rfl, h0, h1, q⟩ := h
    have nd := sc_l_mk_letters.nd
    refine ⟨_, PSs.nox (pss_one (ps_ret (pe_op op_cat (pe_listRg rfl (by rfl) B.list (prg_2 (by rfl) B.range (pe_int) (pe_op op_add (pv 0) (pe_int)))) (pe_lc (own := [("_law_deed", 1)]) (g := gName 1) rfl nd (pi_range2 (by rfl) B.range (pa_cons (pe_int) (pa_cons (pe_op op_add (pv 0) (pe_int)) pa_nil))) (blkOk_by (own := [("_law_deed", 1)]) (N := ["_law_deeds", "_law_deed"]) (sc := defScope s_l_mk_letters) (by decide +kernel))
        (fun _ _ _ _ _ => pg_name (i := 1) nd rfl (Or.inl rfl)) (fun _ _ _ _ _ => pts_nil) (fun _ _ _ _ _ => pe_op op_sub (pe_int) (pv 1)))))), ?_⟩
    refine ⟨_, rfl, _, _, rfl, rfl, _, _, rfl, rfl, ⟨by omega, by omega, by omega, by omega, by omega⟩, fun a ha => ?_⟩
    have er : rgV 1 (n + 1) = iV (upTo n) := by
      unfold rgV upTo iV
      rw [List.map_map]
      rfl
    have s1 : Same H (upd H a (.lst (rgV 1 (n + 1)))) := Same.new ha
    refine ⟨_, rfl, _, _, rfl, rfl, _, _, rfl, ⟨by omega, by omega, by omega, by omega⟩, fun D hD => ?_⟩
    refine lc_map (fun k v _ => v = .int (0 - (1 + (k : Int)))) (wk_range (H1 := upd H a (.lst (rgV 1 (n + 1))))) hD (by rw [PySem.sizeLine_eq]; omega) (fun _ => rfl) (fun _ _ _ _ _ h => h) (fun i H' hi e Q' q' => ⟨_, rfl, _, _, rfl, rfl, q' _ _ (Same.refl _) rfl⟩) (fun H' ys e h3 h4 h5 => ?_)
    have ey := iV_of h4 h5
    have ez : (List.range (n + 1 - 1).toNat).map (fun (k : Nat) => 0 - (1 + (k : Int))) = (upTo n).map fun x => 0 - x := by
      unfold upTo
      rw [List.map_map]
      rfl
    rw [ez] at ey
    subst ey
    have ha' := e _ _ (upd_same (H := H) (a := a) (o := .lst (rgV 1 (n + 1))))
    refine ⟨a, D, _, _, rfl, rfl, ha', h3, by rw [er, PySem.sizeLine_eq]; simp only [iV, List.length_map, upTo_len]; omega, fun p hp => ?_⟩
    have hp0 : H p = none := by
      cases z : H p with
      | none => rfl
      | some o => rw [e _ _ (s1 _ _ z)] at hp; cases hp
    refine q p _ ((s1.trans e).trans (Same.new hp)) hp0 ?_
    rw [upd_same, er]
    simp [iV, allLetters]
end
end My
namespace My
open PySem PySem.Spec PyProof.Rows L2 SX
def noHp : Hp := fun _ => none
theorem Same.nil (H : Hp) : Same noHp H := fun a o h => by cases h
theorem mem_upTo {n x : Int} : x ∈ upTo n ↔ 1 ≤ x ∧ x ≤ n := by
  unfold upTo
  rw [List.mem_map]
  constructor
  · rintro ⟨k, hk, rfl⟩
    have := List.mem_range.mp hk
    omega
  · intro h
    exact ⟨(x - 1).toNat, List.mem_range.mpr (by omega), by omega⟩
theorem mem_letters {n x : Int} : x ∈ allLetters n ↔ (0 - n ≤ x ∧ x ≤ n ∧ x ≠ 0) := by
  unfold allLetters
  rw [List.mem_append, mem_upTo, List.mem_map]
  constructor
  · rintro (h | ⟨y, hy, rfl⟩)
    · omega
    · rw [mem_upTo] at hy
      omega
  · intro h
    by_cases hx : 0 < x
    · exact .inl (by omega)
    · exact .inr ⟨0 - x, mem_upTo.mpr (by omega), by omega⟩
theorem letters_len (n : Int) : (allLetters n).length = 2 * n.toNat := by
  unfold allLetters
  rw [List.length_append, List.length_map, upTo_len]
  omega
theorem plainRow_snoc {n : Int} {r : List Int} {x : Int} (h : PlainRow n r) (hx : 0 - n ≤ x ∧ x ≤ n ∧ x ≠ 0) (hl : r = [] ∨ x ≠ 0 - r.getD (r.length - 1) 0) : PlainRow n (r ++ [x]) := by
  refine ⟨fun y hy => ?_, ?_⟩
  · rcases List.mem_append.mp hy with hy | hy
    · exact h.1 y hy
    · rw [List.mem_singleton.mp hy]
      exact hx
  · rw [adj_iff]
    intro k hk
    rw [List.length_append, List.length_singleton] at hk
    have h2 := (adj_iff r).mp h.2
    by_cases hk2 : k + 1 < r.length
    · rw [getD_snoc_lt (by omega), getD_snoc_lt hk2]
      exact h2 k hk2
    · have e : k + 1 = r.length := by omega
      rw [getD_snoc_lt (by omega), e, getD_snoc_eq]
      rcases hl with rfl | hl
      · simp at e
      · rw [show k = r.length - 1 by omega]
        omega
def keepL (n : Int) (r : List Int) (i : Nat) : Bool := decide (r = []) || !decide ((allLetters n).getD i 0 = 0 - r.getD (r.length - 1) 0)
theorem keep_some {n : Int} (hn : 1 ≤ n) (r : List Int) : (sel (keepL n r) (allLetters n).length) ≠ [] := by
  have key : ∃ x ∈ allLetters n, r = [] ∨ x ≠ 0 - r.getD (r.length - 1) 0 := by
    by_cases h : (1 : Int) = 0 - r.getD (r.length - 1) 0
    · exact ⟨-1, mem_letters.mpr (by omega), .inr (by omega)⟩
    · exact ⟨1, mem_letters.mpr (by omega), .inr h⟩
  obtain ⟨x, hx, hk⟩ := key
  obtain ⟨i, hi, rfl⟩ := List.mem_iff_getElem.mp hx
  have hm : i ∈ sel (keepL n r) (allLetters n).length := by
    unfold sel
    rw [List.mem_filter]
    refine ⟨List.mem_range.mpr hi, ?_⟩
    have e : (allLetters n).getD i 0 = (allLetters n)[i] := by rw [List.getD_eq_getElem?_getD, List.getElem?_eq_getElem hi]; rfl
    unfold keepL
    rw [e]
    rcases hk with hk | hk
    · simp [hk]
    · simp only [Bool.or_eq_true, Bool.not_eq_true', decide_eq_false_iff_not]
      exact .inr hk
  intro h
  rw [h] at hm
  cases hm
section
variable {P : Program} {w : World} {K : PySem.W.Frag} {mg : Str → Option Value} {base : Heap}
/-! ### _law_mk_row -/
@[irreducible] def spMkRow : Sp := fun vs H Q _ => ∃ (u : Sd) (k : Nat) (n least most : Int), vs = [.ref u.s, .int n, .int least, .int most] ∧ 1 ≤ n ∧ n ≤ 4 ∧ 0 ≤ least ∧ least ≤ most ∧ most ≤ 50 ∧ Dst H u (k + 100) ∧ ∀ (xs : List Int) (v : V) H', Kp u H H' → Dst H' u k → Row H' v xs → PlainRow n xs → least ≤ xs.length → xs.length ≤ most → Q v H'
theorem spMkRow_i {H : Hp} {u : Sd} {k : Nat} {n least most : Int} {Q : VK} {E : XK} (h1 : 1 ≤ n) (h2 : n ≤ 4) (h3 : 0 ≤ least) (h4 : least ≤ most) (h5 : most ≤ 50) (h : Dst H u (k + 100)) (q : ∀ (xs : List Int) (v : V) H', Kp u H H' → Dst H' u k → Row H' v xs → PlainRow n xs → least ≤ xs.length → xs.length ≤ most → Q v H') : spMkRow [.ref u.s, .int n, .int least, .int most] H Q E := by
  unfold spMkRow
  exact ⟨u, k, n, least, most, rfl, h1, h2, h3, h4, h5, h, q⟩
theorem ok_mk_row (B : Bt mg) (F : Fd K mg "_law_mk_row" s_l_mk_row) (D_l_draw : Df P w K mg base CX0 2 "_law_draw" ["_law_state", "_law_room"] spDraw) (D_l_pick : Df P w K mg base CX0 3 "_law_pick" ["_law_state", "_law_some"] (spPick K)) (D_l_mk_letters : Df P w K mg base CX0 1 "_law_mk_letters" ["_law_deeds"] spLetters) :
    Df P w K mg base CX0 4 "_law_mk_row" ["_law_state", "_law_deeds", "_law_least", "_law_most"] spMkRow := by
  refine .mk' F sc_l_mk_row (fun _ _ _ _ _ _ us hl => match us, hl with | [_, _, _, _], _ => rfl) (fun vs H Q E h => ?_) (fun f cdv A outer s H vs Q E hr h => ?_)
  · unfold spMkRow at h
    obtain ⟨u, k, n, least, most, rfl, _⟩ := h
    rfl
  · unfold spMkRow at h
    obtain ⟨u, k, n, least, most, rfl, n1, n2, l0, l1, l2, hd, q⟩ := h
    have nd := sc_l_mk_row.nd
    refine ⟨_, PSs.nox (pss_cons (ps_set (i := 4) nd rfl (Or.inr rfl) (pe_lst pa_nil))
      (pss_cons (ps_for PassesOwn.never rfl (pi_range1 (by rfl) B.range (pa_cons (pe_op op_add (pv 2) (pe_df (D_l_draw.mono (by decide)) hr rfl pass0 (pa_cons (pv 0) (pa_cons (pe_op op_add (pe_op op_sub (pv 3) (pv 2)) (pe_int)) pa_nil)))) pa_nil)) (pg_name (i := 5) nd rfl (Or.inl rfl))
      (pss_cons (ps_setLc (i := 6) (own := [("_law_letter", 7)]) (g := gName 7) rfl nd rfl rfl (sw_true rfl rfl rfl (by decide +kernel)) (pi_list (pe_df (D_l_mk_letters.mono (by decide)) hr rfl pass0 (pa_cons (pv 1) pa_nil))) (blkOk_by (own := [("_law_letter", 7)]) (N := ["_law_state", "_law_deeds", "_law_least", "_law_most", "_law_found", "_law_lap", "_law_some", "_law_letter"]) (sc := defScope s_l_mk_row) (by decide +kernel))
        (fun _ _ _ _ _ => pg_name (i := 7) nd rfl (Or.inl rfl)) (fun _ _ _ _ _ => pts_one (PW.pt (pw_or (pt_cmpR (r := rEqD K) (op_eqD hr.units) (pv 4) (pe_lst pa_nil) (nomark _)) (pw_or1 (pt_cmpR op_ne (pv 7) (pe_op op_sub (pe_int) (pe_ix (r := rIxL K) ix_list (pv 4) (pe_un un_neg (pe_int)) (fun _ _ => rfl))) (nomark _)))))) (fun _ _ _ _ _ => pv 7))
      (pss_one (ps_expr (pe_bm PySem.F.plainAttrs_list PySem.F.slot_list_append PySem.F.type_list_append mt_append (pv 4) (pa_cons (pe_df (D_l_pick.mono (by decide)) hr rfl pass0 (pa_cons (pv 0) (pa_cons (pv 6) pa_nil))) pa_nil))))))
      (pss_one (ps_ret (pe_callTy call_tuple_of (by rfl) B.tuple (by decide +kernel) (pa_cons (pv 4) pa_nil)))))), ?_⟩
    refine ⟨Nat.zero_le _, fun D hD => ?_⟩
    have off := hd.off hD
    have hd1 := hd.mut (o := .lst []) off
    refine ⟨_, rfl, _, rfl, _, rfl, _, rfl, _, _, rfl, rfl, _, _, rfl, rfl, spDraw_i (by omega) (by omega) hd1 fun d H1 d0 d1 kp1 ds1 => ?_⟩
    refine ⟨_, _, rfl, rfl, _, rfl, by omega, by omega, ?_⟩
    have e1 : H1 D = some (.lst (iV [])) := kp1 D _ off.1 off.2.1 upd_same
    have kp01 : Kp u H H1 := (Kp.of (Same.new hD)).trans kp1
    refine for_wk (wk_range (H1 := noHp)) (fun i σ H' => ∃ (x5 x6 x7 : Option V) (r : List Int), σ = [some (.ref u.s), some (.int n), some (.int least), some (.int most), some (.ref D), x5, x6, x7] ∧ Kp u H H' ∧ H' D = some (.lst (iV r)) ∧ PlainRow n r ∧ r.length = i ∧ i ≤ 50 ∧ Dst H' u (k + 99 - i)) ⟨_, _, _, [], rfl, kp01, e1, ⟨by simp, rfl⟩, rfl, by omega, ds1⟩ (fun i σ H' _ => Same.nil H') ?_ ?_
    · rintro i σ H2 hi ⟨x5, x6, x7, r, rfl, kp2, e2, pr, hr2, hi2, ds2⟩
      refine ⟨_, rfl, spLetters_i (by omega) n2 fun p H3 s3 hp e3 => ⟨p, rfl, ⟨_, SqL.of e3⟩, fun D2 hD2 => ?_⟩⟩
      have lens := letters_len n
      have hx (j : Nat) (hj : j < (iV (allLetters n)).length) : (iV (allLetters n)).getD j .non = .int ((allLetters n).getD j 0) := iV_getD (by simpa [iV] using hj)
      refine lc_sel (keepL n r) (fun j v _ => v = .int ((allLetters n).getD j 0)) (wk_list (SqL.of e3)) hD2 (by rw [PySem.sizeLine_eq]; simp only [iV, List.length_map, lens]; omega) (fun _ => rfl) (fun _ _ _ _ _ h => h) (fun j H4 hj s4 Q' q' => ?_) (fun j H4 hj hk s4 Q' q' => ?_) (fun H4 ys s4 g1 g2 g3 => ?_)
      · rw [hx j hj]
        have eD := s4 _ _ (s3 _ _ e2)
        refine ⟨_, rfl, Nat.zero_le _, fun l hl => eqD_int (t := false) (xs := r) (ys := []) (.lst (SqL.of (by rw [upd_ne (ne_of_none eD hl)]; exact eD))) (.lst (SqL.of upd_same)) ⟨_, rfl, ?_⟩⟩
        have s5 : Same H4 (upd H4 l (.lst [])) := Same.new hl
        have qq := q' _ s5
        unfold keepL at qq
        refine ite_of (fun h => ?_) (fun h => ?_)
        · rw [h] at qq
          exact qq
        · have hne : r ≠ [] := of_decide_eq_false h
          rw [h] at qq
          have hr' : ∃ r' z, r = r' ++ [z] := by
            rcases List.eq_nil_or_concat r with h | ⟨r', z, h⟩
            · exact absurd h hne
            · exact ⟨r', z, by rw [h, List.concat_eq_append]⟩
          obtain ⟨r', z, rfl⟩ := hr'
          have ez : (r' ++ [z]).getD ((r' ++ [z]).length - 1) 0 = z := by
            rw [List.length_append, List.length_singleton, Nat.add_sub_cancel]
            exact getD_snoc_eq
          rw [ez] at qq
          refine ⟨_, rfl, _, rfl, 1, rfl, D, _, _, _, rfl, rfl, SqL.of (s5 _ _ eD), by rw [iV, List.map_append]; exact atI_last _ _, _, _, rfl, rfl, rfl, _, rfl, ?_⟩
          rw [decI]
          simpa using qq
      · rw [hx j hj]
        exact ⟨_, rfl, q' _ _ (Same.refl _) rfl⟩
      · have ey := iV_of2 g2 g3
        rw [ey] at g1
        have s04 := s3.trans s4
        have eD := s04 _ _ e2
        have ds4 : Dst H4 u ((k + 98 - i) + 1) := (ds2.le (by omega)).same s04
        have kp4 : Kp u H H4 := kp2.trans (Kp.of s04)
        have off2 : Off u D2 := (ds2.same s3).off hD2
        have sl := sel_len (keepL n r) (iV (allLetters n)).length
        simp only [iV, List.length_map] at sl g1
        have hne : ((sel (keepL n r) (allLetters n).length).map fun j => (allLetters n).getD j 0).map V.int ≠ [] := by
          rw [Ne, List.map_eq_nil_iff, List.map_eq_nil_iff]
          exact keep_some n1 r
        refine ⟨_, rfl, .inl ⟨rfl, _, SqL.of eD⟩, _, rfl, _, rfl, spPick_i off2.1 off2.2.1 (SqL.of g1) hne (by simp only [List.length_map]; omega) ds4 fun j v H5 hv kp5 ds5 => ?_⟩
        have e5 := kp5 D _ off.1 off.2.1 eD
        rw [List.getElem?_map, List.getElem?_map] at hv
        obtain ⟨m, hm, rfl⟩ := Option.map_eq_some_iff.mp (by
          rw [Option.map_map] at hv
          exact hv)
        have hm' : m ∈ sel (keepL n r) (allLetters n).length := List.mem_of_getElem? hm
        unfold sel at hm'
        rw [List.mem_filter] at hm'
        obtain ⟨hm1, hm2⟩ := hm'
        have hm1 := List.mem_range.mp hm1
        have hmem : (allLetters n).getD m 0 ∈ allLetters n := by
          rw [List.getD_eq_getElem?_getD, List.getElem?_eq_getElem hm1]
          exact List.getElem_mem hm1
        refine ⟨D, _, _, rfl, rfl, e5, by rw [PySem.sizeLine_eq]; simp only [iV, List.length_map]; omega, _, _, _, r ++ [(allLetters n).getD m 0], rfl, Kp.mut (kp4.trans kp5) hD, ?_, ?_, by simp [hr2], by omega, (ds5.le (by omega)).mut off⟩
        · rw [upd_same, iV_snoc]
          rfl
        · refine plainRow_snoc pr (mem_letters.mp hmem) ?_
          unfold keepL at hm2
          simpa using hm2
    · rintro σ H2 ⟨x5, x6, x7, r, rfl, kp2, e2, pr, hr2, hi2, ds2⟩
      refine ⟨_, rfl, D, _, rfl, .inl ⟨SqL.of e2, fun t ht => ?_⟩⟩
      exact q r _ _ (kp2.trans (Kp.of (Same.new ht))) ((ds2.le (by omega)).same (Same.new ht)) ⟨t, rfl, upd_same⟩ pr (by omega) (by omega)
end
end My
namespace My
open PySem PySem.Spec PyProof.Rows L2 SX
/-- so many letters of so many deeds -/
def Lets (n : Int) (xs : List Int) : Prop := ∀ x ∈ xs, 0 - n ≤ x ∧ x ≤ n ∧ x ≠ 0
theorem plain_foldl (a b : List Int) : plain (a ++ b) = b.foldl plainStep (plain a) := by
  unfold plain
  rw [List.foldl_append]
theorem step_back {acc : List Int} (h : adjOk acc = true) (x : Int) : plainStep (plainStep acc x) (0 - x) = acc := by
  have hr : acc = [] ∨ ∃ r z, acc = r ++ [z] := by
    rcases List.eq_nil_or_concat acc with h | ⟨r, z, h⟩
    · exact .inl h
    · exact .inr ⟨r, z, by rw [h, List.concat_eq_append]⟩
  have es (r : List Int) (z x : Int) : plainStep (r ++ [z]) x = if z = 0 - x then r else r ++ [z] ++ [x] := by
    unfold plainStep
    rw [List.getLast?_append]
    simp
  rcases hr with rfl | ⟨r, z, rfl⟩
  · have e : plainStep [] x = [] ++ [x] := rfl
    rw [e, es, if_pos (by omega)]
  · rw [es]
    by_cases hz : z = 0 - x
    · rw [if_pos hz]
      rcases List.eq_nil_or_concat r with h2 | ⟨r', y, h2⟩
      · subst h2
        show [] ++ [0 - x] = [] ++ [z]
        rw [hz]
      · rw [List.concat_eq_append] at h2
        subst h2
        have := (adj_iff _).mp h r'.length (by simp)
        have e1 : (r' ++ [y] ++ [z]).getD r'.length 0 = y := by rw [getD_snoc_lt (by simp), getD_snoc_eq]
        have e2 : (r' ++ [y] ++ [z]).getD (r'.length + 1) 0 = z := by
          rw [show r'.length + 1 = (r' ++ [y]).length by simp, getD_snoc_eq]
        rw [e1, e2] at this
        rw [es, if_neg (by omega), hz]
    · rw [if_neg hz, es, if_pos (by omega)]
theorem plain_pair (a b : List Int) (x : Int) : plain (a ++ [x, 0 - x] ++ b) = plain (a ++ b) := by
  rw [plain_foldl, plain_foldl, plain_foldl]
  show b.foldl plainStep (plainStep (plainStep (plain a) x) (0 - x)) = _
  rw [step_back (plain_adj a)]
section
variable {P : Program} {w : World} {K : PySem.W.Frag} {mg : Str → Option Value} {base : Heap}
/-! ### _law_mr_times -/
@[irreducible] def spTimes : Sp := fun vs H Q _ => ∃ (v : V) (xs : List Int) (m : Int), vs = [v, .int m] ∧ Row H v xs ∧ xs ≠ [] ∧ xs.length ≤ 900 ∧ 2 ≤ m ∧ m ≤ 1000 ∧ ∀ v' H', Same H H' → Row H' v' (plain (List.replicate m.toNat xs).flatten) → Q v' H'
theorem spTimes_i {H : Hp} {v : V} {xs : List Int} {m : Int} {Q : VK} {E : XK} (h : Row H v xs) (h1 : xs ≠ []) (h2 : xs.length ≤ 900) (h3 : 2 ≤ m) (h4 : m ≤ 1000) (q : ∀ v' H', Same H H' → Row H' v' (plain (List.replicate m.toNat xs).flatten) → Q v' H') : spTimes [v, .int m] H Q E := by
  unfold spTimes
  exact ⟨v, xs, m, rfl, h, h1, h2, h3, h4, q⟩
theorem rep_iV (m : Nat) (xs : List Int) : (List.replicate m (iV xs)).flatten = iV (List.replicate m xs).flatten := by
  unfold iV
  rw [List.map_flatten, List.map_replicate]
theorem rep_len (m : Nat) (xs : List Int) : (List.replicate m xs).flatten.length = m * xs.length := by
  rw [List.length_flatten, List.map_replicate, List.sum_replicate_nat]
theorem ok_times (B : Bt mg) (F : Fd K mg "_law_mr_times" s_l_mr_times) (D_l_mk_undone : Df P w K mg base CX0 1 "_law_mk_undone" ["_law_row"] spUndone) (D_l_mk_plain : Df P w K mg base CX0 1 "_law_mk_plain" ["_law_letters"] (spPlain K)) : Df P w K mg base CX0 2 "_law_mr_times" ["_law_row", "_law_many"] spTimes := by
  refine .mk' F sc_l_mr_times (fun _ _ _ _ _ _ us hl => match us, hl with | [_, _], _ => rfl) (fun vs H Q E h => ?_) (fun f cdv A outer s H vs Q E hr h => ?_)
  · unfold spTimes at h
    obtain ⟨v, xs, m, rfl, _⟩ := h
    rfl
  · unfold spTimes at h
    obtain ⟨v, xs, m, rfl, ⟨a, rfl, ha⟩, hne, hl, m1, m2, q⟩ := h
    have nd := sc_l_mr_times.nd
    refine ⟨_, PSs.nox (pss_cons (ps_set (i := 2) nd rfl (Or.inl rfl) (pe_ifExp (pt_cmpR op_ge (pv 1) (pe_int) (nomark _)) (pv 0) (pe_df (D_l_mk_undone.mono (by decide)) hr rfl pass0 (pa_cons (pv 0) pa_nil))))
      (pss_one (ps_ret (pe_df (D_l_mk_plain.mono (by decide)) hr rfl pass0 (pa_cons (pe_op op_repT (pv 2) (pe_callB call_abs (by rfl) B.abs (by decide +kernel) (pa_cons (pv 1) pa_nil))) pa_nil))))), ?_⟩
    refine ⟨_, rfl, _, _, rfl, rfl, _, rfl, iteT_of (decide_eq_true (by omega)) ⟨_, rfl, ?_⟩⟩
    refine ⟨_, rfl, _, rfl, _, rfl, a, _, iV xs, rfl, rfl, .inl (.inl ha), by simpa [iV] using hne, ?_, ?_, by simp only [iV, List.length_map]; omega, fun p hp => ?_⟩
    · rw [if_neg (by omega)]; exact m1
    · rw [if_neg (by omega)]; exact m2
    · rw [if_neg (by omega), rep_iV]
      have lr := rep_len m.toNat xs
      have : m.toNat * xs.length ≤ 1000 * 900 := Nat.mul_le_mul (by omega) hl
      exact spPlain_i (.inr (.inl (.inl upd_same))) (by omega) fun v' H' s r => q v' H' ((Same.new hp).trans s) r
/-! ### _law_mr_turned -/
@[irreducible] def spTurned : Sp := fun vs H Q _ => ∃ (v u : V) (xs ys : List Int), vs = [v, u] ∧ Row H v xs ∧ Row H u ys ∧ xs.length ≤ 1000 ∧ ys.length ≤ 1000 ∧ ∀ v' H', Same H H' → Row H' v' (plain (ys ++ xs ++ undone ys)) → Q v' H'
theorem spTurned_i {H : Hp} {v u : V} {xs ys : List Int} {Q : VK} {E : XK} (h : Row H v xs) (h' : Row H u ys) (h1 : xs.length ≤ 1000) (h2 : ys.length ≤ 1000) (q : ∀ v' H', Same H H' → Row H' v' (plain (ys ++ xs ++ undone ys)) → Q v' H') : spTurned [v, u] H Q E := by
  unfold spTurned
  exact ⟨v, u, xs, ys, rfl, h, h', h1, h2, q⟩
theorem ok_turned (F : Fd K mg "_law_mr_turned" s_l_mr_turned) (D_l_mk_undone : Df P w K mg base CX0 1 "_law_mk_undone" ["_law_row"] spUndone) (D_l_mk_plain : Df P w K mg base CX0 1 "_law_mk_plain" ["_law_letters"] (spPlain K)) : Df P w K mg base CX0 2 "_law_mr_turned" ["_law_row", "_law_by"] spTurned := by
  refine .mk' F sc_l_mr_turned (fun _ _ _ _ _ _ us hl => match us, hl with | [_, _], _ => rfl) (fun vs H Q E h => ?_) (fun f cdv A outer s H vs Q E hr h => ?_)
  · unfold spTurned at h
    obtain ⟨v, u, xs, ys, rfl, _⟩ := h
    rfl
  · unfold spTurned at h
    obtain ⟨v, u, xs, ys, rfl, h1, h2, l1, l2, q⟩ := h
    have nd := sc_l_mr_turned.nd
    refine ⟨_, PSs.nox (pss_one (ps_ret (pe_df (D_l_mk_plain.mono (by decide)) hr rfl pass0 (pa_cons (pe_op op_catA (pe_op op_catA (pv 1) (pv 0)) (pe_df (D_l_mk_undone.mono (by decide)) hr rfl pass0 (pa_cons (pv 1) pa_nil))) pa_nil)))), ?_⟩
    refine ⟨_, rfl, _, rfl, catA_row h2 h1 (by rw [PySem.sizeLine_eq]; omega) fun v1 H1 s1 r1 => ?_⟩
    refine ⟨_, rfl, spUndone_i (h2.same s1) (by omega) fun v2 H2 s2 r2 => ?_⟩
    have ul := undone_len ys
    refine catA_row (r1.same s2) r2 (by rw [PySem.sizeLine_eq, List.length_append]; omega) fun v3 H3 s3 r3 => ?_
    exact spPlain_row r3 (by rw [List.length_append, List.length_append]; omega) fun v4 H4 s4 r4 => q v4 H4 (((s1.trans s2).trans s3).trans s4) r4
/-! ### _law_mk_raw -/
@[irreducible] def spRaw : Sp := fun vs H Q _ => ∃ (u : Sd) (k : Nat) (n : Int) (v : V) (xs : List Int), vs = [.ref u.s, .int n, v] ∧ 1 ≤ n ∧ n ≤ 4 ∧ Row H v xs ∧ Lets n xs ∧ xs.length ≤ 10000 ∧ Dst H u (k + 10) ∧ ∀ (ys : List Int) (v' : V) H', Kp u H H' → Dst H' u k → Row H' v' ys → plain ys = plain xs → Lets n ys → ys.length ≤ xs.length + 4 → (xs ≠ [] → ys ≠ []) → Q v' H'
theorem spRaw_i {H : Hp} {u : Sd} {k : Nat} {n : Int} {v : V} {xs : List Int} {Q : VK} {E : XK} (h1 : 1 ≤ n) (h2 : n ≤ 4) (h3 : Row H v xs) (h4 : Lets n xs) (h5 : xs.length ≤ 10000) (h : Dst H u (k + 10)) (q : ∀ (ys : List Int) (v' : V) H', Kp u H H' → Dst H' u k → Row H' v' ys → plain ys = plain xs → Lets n ys → ys.length ≤ xs.length + 4 → (xs ≠ [] → ys ≠ []) → Q v' H') : spRaw [.ref u.s, .int n, v] H Q E := by
  unfold spRaw
  exact ⟨u, k, n, v, xs, rfl, h1, h2, h3, h4, h5, h, q⟩
theorem ok_raw (B : Bt mg) (F : Fd K mg "_law_mk_raw" s_l_mk_raw) (D_l_draw : Df P w K mg base CX0 2 "_law_draw" ["_law_state", "_law_room"] spDraw) (D_l_pick : Df P w K mg base CX0 3 "_law_pick" ["_law_state", "_law_some"] (spPick K)) (D_l_mk_letters : Df P w K mg base CX0 1 "_law_mk_letters" ["_law_deeds"] spLetters) :
    Df P w K mg base CX0 4 "_law_mk_raw" ["_law_state", "_law_deeds", "_law_row"] spRaw := by
  refine .mk' F sc_l_mk_raw (fun _ _ _ _ _ _ us hl => match us, hl with | [_, _, _], _ => rfl) (fun vs H Q E h => ?_) (fun f cdv A outer s H vs Q E hr h => ?_)
  · unfold spRaw at h
    obtain ⟨u, k, n, v, xs, rfl, _⟩ := h
    rfl
  · unfold spRaw at h
    obtain ⟨u, k, n, v, xs, rfl, n1, n2, ⟨a, rfl, ha⟩, hlx, hl, hd, q⟩ := h
    have nd := sc_l_mk_raw.nd
    refine ⟨_, PSs.nox (pss_cons (ps_set (i := 3) nd rfl (Or.inl rfl) (pe_callTy call_list_of (by rfl) B.list (by decide +kernel) (pa_cons (pv 2) pa_nil)))
      (pss_cons (ps_for PassesOwn.never rfl (pi_range1 (by rfl) B.range (pa_cons (pe_df (D_l_draw.mono (by decide)) hr rfl pass0 (pa_cons (pv 0) (pa_cons (pe_int) pa_nil))) pa_nil)) (pg_name (i := 4) nd rfl (Or.inl rfl))
      (pss_cons (ps_par (i := 5) (j := 6) (by rfl) nd rfl rfl (by decide) rfl rfl (pa_cons (pe_df (D_l_draw.mono (by decide)) hr rfl pass0 (pa_cons (pv 0) (pa_cons (pe_op op_add (pe_callB call_lenK (by rfl) B.len boot_len (pa_cons (pv 3) pa_nil)) (pe_int)) pa_nil))) (pa_cons (pe_df (D_l_pick.mono (by decide)) hr rfl pass0 (pa_cons (pv 0) (pa_cons (pe_df (D_l_mk_letters.mono (by decide)) hr rfl pass0 (pa_cons (pv 1) pa_nil)) pa_nil))) pa_nil)) (by rfl))
      (pss_one (ps_set (i := 3) nd rfl (Or.inl rfl) (pe_op op_cat (pe_op op_cat (pe_slice sl_list (pv 3) po_none (po_some (pv 5))) (pe_lst (pa_cons (pv 6) (pa_cons (pe_op op_sub (pe_int) (pv 6)) pa_nil)))) (pe_slice sl_list (pv 3) (po_some (pv 5)) po_none))))))
      (pss_one (ps_ret (pe_callTy call_tuple_of (by rfl) B.tuple (by decide +kernel) (pa_cons (pv 3) pa_nil)))))), ?_⟩
    refine ⟨_, rfl, a, _, rfl, .inr (.inl (.inl ha)), fun D hD => ?_⟩
    have hd1 := hd.same (Same.new (o := .lst (iV xs)) hD)
    refine ⟨_, rfl, spDraw_i (k := k + 9) (by omega) (by omega) hd1 fun d H1 d0 d1 kp1 ds1 => ?_⟩
    have off := hd.off hD
    have e1 : H1 D = some (.lst (iV xs)) := kp1 D _ off.1 off.2.1 upd_same
    have kp01 : Kp u H H1 := (Kp.of (Same.new hD)).trans kp1
    refine ⟨_, rfl, by omega, by omega, ?_⟩
    refine for_wk (wk_range (H1 := noHp)) (fun i σ H' => ∃ (D : Addr) (x4 x5 x6 : Option V) (r : List Int), σ = [some (.ref u.s), some (.int n), some (.ref a), some (.ref D), x4, x5, x6] ∧ Off u D ∧ Kp u H H' ∧ H' D = some (.lst (iV r)) ∧ plain r = plain xs ∧ Lets n r ∧ r.length = xs.length + 2 * i ∧ (xs ≠ [] → r ≠ []) ∧ i ≤ 2 ∧ Dst H' u (k + 9 - 2 * i)) ⟨D, _, _, _, xs, rfl, off, kp01, e1, rfl, hlx, rfl, fun h => h, by omega, ds1⟩ (fun i σ H' _ => Same.nil H') ?_ ?_
    · rintro i σ H2 hi ⟨D, x4, x5, x6, r, rfl, off, kp2, e2, pr, lr, lenr, ner, hi2, ds2⟩
      have sq : SqL K H2 D (iV r) := SqL.of e2
      refine ⟨_, rfl, _, rfl, D, _, rfl, .inl sq, _, _, rfl, rfl, spDraw_i (k := k + 8 - 2 * i) (by simp only [iV, List.length_map]; omega) (by simp only [iV, List.length_map]; omega) (ds2.le (by omega)) fun at' H3 a0 a1 kp3 ds3 => ?_⟩
      refine ⟨_, rfl, _, rfl, spLetters_i (by omega) n2 fun p H4 s4 hp e4 => ?_⟩
      have offp : Off u p := ds3.off hp
      have ll := letters_len n
      refine spPick_i (k := k + 7 - 2 * i) offp.1 offp.2.1 (SqL.of e4) ?_ (by simp only [iV, List.length_map, ll]; omega) ((ds3.same s4).le (by omega)) fun j v H5 hv kp5 ds5 => ?_
      · intro h
        have := congrArg List.length h
        simp only [iV, List.length_map, ll, List.length_nil] at this
        omega
      · obtain ⟨x, hx, rfl⟩ := Option.map_eq_some_iff.mp (by rw [List.getElem?_map] at hv; exact hv)
        have hx := mem_letters.mp (List.mem_of_getElem? hx)
        have e5 : H5 D = some (.lst (iV r)) := kp5 D _ off.1 off.2.1 (s4 _ _ (kp3 D _ off.1 off.2.1 e2))
        obtain ⟨m, rfl⟩ : ∃ m : Nat, at' = m := ⟨at'.toNat, by omega⟩
        have hm : m ≤ r.length := by simp only [iV, List.length_map] at a1; omega
        refine ⟨_, _, rfl, ?_⟩
        refine ⟨_, rfl, _, rfl, _, rfl, D, iV r, rfl, SqL.of e5, fun p1 hp1 => ?_⟩
        rw [cutV_iV, cut_take]
        have s6 : Same H5 (upd H5 p1 (.lst (iV (r.take m)))) := Same.new hp1
        refine ⟨_, rfl, _, rfl, _, _, rfl, rfl, by rw [PySem.sizeLine_eq]; simp, fun p2 hp2 => ?_⟩
        have s7 := Same.new (o := .lst [.int x, .int (0 - x)]) hp2
        refine ⟨p1, p2, iV (r.take m), iV [x, 0 - x], rfl, rfl, s7 _ _ upd_same, upd_same, by rw [PySem.sizeLine_eq]; simp [iV]; omega, fun p3 hp3 => ?_⟩
        have s8 := Same.new (o := .lst (iV (r.take m) ++ iV [x, 0 - x])) hp3
        refine ⟨_, rfl, _, rfl, _, rfl, D, iV r, rfl, SqL.of (s8 _ _ (s7 _ _ (s6 _ _ e5))), fun p4 hp4 => ?_⟩
        rw [cutV_iV, cut_drop]
        have s9 := Same.new (o := .lst (iV (r.drop m))) hp4
        refine ⟨p3, p4, iV (r.take m) ++ iV [x, 0 - x], iV (r.drop m), rfl, rfl, s9 _ _ upd_same, upd_same, by rw [PySem.sizeLine_eq]; simp [iV]; omega, fun p5 hp5 => ?_⟩
        have s10 := Same.new (o := .lst (iV (r.take m) ++ iV [x, 0 - x] ++ iV (r.drop m))) hp5
        have sall := (((s6.trans s7).trans s8).trans s9).trans s10
        have ds9 := ds5.same (((s6.trans s7).trans s8).trans s9)
        refine ⟨p5, _, _, _, r.take m ++ [x, 0 - x] ++ r.drop m, rfl, ds9.off hp5, (((kp2.trans kp3).trans (Kp.of s4)).trans kp5).trans (Kp.of sall), by rw [upd_same]; simp [iV], ?_, ?_, by simp; omega, fun _ => by simp, by omega, (ds9.le (by omega)).same s10⟩
        · rw [plain_pair, List.take_append_drop]
          exact pr
        · intro y hy
          rcases List.mem_append.mp hy with hy | hy
          · rcases List.mem_append.mp hy with hy | hy
            · exact lr y (List.mem_of_mem_take hy)
            · simp at hy
              omega
          · exact lr y (List.mem_of_mem_drop hy)
    · rintro σ H2 ⟨D, x4, x5, x6, r, rfl, off, kp2, e2, pr, lr, lenr, ner, hi2, ds2⟩
      refine ⟨_, rfl, D, _, rfl, .inl ⟨SqL.of e2, fun t ht => ?_⟩⟩
      exact q r _ _ (kp2.trans (Kp.of (Same.new ht))) ((ds2.le (by omega)).same (Same.new ht)) ⟨t, rfl, upd_same⟩ pr lr (by omega) ner
end
end My
namespace My
open PySem PySem.Spec PyProof.Rows L2 SX
theorem Lets.plain {n : Int} {xs : List Int} (h : Lets n xs) : Lets n (My.plain xs) := fun x hx => h x (plain_mem hx)
theorem Lets.app {n : Int} {xs ys : List Int} (h : Lets n xs) (h' : Lets n ys) : Lets n (xs ++ ys) := fun x hx => (List.mem_append.mp hx).elim (h x) (h' x)
theorem Lets.undone {n : Int} {xs : List Int} (h : Lets n xs) : Lets n (My.undone xs) := fun x hx => by
  unfold My.undone at hx
  obtain ⟨y, hy, rfl⟩ := List.mem_map.mp hx
  have := h y (List.mem_reverse.mp hy)
  omega
theorem Lets.rep {n : Int} {xs : List Int} (m : Nat) (h : Lets n xs) : Lets n (List.replicate m xs).flatten := fun x hx => by
  obtain ⟨ys, hy, hx⟩ := List.mem_flatten.mp hx
  rw [(List.mem_replicate.mp hy).2] at hx
  exact h x hx
section
variable {P : Program} {w : World} {K : PySem.W.Frag} {mg : Str → Option Value} {base : Heap}
/-! ### _law_mr_row -/
@[irreducible] def spLRow : Sp := fun vs H Q _ => ∃ (u : Sd) (k : Nat) (n : Int), vs = [.ref u.s, .int n] ∧ 1 ≤ n ∧ n ≤ 4 ∧ Dst H u (k + 400) ∧ ∀ (xs : List Int) (v : V) H', Kp u H H' → Dst H' u k → Row H' v xs → Lets n xs → xs.length ≤ 100 → Q v H'
theorem spLRow_i {H : Hp} {u : Sd} {k : Nat} {n : Int} {Q : VK} {E : XK} (h1 : 1 ≤ n) (h2 : n ≤ 4) (h : Dst H u (k + 400)) (q : ∀ (xs : List Int) (v : V) H', Kp u H H' → Dst H' u k → Row H' v xs → Lets n xs → xs.length ≤ 100 → Q v H') : spLRow [.ref u.s, .int n] H Q E := by
  unfold spLRow
  exact ⟨u, k, n, rfl, h1, h2, h, q⟩
theorem ok_lrow (F : Fd K mg "_law_mr_row" s_l_mr_row) (D_l_draw : Df P w K mg base CX0 2 "_law_draw" ["_law_state", "_law_room"] spDraw) (D_l_mk_row : Df P w K mg base CX0 4 "_law_mk_row" ["_law_state", "_law_deeds", "_law_least", "_law_most"] spMkRow) (D_l_mr_times : Df P w K mg base CX0 2 "_law_mr_times" ["_law_row", "_law_many"] spTimes)
    (D_l_mr_turned : Df P w K mg base CX0 2 "_law_mr_turned" ["_law_row", "_law_by"] spTurned) (D_l_mk_raw : Df P w K mg base CX0 4 "_law_mk_raw" ["_law_state", "_law_deeds", "_law_row"] spRaw) : Df P w K mg base CX0 5 "_law_mr_row" ["_law_state", "_law_deeds"] spLRow := by
  refine .mk' F sc_l_mr_row (fun _ _ _ _ _ _ us hl => match us, hl with | [_, _], _ => rfl) (fun vs H Q E h => ?_) (fun f cdv A outer s H vs Q E hr h => ?_)
  · unfold spLRow at h
    obtain ⟨u, k, n, rfl, _⟩ := h
    rfl
  · unfold spLRow at h
    obtain ⟨u, k, n, rfl, n1, n2, hd, q⟩ := h
    have nd := sc_l_mr_row.nd
    refine ⟨_, PSs.nox (pss_cons (ps_set (i := 2) nd rfl (Or.inl rfl) (pe_df (D_l_draw.mono (by decide)) hr rfl pass0 (pa_cons (pv 0) (pa_cons (pe_int) pa_nil))))
      (C8.pss_cut (ps_if (pt_cmpR op_eq (pv 2) (pe_int) (nomark _))
      (pss_one (ps_set (i := 3) nd rfl (Or.inl rfl) (pe_df (D_l_mr_times.mono (by decide)) hr rfl pass0 (pa_cons (pe_df (D_l_mk_row.mono (by decide)) hr rfl pass0 (pa_cons (pv 0) (pa_cons (pv 1) (pa_cons (pe_int) (pa_cons (pe_int) pa_nil))))) (pa_cons (pe_op op_add (pe_int) (pe_df (D_l_draw.mono (by decide)) hr rfl pass0 (pa_cons (pv 0) (pa_cons (pe_int) pa_nil)))) pa_nil))))) (pss_one (ps_if (pt_cmpR op_eq (pv 2) (pe_int) (nomark _))
      (pss_one (ps_set (i := 3) nd rfl (Or.inl rfl) (pe_df (D_l_mr_turned.mono (by decide)) hr rfl pass0 (pa_cons (pe_df (D_l_mk_row.mono (by decide)) hr rfl pass0 (pa_cons (pv 0) (pa_cons (pv 1) (pa_cons (pe_int) (pa_cons (pe_int) pa_nil))))) (pa_cons (pe_df (D_l_mk_row.mono (by decide)) hr rfl pass0 (pa_cons (pv 0) (pa_cons (pv 1) (pa_cons (pe_int) (pa_cons (pe_int) pa_nil))))) pa_nil))))) (pss_one (ps_set (i := 3) nd rfl (Or.inl rfl) (pe_df (D_l_mk_row.mono (by decide)) hr rfl pass0 (pa_cons (pv 0) (pa_cons (pv 1) (pa_cons (pe_int) (pa_cons (pe_int) pa_nil))))))))))
      (pss_one (ps_ret (pe_df (D_l_mk_raw.mono (by decide)) hr rfl pass0 (pa_cons (pv 0) (pa_cons (pv 1) (pa_cons (pv 3) pa_nil)))))))), ?_⟩
    refine ⟨_, rfl, spDraw_i (k := k + 399) (by omega) (by omega) hd fun way H1 w0 w1 kp1 ds1 => ?_⟩
    refine ⟨fun σ' H' => ∃ (v : V) (xs : List Int), σ' = [some (.ref u.s), some (.int n), some (.int way), some v] ∧ Kp u H H' ∧ Dst H' u (k + 10) ∧ Row H' v xs ∧ Lets n xs ∧ xs.length ≤ 60, ?_, ?_⟩
    · refine ⟨_, rfl, rfl, _, rfl, ?_⟩
      refine ite_of (fun h => ?_) (fun h => ?_)
      · refine ⟨_, rfl, _, rfl, spMkRow_i (k := k + 290) n1 n2 (by omega) (by omega) (by omega) (ds1.le (by omega)) fun xs v H2 kp2 ds2 r2 p2 l1 l2 => ?_⟩
        refine ⟨_, rfl, spDraw_i (k := k + 10) (by omega) (by omega) (ds2.le (by omega)) fun d H3 d0 d1 kp3 ds3 => ⟨_, _, rfl, rfl, ?_⟩⟩
        refine spTimes_i (r2.tst (kp3.tst ds2)) (fun e => by rw [e] at l1; simp at l1) (by omega) (by omega) (by omega) fun v' H4 s4 r4 => ?_
        refine ⟨v', _, rfl, ((kp1.trans kp2).trans kp3).trans (Kp.of s4), ds3.same s4, r4, Lets.plain (Lets.rep _ p2.1), ?_⟩
        have h1 := plain_len (List.replicate (2 + d).toNat xs).flatten
        rw [rep_len] at h1
        have : (2 + d).toNat * xs.length ≤ 4 * 3 := Nat.mul_le_mul (by omega) (by omega)
        omega
      · refine ⟨_, rfl, rfl, _, rfl, ?_⟩
        refine ite_of (fun h2 => ?_) (fun h2 => ?_)
        · refine ⟨_, rfl, _, rfl, spMkRow_i (k := k + 290) n1 n2 (by omega) (by omega) (by omega) (ds1.le (by omega)) fun xs v H2 kp2 ds2 r2 p2 l1 l2 => ?_⟩
          refine ⟨_, rfl, _, rfl, spMkRow_i (k := k + 190) n1 n2 (by omega) (by omega) (by omega) ds2 fun ys v2 H3 kp3 ds3 r3 p3 l3 l4 => ?_⟩
          refine spTurned_i (r2.tst (kp3.tst ds2)) r3 (by omega) (by omega) fun v' H4 s4 r4 => ?_
          refine ⟨v', _, rfl, ((kp1.trans kp2).trans kp3).trans (Kp.of s4), (ds3.le (by omega)).same s4, r4, Lets.plain ((Lets.app p3.1 p2.1).app (Lets.undone p3.1)), ?_⟩
          have h1 := plain_len (ys ++ xs ++ undone ys)
          rw [List.length_append, List.length_append, undone_len] at h1
          omega
        · refine ⟨_, rfl, _, rfl, spMkRow_i (k := k + 290) n1 n2 (by omega) (by omega) (by omega) (ds1.le (by omega)) fun xs v H2 kp2 ds2 r2 p2 l1 l2 => ?_⟩
          exact ⟨v, xs, rfl, kp1.trans kp2, ds2.le (by omega), r2, p2.1, by omega⟩
    · rintro σ' H' ⟨v, xs, rfl, kp, ds, r, lx, ll⟩
      refine ⟨_, rfl, _, rfl, _, rfl, spRaw_i n1 n2 r lx (by omega) ds fun ys v' H2 kp2 ds2 r2 _ ly hl _ => q ys v' H2 (kp.trans kp2) ds2 r2 ly (by omega)⟩
/-! ### _law_mr_whole, _law_mr_same -/
theorem ok_lwhole (B : Bt mg) (F : Fd K mg "_law_mr_whole" s_l_mr_whole) : Df P w K mg base CX0 1 "_law_mr_whole" ["_law_thing"] spWhole := by
  refine .mk' F sc_l_mr_whole (fun _ _ _ _ _ _ us hl => match us, hl with | [_], _ => rfl) (fun vs H Q E h => ?_) (fun f cdv A outer s H vs Q E hr h => ?_)
  · unfold spWhole at h
    obtain ⟨v, d, rfl, _⟩ := h
    rfl
  · unfold spWhole at h
    obtain ⟨v, d, rfl, hv, q⟩ := h
    refine ⟨_, PSs.nox (pss_one (ps_ret (pe_and (pe_callB call_is (by rfl) B.isinstance boot_isinstance (pa_cons (pv 0) (pa_cons (pe_cls (n := "int") rfl B.int (by decide +kernel)) pa_nil))) (pe_one (pe_not (pe_callB call_is (by rfl) B.isinstance boot_isinstance (pa_cons (pv 0) (pa_cons (pe_cls (n := "bool") rfl B.bool (by decide +kernel)) pa_nil)))))))), ?_⟩
    refine ⟨_, rfl, isi_dv hv (kit_int d) ⟨_, rfl, ?_⟩⟩
    cases d with
    | int i => exact iteT ⟨_, rfl, isi_dv hv (kit_bool _) ⟨_, rfl, q⟩⟩
    | bl b => exact iteT ⟨_, rfl, isi_dv hv (kit_bool _) ⟨_, rfl, q⟩⟩
    | _ => exact iteF q
@[irreducible] def spSame : Sp := fun vs H Q _ => ∃ (v u : V) (xs ys : List Int), vs = [v, u] ∧ Row H v xs ∧ Row H u ys ∧ xs.length < 1000000 ∧ ∀ H', Same H H' → Q (.bl (decide (xs = ys))) H'
theorem spSame_i {H : Hp} {v u : V} {xs ys : List Int} {Q : VK} {E : XK} (h : Row H v xs) (h' : Row H u ys) (hl : xs.length < 1000000) (q : ∀ H', Same H H' → Q (.bl (decide (xs = ys))) H') : spSame [v, u] H Q E := by
  unfold spSame
  exact ⟨v, u, xs, ys, rfl, h, h', hl, q⟩
theorem ok_same (B : Bt mg) (F : Fd K mg "_law_mr_same" s_l_mr_same) (D_l_mr_whole : Df P w K mg base CX0 1 "_law_mr_whole" ["_law_thing"] spWhole) : Df P w K mg base CX0 2 "_law_mr_same" ["_law_found", "_law_due"] spSame := by
  refine .mk' F sc_l_mr_same (fun _ _ _ _ _ _ us hl => match us, hl with | [_, _], _ => rfl) (fun vs H Q E h => ?_) (fun f cdv A outer s H vs Q E hr h => ?_)
  · unfold spSame at h
    obtain ⟨v, u, xs, ys, rfl, _⟩ := h
    rfl
  · unfold spSame at h
    obtain ⟨v, u, xs, ys, rfl, h1, h2, hl, q⟩ := h
    have nd := sc_l_mr_same.nd
    refine ⟨_, PSs.nox (pss_one (ps_ret (pe_and (pe_callB call_is (by rfl) B.isinstance boot_isinstance (pa_cons (pv 0) (pa_cons (pe_cls (n := "tuple") rfl B.tuple (by decide +kernel)) pa_nil))) (pe_and (pe_cmpR (op_eqD hr.units) (pe_lc (own := [("_law_item", 2)]) (g := gName 2) rfl nd (pi_tup (pv 0)) (blkOk_by (own := [("_law_item", 2)]) (N := ["_law_found", "_law_due", "_law_item"]) (sc := defScope s_l_mr_same) (by decide +kernel))
        (fun _ _ _ _ _ => pg_name (i := 2) nd rfl (Or.inl rfl)) (fun _ _ _ _ _ => pts_one (pt_not (pt_val (pe_df (D_l_mr_whole.mono (by decide)) hr rfl pass0 (pa_cons (pv 2) pa_nil))))) (fun _ _ _ _ _ => pe_int)) (pe_lst pa_nil) (nomark _)) (pe_one (pe_cmpR (op_eqD hr.units) (pv 0) (pv 1) (nomark _))))))), ?_⟩
    refine ⟨_, rfl, isi_dv h1.dv (kit_tuple _) ⟨_, rfl, iteT ?_⟩⟩
    obtain ⟨a, rfl, ha⟩ := h1
    refine ⟨_, rfl, a, rfl, ⟨iV xs, .inl (.inl ha)⟩, fun D hD => ?_⟩
    refine lc_sel (fun _ => false) (fun _ _ _ => True) (wk_tup (K := K) (.inl (.inl ha))) hD (by rw [PySem.sizeLine_eq]; simp [iV]; omega) (fun _ => rfl) (fun _ _ _ _ _ h => h) (fun i H3 hi s3 Q' q' => ?_) (fun i H3 hi hk s3 Q' q' => by cases hk) (fun H3 zs s3 g1 g2 g3 => ?_)
    · rw [iV_getD (by simpa [iV] using hi)]
      exact ⟨_, rfl, spWhole_i (.int _) ⟨_, rfl, q' _ (Same.refl _)⟩⟩
    · have ez : zs = [] := by
        refine List.length_eq_zero_iff.mp ?_
        rw [g2]
        simp [sel]
      subst ez
      refine ⟨Nat.zero_le _, fun l hl2 => eqD_int (t := false) (xs := []) (ys := []) (.lst (SqL.of (by rw [upd_ne (ne_of_none g1 hl2)]; exact g1))) (.lst (SqL.of upd_same)) ⟨_, rfl, iteT ?_⟩⟩
      have s4 : Same H (upd H3 l (.lst [])) := s3.trans (Same.new hl2)
      refine ⟨_, rfl, _, rfl, ?_⟩
      exact eqD_int (t := true) (Row.same s4 ⟨a, rfl, ha⟩).intD (h2.same s4).intD (q _ s4)
end
end My
namespace My
open PySem PySem.Spec PyProof.Rows L2 SX
/-- data that stay while all but the state and the tables stays -/
def DVk (u : Sd) (H : Hp) (v : V) (d : Dt) : Prop := ∀ H', (∀ a o, a ≠ u.s → a ≠ u.g → (∀ ps, o ≠ .tbl ps) → H a = some o → H' a = some o) → DV H' v d
theorem dvk_base {u : Sd} {H : Hp} {v : V} {d : Dt} (h : ∀ H', DV H' v d) : DVk u H v d := fun H' _ => h H'
theorem dvk_tup {u : Sd} {H : Hp} {t : Addr} {xs : List V} {ds : List Dt} {k : Nat} (d : Dst H u k) (h : H t = some (.tup xs)) (hv : ∀ H', DVs H' xs ds) : DVk u H (.ref t) (.tup ds) := fun H' e => by
  obtain ⟨r, tt, gs, cs, h1, h2, _⟩ := d
  refine .tup (e t _ (fun z => ?_) (fun z => ?_) (fun _ z => by cases z) h) (hv H')
  · rw [z, h1] at h; cases h
  · rw [z, h2] at h; cases h
theorem dvk_lst {u : Sd} {H : Hp} {t : Addr} {xs : List V} {ds : List Dt} (o1 : t ≠ u.s) (o2 : t ≠ u.g) (h : H t = some (.lst xs)) (hv : ∀ H', DVs H' xs ds) : DVk u H (.ref t) (.lst ds) := fun H' e =>
  .lst (e t _ o1 o2 (fun _ z => by cases z) h) (hv H')
section
variable {P : Program} {w : World} {K : PySem.W.Frag} {mg : Str → Option Value} {base : Heap}
/-! ### _law_mk_bad_deeds -/
@[irreducible] def spBadDeeds : Sp := fun vs H Q _ => ∃ (u : Sd) (k : Nat), vs = [.ref u.s] ∧ Dst H u (k + 1) ∧ ∀ (v : V) (d : Dt) H', Kp u H H' → Dst H' u k → DVk u H' v d → betweenD d 1 4 = false → Q v H'
theorem spBadDeeds_i {H : Hp} {u : Sd} {k : Nat} {Q : VK} {E : XK} (h : Dst H u (k + 1)) (q : ∀ (v : V) (d : Dt) H', Kp u H H' → Dst H' u k → DVk u H' v d → betweenD d 1 4 = false → Q v H') : spBadDeeds [.ref u.s] H Q E := by
  unfold spBadDeeds
  exact ⟨u, k, rfl, h, q⟩
theorem ok_bad_deeds (F : Fd K mg "_law_mk_bad_deeds" s_l_mk_bad_deeds) (D_l_pick : Df P w K mg base CX0 3 "_law_pick" ["_law_state", "_law_some"] (spPick K)) : Df P w K mg base CX0 4 "_law_mk_bad_deeds" ["_law_state"] spBadDeeds := by
  refine .mk' F sc_l_mk_bad_deeds (fun _ _ _ _ _ _ us hl => match us, hl with | [_], _ => rfl) (fun vs H Q E h => ?_) (fun f cdv A outer s H vs Q E hr h => ?_)
  · unfold spBadDeeds at h
    obtain ⟨u, k, rfl, _⟩ := h
    rfl
  · unfold spBadDeeds at h
    obtain ⟨u, k, rfl, hd, q⟩ := h
    have nd := sc_l_mk_bad_deeds.nd
    refine ⟨_, PSs.nox (pss_one (ps_ret (pe_df (D_l_pick.mono (by decide)) hr rfl pass0 (pa_cons (pv 0) (pa_cons (pe_lst (pa_cons (pe_non) (pa_cons (pe_int) (pa_cons (pe_int) (pa_cons (pe_un un_neg (pe_int)) (pa_cons (pe_bl) (pa_cons (pe_str) (pa_cons (pe_tup (pa_cons (pe_int) pa_nil)) (pa_cons (pe_lst (pa_cons (pe_int) pa_nil)) pa_nil))))))))) pa_nil))))), ?_⟩
    refine ⟨_, rfl, 1, rfl, by rw [PySem.sizeLine_eq]; simp, fun t ht => ⟨by rw [PySem.sizeLine_eq]; simp, fun l hl => ⟨by rw [PySem.sizeLine_eq]; simp, fun L hL => ?_⟩⟩⟩
    have s1 : Same H (upd H t (.tup [.int 2])) := Same.new ht
    have s2 := Same.new (o := .lst [.int 1]) hl
    have s3 := Same.new (o := .lst [V.non, .int 0, .int 5, .int (-1), .bl true, .str (PySem.Str.ofString "2"), .ref t, .ref l]) hL
    have d1 := hd.same s1
    have d2 := d1.same s2
    have d3 := d2.same s3
    have ol := d1.off hl
    have oL := d2.off hL
    refine spPick_i oL.1 oL.2.1 (SqL.of upd_same) (by simp) (by simp) d3 fun i v H' hv kp ds => ?_
    have kpa : Kp u H H' := (Kp.of ((s1.trans s2).trans s3)).trans kp
    have et : H' t = some (.tup [.int 2]) := (kp.tst d3) _ _ (s3 _ _ (s2 _ _ upd_same))
    have el : H' l = some (.lst [.int 1]) := kp l _ ol.1 ol.2.1 (s3 _ _ upd_same)
    have hi : i < 8 := (List.getElem?_eq_some_iff.mp hv).1
    match i, hi with
    | 0, _ => cases hv; exact q _ _ H' kpa ds (dvk_base fun _ => .non) rfl
    | 1, _ => cases hv; exact q _ _ H' kpa ds (dvk_base fun _ => .int _) rfl
    | 2, _ => cases hv; exact q _ _ H' kpa ds (dvk_base fun _ => .int _) rfl
    | 3, _ => cases hv; exact q _ _ H' kpa ds (dvk_base fun _ => .int _) rfl
    | 4, _ => cases hv; exact q _ _ H' kpa ds (dvk_base fun _ => .bl _) rfl
    | 5, _ => cases hv; exact q _ _ H' kpa ds (dvk_base fun _ => .str _) rfl
    | 6, _ => cases hv; exact q _ _ H' kpa ds (dvk_tup ds et fun _ => (.cons (.int _) .nil)) rfl
    | 7, _ => cases hv; exact q _ _ H' kpa ds (dvk_lst ol.1 ol.2.1 el fun _ => .cons (.int _) .nil) rfl
/-! ### _law_mk_bad_row -/
@[irreducible] def spBadRow : Sp := fun vs H Q _ => ∃ (u : Sd) (k : Nat) (n : Nat), vs = [.ref u.s, .int n] ∧ 1 ≤ n ∧ n ≤ 4 ∧ Dst H u (k + 1) ∧ ∀ (v : V) (d : Dt) H', Kp u H H' → Dst H' u k → DVk u H' v d → rowD n d = false → plainRowsD n d = false → (∀ ds, d = .tup ds → ∀ e ∈ ds, Short e) → Q v H'
theorem spBadRow_i {H : Hp} {u : Sd} {k n : Nat} {Q : VK} {E : XK} (h1 : 1 ≤ n) (h2 : n ≤ 4) (h : Dst H u (k + 1)) (q : ∀ (v : V) (d : Dt) H', Kp u H H' → Dst H' u k → DVk u H' v d → rowD n d = false → plainRowsD n d = false → (∀ ds, d = .tup ds → ∀ e ∈ ds, Short e) → Q v H') : spBadRow [.ref u.s, .int n] H Q E := by
  unfold spBadRow
  exact ⟨u, k, n, rfl, h1, h2, h, q⟩
theorem bad_row {n : Int} {ds : List Dt} (h : ∃ d ∈ ds, letterD n d = false) : rowD n (.tup ds) = false := by
  obtain ⟨d, hd, h⟩ := h
  show (_ && ds.all (letterD n)) = false
  rw [Bool.and_eq_false_iff]
  refine .inr ?_
  rw [List.all_eq_false]
  exact ⟨d, hd, by rw [h]; decide⟩
theorem let0 (n : Int) : letterD n (.int 0) = false := by
  show (_ && false) = false
  exact Bool.and_false _
theorem letOut {n x : Int} (h : x < 0 - n ∨ n < x) : letterD n (.int x) = false := by
  show ((decide (0 - n ≤ x) && decide (x ≤ n)) && _) = false
  rcases h with h | h
  · rw [decide_eq_false (show ¬ 0 - n ≤ x by omega)]
    rfl
  · rw [decide_eq_false (show ¬ x ≤ n by omega), Bool.and_false]
    rfl
theorem bad_rows {n : Int} {d : Dt} {ds : List Dt} (h : plainRowD n d = false) : plainRowsD n (.tup (d :: ds)) = false := by
  show (_ && (d :: ds).all (plainRowD n)) = false
  rw [Bool.and_eq_false_iff]
  refine .inr ?_
  rw [List.all_cons, h]
  rfl
theorem dvs_rep {H : Hp} (x : Int) : ∀ m : Nat, DVs H (List.replicate m (.int x)) (List.replicate m (.int x))
  | 0 => .nil
  | m + 1 => .cons (.int x) (dvs_rep x m)
theorem flat_one (m : Nat) (v : V) : (List.replicate m [v]).flatten = List.replicate m v := by
  induction m with
  | zero => rfl
  | succ m ih => rw [List.replicate_succ, List.flatten_cons, ih]; rfl
theorem ok_bad_row (F : Fd K mg "_law_mk_bad_row" s_l_mk_bad_row) (D_l_pick : Df P w K mg base CX0 3 "_law_pick" ["_law_state", "_law_some"] (spPick K)) : Df P w K mg base CX0 4 "_law_mk_bad_row" ["_law_state", "_law_deeds"] spBadRow := by
  refine .mk' F sc_l_mk_bad_row (fun _ _ _ _ _ _ us hl => match us, hl with | [_, _], _ => rfl) (fun vs H Q E h => ?_) (fun f cdv A outer s H vs Q E hr h => ?_)
  · unfold spBadRow at h
    obtain ⟨u, k, n, rfl, _⟩ := h
    rfl
  · unfold spBadRow at h
    obtain ⟨u, k, n, rfl, n1, n2, hd, q⟩ := h
    have nd := sc_l_mk_bad_row.nd
    refine ⟨_, PSs.nox (pss_cons (ps_set (i := 2) nd rfl (Or.inl rfl) (pe_lst (pa_cons (pe_non) (pa_cons (pe_lst (pa_cons (pe_int) pa_nil)) (pa_cons (pe_int) (pa_cons (pe_str) (pa_cons (pe_tup (pa_cons (pe_int) pa_nil)) (pa_cons (pe_tup (pa_cons (pe_op op_add (pv 1) (pe_int)) pa_nil)) (pa_cons (pe_tup (pa_cons (pe_int) (pa_cons (pe_int) pa_nil))) (pa_cons (pe_tup (pa_cons (pe_bl) pa_nil)) (pa_cons (pe_tup (pa_cons (pe_str) pa_nil)) (pa_cons (pe_tup (pa_cons (pe_int) (pa_cons (pe_non) pa_nil))) (pa_cons (pe_tup (pa_cons (pe_op op_sub (pe_op op_sub (pe_int) (pv 1)) (pe_int)) pa_nil)) (pa_cons (pe_op op_repT (pe_tup (pa_cons (pe_int) pa_nil)) (pe_int)) pa_nil))))))))))))))
      (pss_one (ps_ret (pe_df (D_l_pick.mono (by decide)) hr rfl pass0 (pa_cons (pv 0) (pa_cons (pv 2) pa_nil)))))), ?_⟩
    refine ⟨by rw [PySem.sizeLine_eq]; simp, fun l hl => ?_⟩
    have s0 := Same.new (o := .lst [.int 1]) hl
    have ol := hd.off hl
    refine ⟨by rw [PySem.sizeLine_eq]; simp, fun t1 h1 => ?_⟩
    have s1 := Same.new (o := .tup [.int 0]) h1
    refine ⟨_, rfl, _, _, rfl, rfl, by rw [PySem.sizeLine_eq]; simp, fun t2 h2 => ?_⟩
    have s2 := Same.new (o := .tup [.int ((n : Int) + 1)]) h2
    refine ⟨by rw [PySem.sizeLine_eq]; simp, fun t3 h3 => ?_⟩
    have s3 := Same.new (o := .tup [.int 1, .int 0]) h3
    refine ⟨by rw [PySem.sizeLine_eq]; simp, fun t4 h4 => ?_⟩
    have s4 := Same.new (o := .tup [.bl true]) h4
    refine ⟨by rw [PySem.sizeLine_eq]; simp, fun t5 h5 => ?_⟩
    have s5 := Same.new (o := .tup [.str (PySem.Str.ofString "1")]) h5
    refine ⟨by rw [PySem.sizeLine_eq]; simp, fun t6 h6 => ?_⟩
    have s6 := Same.new (o := .tup [.int 1, .non]) h6
    refine ⟨_, rfl, _, _, rfl, rfl, _, _, rfl, rfl, by rw [PySem.sizeLine_eq]; simp, fun t7 h7 => ?_⟩
    have s7 := Same.new (o := .tup [.int (0 - (n : Int) - 1)]) h7
    refine ⟨by rw [PySem.sizeLine_eq]; simp, fun t8 h8 => ⟨t8, 201, [.int 1], rfl, rfl, .inl (.inl upd_same), by simp, by omega, by omega, by simp, fun t9 h9 => ?_⟩⟩
    have s8 := Same.new (o := .tup [.int 1]) h8
    have s9 := Same.new (o := .tup (List.replicate (201 : Int).toNat [V.int 1]).flatten) h9
    refine ⟨by rw [PySem.sizeLine_eq]; simp, fun L hL => ?_⟩
    have s10 := Same.new (o := .lst [V.non, .ref l, .int 5, .str (PySem.Str.ofString "a"), .ref t1, .ref t2, .ref t3, .ref t4, .ref t5, .ref t6, .ref t7, .ref t9]) hL
    have c9 := s9.trans s10
    have c8 := s8.trans c9
    have c7 := s7.trans c8
    have c6 := s6.trans c7
    have c5 := s5.trans c6
    have c4 := s4.trans c5
    have c3 := s3.trans c4
    have c2 := s2.trans c3
    have c1 := s1.trans c2
    have c0 := s0.trans c1
    have dL := hd.same c0
    have oL : Off u L := (hd.same (s0.trans (s1.trans (s2.trans (s3.trans (s4.trans (s5.trans (s6.trans (s7.trans (s8.trans s9)))))))))).off hL
    refine ⟨_, rfl, _, rfl, spPick_i oL.1 oL.2.1 (SqL.of upd_same) (by simp) (by simp) dL fun i v H' hv kp ds => ?_⟩
    have kpa : Kp u H H' := (Kp.of c0).trans kp
    have tt : ∀ {t : Addr} {xs : List V} {Hm : Hp}, Hm t = some (.tup xs) → Same Hm _ → H' t = some (.tup xs) := fun e c => (kp.tst dL) _ _ (c _ _ e)
    have hi : i < 12 := (List.getElem?_eq_some_iff.mp hv).1
    match i, hi with
    | 0, _ => cases hv; exact q _ _ H' kpa ds (dvk_base fun _ => .non) rfl rfl (fun ds e => by cases e)
    | 1, _ => cases hv; exact q _ _ H' kpa ds (dvk_lst ol.1 ol.2.1 (kp l _ ol.1 ol.2.1 (c1 _ _ upd_same)) fun _ => .cons (.int _) .nil) rfl rfl (fun ds e => by cases e)
    | 2, _ => cases hv; exact q _ _ H' kpa ds (dvk_base fun _ => .int _) rfl rfl (fun ds e => by cases e)
    | 3, _ => cases hv; exact q _ _ H' kpa ds (dvk_base fun _ => .str _) rfl rfl (fun ds e => by cases e)
    | 4, _ => cases hv; exact q _ _ H' kpa ds (dvk_tup ds (tt upd_same c2) fun _ => (.cons (.int 0) .nil)) (bad_row ⟨.int 0, by simp, let0 _⟩) (bad_rows rfl) (fun ds e d hd => by cases e; simp at hd; subst hd; trivial)
    | 5, _ => cases hv; exact q _ _ H' kpa ds (dvk_tup ds (tt upd_same c3) fun _ => (.cons (.int _) .nil)) (bad_row ⟨_, List.mem_cons_self, letOut (by omega)⟩) (bad_rows rfl) (fun ds e d hd => by cases e; simp at hd; subst hd; trivial)
    | 6, _ => cases hv; exact q _ _ H' kpa ds (dvk_tup ds (tt upd_same c4) fun _ => (.cons (.int 1) (.cons (.int 0) .nil))) (bad_row ⟨.int 0, by simp, let0 _⟩) (bad_rows rfl) (fun ds e d hd => by cases e; simp at hd; rcases hd with rfl | rfl <;> trivial)
    | 7, _ => cases hv; exact q _ _ H' kpa ds (dvk_tup ds (tt upd_same c5) fun _ => (.cons (.bl _) .nil)) (bad_row ⟨_, List.mem_cons_self, rfl⟩) (bad_rows rfl) (fun ds e d hd => by cases e; simp at hd; subst hd; trivial)
    | 8, _ => cases hv; exact q _ _ H' kpa ds (dvk_tup ds (tt upd_same c6) fun _ => (.cons (.str _) .nil)) (bad_row ⟨_, List.mem_cons_self, rfl⟩) (bad_rows rfl) (fun ds e d hd => by cases e; simp at hd; subst hd; trivial)
    | 9, _ => cases hv; exact q _ _ H' kpa ds (dvk_tup ds (tt upd_same c7) fun _ => (.cons (.int 1) (.cons .non .nil))) (bad_row ⟨.non, by simp, rfl⟩) (bad_rows rfl) (fun ds e d hd => by cases e; simp at hd; rcases hd with rfl | rfl <;> trivial)
    | 10, _ => cases hv; exact q _ _ H' kpa ds (dvk_tup ds (tt upd_same c8) fun _ => (.cons (.int _) .nil)) (bad_row ⟨_, List.mem_cons_self, letOut (by omega)⟩) (bad_rows rfl) (fun ds e d hd => by cases e; simp at hd; subst hd; trivial)
    | 11, _ =>
      cases hv
      have e9 : H' t9 = some (.tup (List.replicate 201 [V.int 1]).flatten) := (kp.tst dL) _ _ (s10 _ _ upd_same)
      rw [flat_one] at e9
      refine q _ _ H' kpa ds (dvk_tup ds e9 fun _ => (dvs_rep 1 201)) ?_ (bad_rows (ds := List.replicate 200 (.int 1)) (d := .int 1) rfl) (fun ds e d hd => ?_)
      · show (decide ((List.replicate 201 (Dt.int 1)).length ≤ 200) && (List.replicate 201 (Dt.int 1)).all (letterD n)) = false
        rw [List.length_replicate]
        rfl
      · cases e
        rw [(List.mem_replicate.mp hd).2]
        trivial
end
end My
namespace My
open PySem PySem.Spec PyProof.Rows L2 SX
theorem str_abcd : (PySem.Str.ofString "abcd") = S [97, 98, 99, 100] := by decide +kernel
theorem str_ABCD : (PySem.Str.ofString "ABCD") = S [65, 66, 67, 68] := by decide +kernel
/-! ### lists of texts, and the empty one -/
theorem dpa_str {K : PySem.W.Frag} {H : Hp} : ∀ xs : List Str, DpAll K H (xs.map V.str) (xs.map PyData.str)
  | [] => .nil
  | x :: r => .cons (.str x) (dpa_str r)
theorem canAll_str : ∀ xs : List Str, (∀ x ∈ xs, PyData.strOk x = true) → PyData.canLayAll0 (xs.map PyData.str) = true
  | [], _ => by simp [PyData.canLayAll0]
  | x :: r, h => by
    rw [List.map_cons, PyData.canLayAll0, canAll_str r fun y hy => h y (by simp [hy])]
    have := h x (by simp)
    simp [PyData.canLay0, this]
theorem strOk_S {l : List Nat} (h : ∀ c ∈ l, c < 1114112) : PyData.strOk (S l) = true := by
  unfold PyData.strOk
  show l.toArray.all _ = true
  rw [List.all_toArray, List.all_eq_true]
  intro c hc
  exact decide_eq_true (h c hc)
theorem signC_lt {x : Int} (h1 : -4 ≤ x) (h2 : x ≤ 4) : signC x < 1114112 := by
  unfold signC
  split <;> omega
theorem depthAll_str : ∀ xs : List Str, PyData.depthAll (xs.map PyData.str) ≤ 1
  | [] => by simp [PyData.depthAll]
  | x :: r => by
    rw [List.map_cons, PyData.depthAll]
    exact Nat.max_le.mpr ⟨by simp [PyData.depth], depthAll_str r⟩
theorem neD_strs {K : PySem.W.Frag} {H : Hp} {a b : Addr} {xs : List Str} {Q : VK} (hx : ∀ x ∈ xs, PyData.strOk x = true) (h : SqL K H a (xs.map V.str)) (h' : SqL K H b []) (q : Q (.bl (!decide (xs = []))) H) : rNeD K (.ref a) (.ref b) H Q := by
  refine ⟨.list (xs.map .str), .list [], .lst h (dpa_str xs), .lst h' .nil, ?_, ?_, ?_⟩
  · unfold SeqAt.shaped
    have := depthAll_str xs
    rw [PyData.canLay0, canAll_str xs hx, PyData.depth]
    simp; omega
  · unfold SeqAt.shaped
    simp [PyData.canLay0, PyData.canLayAll0, PyData.depth, PyData.depthAll]
  · have e : PyData.eqv (.list (xs.map .str)) (.list []) = decide (xs = []) := by
      cases xs <;> simp [PyData.eqv, PyData.eqvAll]
    rw [e]
    exact q
section
variable {P : Program} {w : World} {K : PySem.W.Frag} {mg : Str → Option Value} {base : Heap}
/-! ### _law_mr_text -/
theorem ok_ltext (F : Fd K mg "_law_mr_text" s_l_mr_text) : Df P w K mg base CX0 1 "_law_mr_text" ["_law_row"] spText := by
  refine .mk' F sc_l_mr_text (fun _ _ _ _ _ _ us hl => match us, hl with | [_], _ => rfl) (fun vs H Q E h => ?_) (fun f cdv A outer s H vs Q E hr h => ?_)
  · unfold spText at h
    obtain ⟨v, xs, rfl, _⟩ := h
    rfl
  · unfold spText at h
    obtain ⟨v, xs, rfl, ⟨a, rfl, ha⟩, hx, hl, q⟩ := h
    have nd := sc_l_mr_text.nd
    refine ⟨_, PSs.nox (pss_cons (ps_setLc (i := 1) (own := [("_law_letter", 2)]) (g := gName 2) rfl nd rfl rfl (sw_true rfl rfl rfl (by decide +kernel)) (pi_tup (pv 0)) (blkOk_by (own := [("_law_letter", 2)]) (N := ["_law_row", "_law_signs", "_law_letter"]) (sc := defScope s_l_mr_text) (by decide +kernel))
        (fun _ _ _ _ _ => pg_name (i := 2) nd rfl (Or.inl rfl)) (fun _ _ _ _ _ => pts_nil) (fun _ _ _ _ _ => pe_ifExp (pt_cmpR op_gt (pv 2) (pe_int) (nomark _)) (pe_ix ix_str (pe_str) (pe_op op_sub (pv 2) (pe_int)) (fun _ _ => rfl)) (pe_ix ix_str (pe_str) (pe_op op_sub (pe_op op_sub (pe_int) (pv 2)) (pe_int)) (fun _ _ => rfl))))
      (pss_one (ps_ret (pe_ifExp (pt_cmpR (op_neD hr.units) (pv 1) (pe_lst pa_nil) (nomark _)) (pe_join (pe_str) (pv 1)) (pe_str))))), ?_⟩
    refine ⟨_, rfl, a, rfl, ⟨iV xs, .inl (.inl ha)⟩, fun D hD => ?_⟩
    refine lc_map (fun k v _ => v = .str (S [signC (xs.getD k 0)])) (wk_tup (.inl (.inl ha))) hD (by rw [PySem.sizeLine_eq]; simp [iV]; omega) (fun _ => rfl) (fun _ _ _ _ _ h => h) (fun i H' hi e Q' q' => ?_) (fun H' ys e h3 h4 h5 => ?_)
    · simp only [iV, List.length_map] at hi
      have := hx (xs.getD i 0) (by rw [List.getD_eq_getElem?_getD, List.getElem?_eq_getElem hi]; exact List.getElem_mem hi)
      rw [iV_getD hi]
      have q2 := q' _ _ (Same.refl _) rfl
      generalize xs.getD i 0 = x at this q2
      obtain ⟨x0, x1, x2⟩ := this
      refine ⟨_, rfl, _, _, rfl, rfl, _, rfl, ?_⟩
      refine ite_of (fun h => ?_) (fun h => ?_)
      · have h : 0 < x := of_decide_eq_true h
        refine ⟨_, rfl, _, _, rfl, rfl, _, _, signC x, rfl, rfl, by decide +kernel, ?_, q2⟩
        rw [str_abcd]
        obtain rfl | rfl | rfl | rfl : x = 1 ∨ x = 2 ∨ x = 3 ∨ x = 4 := by omega
        all_goals rfl
      · have h : ¬ 0 < x := of_decide_eq_false h
        refine ⟨_, rfl, _, _, rfl, rfl, _, _, rfl, rfl, _, _, signC x, rfl, rfl, by decide +kernel, ?_, q2⟩
        rw [str_ABCD]
        obtain rfl | rfl | rfl | rfl : x = -1 ∨ x = -2 ∨ x = -3 ∨ x = -4 := by omega
        all_goals rfl
    · have ey := strs_of (f := fun k => [signC (xs.getD k 0)]) (n := xs.length) (by simpa [iV] using h4) h5
      rw [map_range_getD xs 0 fun x => [signC x]] at ey
      rw [ey] at h3
      have sok : ∀ y ∈ (xs.map fun x => [signC x]).map S, PyData.strOk y = true := fun y hy => by
        obtain ⟨l, hl3, rfl⟩ := List.mem_map.mp hy
        obtain ⟨x, hx3, rfl⟩ := List.mem_map.mp hl3
        have := hx x hx3
        exact strOk_S fun c hc => by
          rw [List.mem_singleton.mp hc]
          exact signC_lt this.2.1 this.2.2
      have ne : decide ((xs.map fun x => [signC x]).map S = []) = decide (xs = []) := by
        rw [decide_eq_decide, List.map_eq_nil_iff, List.map_eq_nil_iff]
      refine ⟨_, rfl, Nat.zero_le _, fun l hl2 => neD_strs sok (SqL.of (by rw [upd_ne (ne_of_none h3 hl2)]; exact h3)) (SqL.of upd_same) ⟨_, rfl, ?_⟩⟩
      have s2 : Same H' (upd H' l (.lst [])) := Same.new hl2
      rw [ne]
      refine ite_of (fun h => ?_) (fun h => ?_)
      · have h : xs ≠ [] := by simpa using h
        refine ⟨⟨_, rfl⟩, _, rfl, _, D, (xs.map fun x => [signC x]).map S, rfl, rfl, .inl (SqL.of (s2 _ _ h3)), ?_, ?_⟩
        · rw [lens, str_empty]
          have : ∀ xs : List Int, ((xs.map fun x => [signC x]).map (·.length)).sum = xs.length := by
            intro xs
            induction xs with
            | nil => rfl
            | cons x r ih => rw [List.map_cons, List.map_cons, List.sum_cons, ih]; simp; omega
          rw [this]
          simp [Str.length]
          omega
        · rw [str_empty, join_S, joinL_ones]
          have := q _ (e.trans s2)
          rw [textC, if_neg h] at this
          exact this
      · have h : xs = [] := by simpa using h
        have := q _ (e.trans s2)
        rw [textC, if_pos h] at this
        show Q (.str (PySem.Str.ofString "1")) _
        rw [str_one]
        exact this
/-! ### _law_mr_letter -/
theorem ok_lletter (B : Bt mg) (F : Fd K mg "_law_mr_letter" s_l_mr_letter) : Df P w K mg base CX0 1 "_law_mr_letter" ["_law_deeds", "_law_sign"] spLetterOf := by
  refine .mk' F sc_l_mr_letter (fun _ _ _ _ _ _ us hl => match us, hl with | [_, _], _ => rfl) (fun vs H Q E h => ?_) (fun f cdv A outer s H vs Q E hr h => ?_)
  · unfold spLetterOf at h
    obtain ⟨n, c, rfl, _⟩ := h
    rfl
  · unfold spLetterOf at h
    obtain ⟨n, c, rfl, hn, q⟩ := h
    have nd := sc_l_mr_letter.nd
    refine ⟨_, PSs.nox (pss_cons (ps_for PassesOwn.never rfl (pi_range2 (by rfl) B.range (pa_cons (pe_int) (pa_cons (pe_op op_add (pv 0) (pe_int)) pa_nil))) (pg_name (i := 2) nd rfl (Or.inl rfl))
      (pss_cons (ps_if (pt_cmpR op_eq (pv 1) (pe_ix ix_str (pe_str) (pe_op op_sub (pv 2) (pe_int)) (fun _ _ => rfl)) (nomark _))
      (pss_one (ps_ret (pv 2))) (pss_nil))
      (pss_one (ps_if (pt_cmpR op_eq (pv 1) (pe_ix ix_str (pe_str) (pe_op op_sub (pv 2) (pe_int)) (fun _ _ => rfl)) (nomark _))
      (pss_one (ps_ret (pe_op op_sub (pe_int) (pv 2)))) (pss_nil)))))
      (pss_one (ps_ret (pe_int)))), ?_⟩
    refine ⟨_, rfl, _, _, rfl, rfl, _, _, rfl, ⟨by omega, by omega, by omega, by omega⟩, ?_⟩
    rw [show ((n : Int) + 1 - 1).toNat = n by omega]
    refine for_wk (wk_range (H1 := noHp)) (fun i σ H' => ∃ x2, σ = [some (.int n), some (.str (S [c])), x2] ∧ H' = H ∧ ∀ j, j < i → c ≠ 97 + j ∧ c ≠ 65 + j) ⟨_, rfl, rfl, fun j h => absurd h (by omega)⟩ (fun i σ H' _ => Same.nil H') ?_ ?_
    · rintro i σ H1 hi ⟨x2, rfl, rfl, nj⟩
      have ge (a : Nat) (l : List Nat) (hl : l = [a, a + 1, a + 2, a + 3]) : atI (S l).cps.toList (1 + (i : Int) - 1) = some (a + i) := by
        subst hl
        obtain rfl | rfl | rfl | rfl : i = 0 ∨ i = 1 ∨ i = 2 ∨ i = 3 := by omega
        all_goals rfl
      refine ⟨_, rfl, _, rfl, _, _, rfl, rfl, _, _, 97 + i, rfl, rfl, by decide +kernel, by rw [str_abcd]; exact ge 97 _ rfl, rfl, _, rfl, ?_⟩
      rw [show decide (V.str (S [c]) = V.str { cps := #[97 + i] }) = decide (c = 97 + i) from by
        rw [show ({ cps := #[97 + i] } : Str) = S [97 + i] from rfl, decS]
        simp]
      refine ite_of (fun h => ?_) (fun h => ?_)
      · have h : c = 97 + i := of_decide_eq_true h
        refine ⟨_, rfl, ?_⟩
        have e : letterC n c = 1 + (i : Int) := by rw [letterC, if_pos (by omega)]; omega
        rw [e] at q
        exact q
      · have h : c ≠ 97 + i := of_decide_eq_false h
        refine ⟨_, rfl, _, rfl, _, _, rfl, rfl, _, _, 65 + i, rfl, rfl, by decide +kernel, by rw [str_ABCD]; exact ge 65 _ rfl, rfl, _, rfl, ?_⟩
        rw [show decide (V.str (S [c]) = V.str { cps := #[65 + i] }) = decide (c = 65 + i) from by
          rw [show ({ cps := #[65 + i] } : Str) = S [65 + i] from rfl, decS]
          simp]
        refine ite_of (fun h2 => ?_) (fun h2 => ?_)
        · have h2 : c = 65 + i := of_decide_eq_true h2
          refine ⟨_, rfl, _, _, rfl, rfl, ?_⟩
          have e : letterC n c = 0 - (1 + (i : Int)) := by rw [letterC, if_neg (by omega), if_pos (by omega)]; omega
          rw [e] at q
          exact q
        · have h2 : c ≠ 65 + i := of_decide_eq_false h2
          refine ⟨_, rfl, rfl, fun j hj => ?_⟩
          by_cases hji : j < i
          · exact nj j hji
          · obtain rfl : j = i := by omega
            exact ⟨h, h2⟩
    · rintro σ H1 ⟨x2, rfl, rfl, nj⟩
      have e : letterC n c = 0 := by
        rw [letterC, if_neg, if_neg]
        · rintro ⟨h1, h2⟩
          exact (nj (c - 65) (by omega)).2 (by omega)
        · rintro ⟨h1, h2⟩
          exact (nj (c - 97) (by omega)).1 (by omega)
      rw [e] at q
      exact q
end
end My
namespace My
open PySem PySem.Spec PyProof.Rows L2 SX
theorem pi_pickE {K : PySem.W.Frag} {H0 : Hp} {a : Addr} {xs : List V} (h : SqS K H0 a xs) : ∃ wi : TA → TI,
    (∀ {X : Cx} {e : Expr} {ta : TA} {p pos tpos : Pos} {elts : List Expr} {kk : Nat}, X.K = K → Gl X "enumerate" → X.mg "enumerate" = none → PA X [e] ta → (hs : starEach [e] X.env = [(false, eval e X.env)] := by rfl) → PI X (.Tuple elts kk tpos) (.Call (.Name "enumerate" p) [e] [] pos) (wi ta)) ∧
    ∀ (ta : TA) (σ : L2.St) (H1 : Hp) (R : It → Hp → Prop), Same H0 H1 → (∀ Q : List V → Hp → Prop, Q [.ref a] H1 → ta σ H1 Q) → (∀ J, WkE J H1 xs.length (fun i => xs.getD i .non) → R J H1) → wi ta σ H1 R := by
  rcases h with h | h
  · exact ⟨fun ta => iEnum K ta, fun e hg hm ha hs => e ▸ pi_enum hg hm ha hs, fun ta σ H1 R s e q => e _ ⟨a, xs, rfl, s.seq h, q _ (wkE_list (s.seq h))⟩⟩
  · exact ⟨fun ta => iEnumT K ta, fun e hg hm ha hs => e ▸ pi_enumT hg hm ha hs, fun ta σ H1 R s e q => e _ ⟨a, xs, rfl, SqT.same s h, q _ (wkE_tup (SqT.same s h))⟩⟩
section
variable {P : Program} {w : World} {K : PySem.W.Frag} {mg : Str → Option Value} {base : Heap}
/-! ### _law_mr_images_text -/
@[irreducible] def spImgsText (K : PySem.W.Frag) : Sp := fun vs H Q _ => ∃ (a : Addr) (ws : List V) (xss : List (List Int)), vs = [.ref a] ∧ SqS K H a ws ∧ Rws H ws xss ∧ xss.length ≤ 4 ∧ (∀ xs ∈ xss, Lets 4 xs ∧ xs.length < 1000000) ∧ ∀ H', Same H H' → Q (.str (S (imgsText xss))) H'
theorem spImgsText_i {H : Hp} {a : Addr} {ws : List V} {xss : List (List Int)} {Q : VK} {E : XK} (h1 : SqS K H a ws) (h2 : Rws H ws xss) (h3 : xss.length ≤ 4) (h4 : ∀ xs ∈ xss, Lets 4 xs ∧ xs.length < 1000000) (q : ∀ H', Same H H' → Q (.str (S (imgsText xss))) H') : spImgsText K [.ref a] H Q E := by
  unfold spImgsText
  exact ⟨a, ws, xss, rfl, h1, h2, h3, h4, q⟩
theorem ok_limgs (B : Bt mg) (F : Fd K mg "_law_mr_images_text" s_l_mr_images_text) (D_l_mr_text : Df P w K mg base CX0 1 "_law_mr_text" ["_law_row"] spText) : Df P w K mg base CX0 2 "_law_mr_images_text" ["_law_images"] (spImgsText K) := by
  refine .mk' F sc_l_mr_images_text (fun _ _ _ _ _ _ us hl => match us, hl with | [_], _ => rfl) (fun vs H Q E h => ?_) (fun f cdv A outer s H vs Q E hr h => ?_)
  · unfold spImgsText at h
    obtain ⟨a, ws, xss, rfl, _⟩ := h
    rfl
  · unfold spImgsText at h
    obtain ⟨a, ws, xss, rfl, hs, hR, hn, hx, q⟩ := h
    have nd := sc_l_mr_images_text.nd
    obtain ⟨wi, pi, hpi⟩ := pi_pickE hs
    refine ⟨_, PSs.nox (pss_one (ps_ret (pe_join (pe_str) (pe_lc (own := [("_law_at", 1), ("_law_image", 2)]) (g := gTup K 2 (gCons (gName 1) (gCons (gName 2) gNil))) rfl nd (pi rfl (by rfl) B.enumerate (pa_cons (pv 0) pa_nil)) (blkOk_by (own := [("_law_at", 1), ("_law_image", 2)]) (N := ["_law_images", "_law_at", "_law_image"]) (sc := defScope s_l_mr_images_text) (by decide +kernel))
        (fun _ _ _ _ _ => pg_tup rfl (pgs_cons (pg_name (i := 1) nd rfl (Or.inl rfl)) (pgs_cons (pg_name (i := 2) nd rfl (Or.inl rfl)) pgs_nil))) (fun _ _ _ _ _ => pts_nil) (fun _ _ _ _ _ => pe_op op_add_str (pe_op op_add_str (pe_ix ix_str (pe_str) (pv 1) (fun _ _ => rfl)) (pe_str)) (pe_df (D_l_mr_text.mono (by decide)) hr rfl pass0 (pa_cons (pv 2) pa_nil))))))), ?_⟩
    have hlen := hR.len
    refine ⟨⟨_, rfl⟩, hpi _ _ _ _ (Same.refl H) (fun Q q => ⟨_, rfl, q⟩) fun J hJ D hD => ?_⟩
    refine lc_enum (fun k v _ => v = .str (S (imgText k (xss.getD k [])))) hJ hD (by rw [PySem.sizeLine_eq]; omega) (fun _ _ => rfl) (fun _ _ _ _ _ h => h) (fun i H2 hi s2 Q' q' => ?_) (fun H2 ys s2 f1 f2 f3 => ?_)
    · obtain ⟨z, e1, rz⟩ := hR.get (i := i) (by omega)
      have ez : ws.getD i .non = z := by rw [List.getD_eq_getElem?_getD, e1]; rfl
      rw [ez]
      have hm : xss.getD i [] ∈ xss := by
        rw [List.getD_eq_getElem?_getD, List.getElem?_eq_getElem (by omega)]
        exact List.getElem_mem _
      obtain ⟨lx, ln⟩ := hx _ hm
      unfold imgText at q'
      generalize xss.getD i [] = X at lx ln rz q'
      have hi4 : i < 4 := by omega
      have ge : atI (S [97, 98, 99, 100]).cps.toList (i : Int) = some (97 + i) := by
        obtain rfl | rfl | rfl | rfl : i = 0 ∨ i = 1 ∨ i = 2 ∨ i = 3 := by omega
        all_goals rfl
      have sg : signC ((i : Int) + 1) = 97 + i := by unfold signC; rw [if_pos (by omega)]; omega
      have tl := textC_len X
      refine ⟨_, rfl, _, _, 97 + i, rfl, rfl, by decide +kernel, by rw [str_abcd]; exact ge, ?_⟩
      refine ⟨S [97 + i], _, rfl, rfl, by rw [str_eq, S_len, S_len, PySem.sizeLine_eq]; simp, ?_⟩
      refine ⟨_, rfl, spText_i (rz.same s2) (fun x hx => by have := lx x hx; omega) ln fun H3 s3 => ⟨_, _, rfl, rfl, ?_, ?_⟩⟩
      · rw [str_eq, S_cat, S_len, S_len, PySem.sizeLine_eq]
        simp only [List.length_append, List.length_singleton]
        omega
      · refine q' _ _ s3 ?_
        rw [str_eq, S_cat, S_cat, sg]
    · have ey := strs_of (f := fun k => imgText k (xss.getD k [])) (n := xss.length) (by omega) f3
      refine ⟨_, D, ((List.range xss.length).map fun k => imgText k (xss.getD k [])).map S, rfl, rfl, .inl (SqL.of (by rw [f1, ey])), ?_, ?_⟩
      · rw [lens, str_sp]
        have := sum_le (l := (((List.range xss.length).map fun k => imgText k (xss.getD k [])).map (·.length))) (c := 1000010) (by
          intro x hx'
          simp only [List.mem_map, List.mem_range] at hx'
          obtain ⟨_, ⟨k, hk, rfl⟩, rfl⟩ := hx'
          have hm : xss.getD k [] ∈ xss := by
            rw [List.getD_eq_getElem?_getD, List.getElem?_eq_getElem hk]
            exact List.getElem_mem _
          have ln := (hx _ hm).2
          have tl := textC_len (xss.getD k [])
          unfold imgText
          rw [List.length_append, List.length_append, List.length_singleton, List.length_singleton]
          omega)
        rw [S_len, List.length_map, List.length_map, List.length_range, List.length_singleton]
        rw [List.length_map, List.length_map, List.length_range] at this
        omega
      · rw [str_sp, join_S]
        exact q _ s2
/-! ### _law_mr_read_row -/
@[irreducible] def spLRead : Sp := fun vs H Q _ => ∃ (n : Nat) (l : List Nat), vs = [.int n, .str (S l)] ∧ n ≤ 4 ∧ l.length < 1000000 ∧ (∀ k, readRow n l = .error k → ∀ H', Same H H' → Q (.int k) H') ∧ (∀ xs, readRow n l = .ok xs → ∀ p H', Same H H' → H p = none → H' p = some (.lst (iV xs)) → Q (.ref p) H')
theorem spLRead_i {H : Hp} {n : Nat} {l : List Nat} {Q : VK} {E : XK} (h1 : n ≤ 4) (h2 : l.length < 1000000) (q1 : ∀ k, readRow n l = .error k → ∀ H', Same H H' → Q (.int k) H') (q2 : ∀ xs, readRow n l = .ok xs → ∀ p H', Same H H' → H p = none → H' p = some (.lst (iV xs)) → Q (.ref p) H') : spLRead [.int n, .str (S l)] H Q E := by
  unfold spLRead
  exact ⟨n, l, rfl, h1, h2, q1, q2⟩
theorem letters_more {n : Nat} {l : List Nat} {i : Nat} (hi : i ≤ l.length) (hb : ∀ j, j < i → letterC n (l.getD j 0) ≠ 0) : i ≤ (lettersL n l).length := by
  induction l generalizing i with
  | nil => simp at hi; omega
  | cons c r ih =>
    cases i with
    | zero => exact Nat.zero_le _
    | succ i =>
      have h0 : letterC n c ≠ 0 := hb 0 (by omega)
      have := ih (i := i) (by simpa using hi) fun j hj => hb (j + 1) (by omega)
      unfold lettersL at this ⊢
      rw [List.map_cons, List.takeWhile_cons, if_pos (by simpa using h0), List.length_cons]
      omega
theorem ok_lread (B : Bt mg) (F : Fd K mg "_law_mr_read_row" s_l_mr_read_row) (D_l_mr_letter : Df P w K mg base CX0 1 "_law_mr_letter" ["_law_deeds", "_law_sign"] spLetterOf) : Df P w K mg base CX0 2 "_law_mr_read_row" ["_law_deeds", "_law_text"] spLRead := by
  refine .mk' F sc_l_mr_read_row (fun _ _ _ _ _ _ us hl => match us, hl with | [_, _], _ => rfl) (fun vs H Q E h => ?_) (fun f cdv A outer s H vs Q E hr h => ?_)
  · unfold spLRead at h
    obtain ⟨n, l, rfl, _⟩ := h
    rfl
  · unfold spLRead at h
    obtain ⟨n, l, rfl, hn, hl, q1, q2⟩ := h
    have nd := sc_l_mr_read_row.nd
    refine ⟨_, PSs.nox (pss_cons (ps_if (pt_cmpR op_eq (pv 1) (pe_str) (nomark _))
      (pss_one (ps_ret (pe_lst pa_nil))) (pss_nil))
      (pss_cons (ps_if (pt_cmpR op_eq (pe_slice sl_str (pv 1) po_none (po_some (pe_int))) (pe_str) (nomark _))
      (pss_one (ps_ret (pe_int))) (pss_nil))
      (pss_cons (ps_set (i := 2) nd rfl (Or.inl rfl) (pe_lst pa_nil))
      (pss_cons (ps_for PassesOwn.never rfl (pi_str (pv 1)) (pg_name (i := 3) nd rfl (Or.inl rfl))
      (pss_cons (ps_set (i := 4) nd rfl (Or.inl rfl) (pe_df (D_l_mr_letter.mono (by decide)) hr rfl pass0 (pa_cons (pv 0) (pa_cons (pv 3) pa_nil))))
      (pss_cons (ps_if (PW.pt (pw_or (pt_cmpR op_eq (pv 4) (pe_int) (nomark _)) (pw_or1 (pt_cmpR op_eq (pe_callB call_lenK (by rfl) B.len boot_len (pa_cons (pv 2) pa_nil)) (pe_int) (nomark _)))))
      (pss_one (ps_ret (pe_callB call_lenK (by rfl) B.len boot_len (pa_cons (pv 2) pa_nil)))) (pss_nil))
      (pss_one (ps_expr (pe_bm PySem.F.plainAttrs_list PySem.F.slot_list_append PySem.F.type_list_append mt_append (pv 2) (pa_cons (pv 4) pa_nil)))))))
      (pss_one (ps_ret (pe_ifExp (pt_cmpR (op_neD hr.units) (pv 2) (pe_lst pa_nil) (nomark _)) (pv 2) (pe_int)))))))), ?_⟩
    refine ⟨_, rfl, rfl, _, rfl, ?_⟩
    rw [str_one, decS]
    refine ite_of (fun h => ?_) (fun h => ?_)
    · have h : l = [49] := of_decide_eq_true h
      exact ⟨Nat.zero_le _, fun p hp => q2 [] (by rw [readRow, if_pos h]) p _ (Same.new hp) hp upd_same⟩
    · have h : l ≠ [49] := of_decide_eq_false h
      refine ⟨_, rfl, noPart ⟨_, rfl, _, rfl, by rw [S_len, PySem.sizeLine_eq]; omega, rfl, _, rfl, ?_⟩⟩
      rw [cutS_S, show cut l none (some 1) = l.take 1 from cut_takeN l 1, decS]
      refine ite_of (fun h2 => ?_) (fun h2 => ?_)
      · have h2 : l.take 1 = [49] := of_decide_eq_true h2
        exact q1 1 (by rw [readRow, if_neg h, if_pos h2]) _ (Same.refl _)
      · have h2 : l.take 1 ≠ [49] := of_decide_eq_false h2
        have er : readRow n l = (if l = [] ∨ (lettersL n l).length < l.length ∨ 200 < (lettersL n l).length then .error (min (lettersL n l).length 200 : Nat) else .ok (lettersL n l)) := by rw [readRow, if_neg h, if_neg h2]
        refine ⟨Nat.zero_le _, fun D hD => ?_⟩
        refine ⟨_, rfl, _, rfl, ?_⟩
        refine for_wk (wk_str (H1 := H) l) (fun i σ H' => ∃ x y, σ = [some (.int n), some (.str (S l)), some (.ref D), x, y] ∧ Same H H' ∧ H' D = some (.lst (iV ((l.take i).map (letterC n)))) ∧ (∀ j, j < i → letterC n (l.getD j 0) ≠ 0) ∧ i ≤ 200) ⟨_, _, rfl, Same.new hD, upd_same, fun j h => absurd h (by omega), by omega⟩ (fun i σ H' h => by obtain ⟨_, _, _, h, _⟩ := h; exact h) ?_ ?_
        · rintro i σ H1 hi ⟨x, y, rfl, s1, e1, n1, i2⟩
          have lti : ((l.take i).map (letterC n)).length = i := by rw [List.length_map, List.length_take]; omega
          refine ⟨_, rfl, _, rfl, spLetterOf_i hn ?_⟩
          have ret : (letterC n (l.getD i 0) = 0 ∨ i = 200) → Q (.int ((iV ((l.take i).map (letterC n))).length : Nat)) H1 := fun hz => by
            have em := letters_more (n := n) (l := l) (i := i) (by omega) n1
            have e : min (lettersL n l).length 200 = i := by
              rcases hz with hz | hz
              · have := letters_stop hi n1 hz
                rw [this, lti]
                omega
              · omega
            have := q1 _ (by
              rw [er, if_pos]
              rcases hz with hz | hz
              · right; left
                rw [letters_stop hi n1 hz, lti]
                exact hi
              · by_cases h0 : letterC n (l.getD i 0) = 0
                · right; left
                  rw [letters_stop hi n1 h0, lti]
                  exact hi
                · right; right
                  have := letters_more (n := n) (l := l) (i := i + 1) (by omega) (fun j hj => by
                    by_cases hji : j < i
                    · exact n1 j hji
                    · obtain rfl : j = i := by omega
                      exact h0)
                  omega) H1 s1
            rw [e] at this
            simp only [iV, List.length_map, List.length_take]
            rw [Nat.min_eq_left (by omega)]
            exact this
          refine ⟨_, rfl, rfl, _, rfl, ?_⟩
          rw [decI]
          refine ite_of (fun h3 => ?_) (fun h3 => ?_)
          · exact ⟨_, rfl, D, _, rfl, .inl (SqL.of e1), ret (.inl (of_decide_eq_true h3))⟩
          · have h3 : letterC n (l.getD i 0) ≠ 0 := of_decide_eq_false h3
            refine ⟨_, rfl, D, _, rfl, .inl (SqL.of e1), rfl, _, rfl, ?_⟩
            rw [decI]
            refine ite_of (fun h4 => ?_) (fun h4 => ?_)
            · have h4 : ((iV ((l.take i).map (letterC n))).length : Int) = 200 := of_decide_eq_true h4
              simp only [iV, List.length_map] at h4
              rw [List.length_take] at h4
              exact ⟨_, rfl, D, _, rfl, .inl (SqL.of e1), ret (.inr (by omega))⟩
            · have h4 : ((iV ((l.take i).map (letterC n))).length : Int) ≠ 200 := of_decide_eq_false h4
              have e6 : (iV ((l.take i).map (letterC n))).length = i := by
                simp only [iV, List.length_map, List.length_take]
                omega
              rw [e6] at h4
              refine ⟨_, rfl, .inl ⟨rfl, _, SqL.of e1⟩, _, rfl, D, _, _, rfl, rfl, e1, ?_, ?_⟩
              · rw [PySem.sizeLine_eq]
                simp only [iV, List.length_map, List.length_take]
                omega
              · refine ⟨_, _, rfl, Same.mut s1 hD, ?_, fun j hj => ?_, by omega⟩
                · rw [upd_same, take_map_succ hi, iV_snoc]
                · by_cases hji : j < i
                  · exact n1 j hji
                  · obtain rfl : j = i := by omega
                    exact h3
        · rintro σ H1 ⟨x, y, rfl, s1, e1, n1, i2⟩
          rw [List.take_length] at e1
          have ea := letters_all n1
          refine ⟨_, rfl, Nat.zero_le _, fun z hz => neD_int (t := false) (xs := l.map (letterC n)) (ys := []) (.lst (SqL.of (by rw [upd_ne (ne_of_none e1 hz)]; exact e1))) (.lst (SqL.of upd_same)) ⟨_, rfl, ?_⟩⟩
          have s2 : Same H1 (upd H1 z (.lst [])) := Same.new hz
          refine ite_of (fun h5 => ?_) (fun h5 => ?_)
          · have h5 : l ≠ [] := fun e => by rw [e] at h5; simp at h5
            refine ⟨_, rfl, q2 (l.map (letterC n)) ?_ D _ (s1.trans s2) hD (s2 _ _ e1)⟩
            rw [er, ea, if_neg]
            rintro (h | h | h)
            · exact h5 h
            · rw [List.length_map] at h; omega
            · rw [List.length_map] at h; omega
          · have h5 : l = [] := by simpa using h5
            subst h5
            exact q1 0 (by rw [er, if_pos (.inl rfl)]; rfl) _ (s1.trans s2)
end
end My
namespace My
open PySem PySem.Spec PyProof.Rows L2 SX
theorem seqAsg {te : TE} {g : TG} {rest : TS} {D : Ends} {σ : L2.St} {H : Hp} (h : te σ H fun v H1 => g v σ H1 (rest D)) : tSeq (tAsg te g) rest D σ H := h
/-- one change of a text -/
def Lap (l m : List Nat) : Prop := ∃ (k : Nat) (sg : List Nat), k ≤ l.length ∧ sg.length ≤ 1 ∧ (m = l.take k ++ sg ++ l.drop k ∨ m = l.take k ++ sg ++ l.drop (k + 1) ∨ m = l.take k ∨ m = l ++ sg ++ l.take k)
def NearT (l m : List Nat) : Prop := ∃ x, Lap l x ∧ (m = x ∨ Lap x m)
theorem Lap.len {l m : List Nat} (h : Lap l m) : m.length ≤ 2 * l.length + 1 := by
  obtain ⟨k, sg, h1, h2, rfl | rfl | rfl | rfl⟩ := h <;> simp <;> omega
theorem NearT.len {l m : List Nat} (h : NearT l m) : m.length ≤ 4 * l.length + 3 := by
  obtain ⟨x, h1, rfl | h2⟩ := h
  · have := h1.len; omega
  · have := h1.len; have := h2.len; omega
section
variable {P : Program} {w : World} {K : PySem.W.Frag} {mg : Str → Option Value} {base : Heap}
@[irreducible] def spNearText : Sp := fun vs H Q _ => ∃ (u : Sd) (k : Nat) (l : List Nat), vs = [.ref u.s, .str (S l)] ∧ l.length ≤ 1000 ∧ Dst H u (k + 10) ∧ ∀ (m : List Nat) H', Kp u H H' → Dst H' u k → NearT l m → Q (.str (S m)) H'
theorem spNearText_i {H : Hp} {u : Sd} {k : Nat} {l : List Nat} {Q : VK} {E : XK} (hl : l.length ≤ 1000) (h : Dst H u (k + 10)) (q : ∀ (m : List Nat) H', Kp u H H' → Dst H' u k → NearT l m → Q (.str (S m)) H') : spNearText [.ref u.s, .str (S l)] H Q E := by
  unfold spNearText
  exact ⟨u, k, l, rfl, hl, h, q⟩
theorem ok_near_text (B : Bt mg) (F : Fd K mg "_law_mr_near_text" s_l_mr_near_text) (D_l_draw : Df P w K mg base CX0 2 "_law_draw" ["_law_state", "_law_room"] spDraw) (D_l_pick : Df P w K mg base CX0 3 "_law_pick" ["_law_state", "_law_some"] (spPick K)) : Df P w K mg base CX0 4 "_law_mr_near_text" ["_law_state", "_law_text"] spNearText := by
  refine .mk' F sc_l_mr_near_text (fun _ _ _ _ _ _ us hl => match us, hl with | [_, _], _ => rfl) (fun vs H Q E h => ?_) (fun f cdv A outer s H vs Q E hr h => ?_)
  · unfold spNearText at h
    obtain ⟨u, k, l, rfl, _⟩ := h
    rfl
  · unfold spNearText at h
    obtain ⟨u, k, l, rfl, hl, hd, q⟩ := h
    have nd := sc_l_mr_near_text.nd
    refine ⟨_, PSs.nox (pss_cons (ps_set (i := 2) nd rfl (Or.inl rfl) (pv 1))
      (pss_cons (ps_for PassesOwn.never rfl (pi_range1 (by rfl) B.range (pa_cons (pe_op op_add (pe_int) (pe_df (D_l_draw.mono (by decide)) hr rfl pass0 (pa_cons (pv 0) (pa_cons (pe_int) pa_nil)))) pa_nil)) (pg_name (i := 3) nd rfl (Or.inl rfl))
      (pss_cons (ps_set (i := 4) nd rfl (Or.inl rfl) (pe_df (D_l_draw.mono (by decide)) hr rfl pass0 (pa_cons (pv 0) (pa_cons (pe_op op_add (pe_callB call_len_str (by rfl) B.len boot_len (pa_cons (pv 2) pa_nil)) (pe_int)) pa_nil))))
      (pss_cons (ps_set (i := 5) nd rfl (Or.inl rfl) (pe_df (D_l_pick.mono (by decide)) hr rfl pass0 (pa_cons (pv 0) (pa_cons (pe_lst (pa_cons (pe_str) (pa_cons (pe_str) (pa_cons (pe_str) (pa_cons (pe_str) (pa_cons (pe_str) (pa_cons (pe_str) (pa_cons (pe_str) (pa_cons (pe_str) (pa_cons (pe_str) (pa_cons (pe_str) (pa_cons (pe_str) pa_nil)))))))))))) pa_nil))))
      (pss_cons (ps_set (i := 6) nd rfl (Or.inl rfl) (pe_df (D_l_draw.mono (by decide)) hr rfl pass0 (pa_cons (pv 0) (pa_cons (pe_int) pa_nil))))
      (pss_cons (ps_set (i := 7) nd rfl (Or.inl rfl) (pe_ifExp (pt_cmpR op_eq (pv 6) (pe_int) (nomark _)) (pe_slice sl_str (pv 2) (po_some (pv 4)) po_none) (pe_slice sl_str (pv 2) (po_some (pe_op op_add (pv 4) (pe_int))) po_none)))
      (pss_one (ps_set (i := 2) nd rfl (Or.inl rfl) (pe_ifExp (pt_cmpR op_lt (pv 6) (pe_int) (nomark _)) (pe_op op_add_str (pe_op op_add_str (pe_slice sl_str (pv 2) po_none (po_some (pv 4))) (pv 5)) (pv 7)) (pe_ifExp (pt_cmpR op_eq (pv 6) (pe_int) (nomark _)) (pe_slice sl_str (pv 2) po_none (po_some (pv 4))) (pe_op op_add_str (pe_op op_add_str (pv 2) (pv 5)) (pe_slice sl_str (pv 2) po_none (po_some (pv 4)))))))))))))
      (pss_one (ps_ret (pv 2))))), ?_⟩
    refine ⟨_, rfl, _, rfl, spDraw_i (k := k + 9) (by omega) (by omega) hd fun d H1 d0 d1 kp1 ds1 => ⟨_, _, rfl, rfl, _, rfl, by omega, by omega, ?_⟩⟩
    have d12 : (1 + d).toNat = 1 ∨ (1 + d).toNat = 2 := by omega
    refine for_wk (wk_range (H1 := noHp)) (fun i σ H' => ∃ (x3 x4 x5 x6 x7 : Option V) (m : List Nat), σ = [some (.ref u.s), some (.str (S l)), some (.str (S m)), x3, x4, x5, x6, x7] ∧ Kp u H H' ∧ Dst H' u (k + 9 - 4 * i) ∧ i ≤ 2 ∧ ((i = 0 ∧ m = l) ∨ (i = 1 ∧ Lap l m) ∨ (i = 2 ∧ ∃ y, Lap l y ∧ Lap y m))) ⟨_, _, _, _, _, l, rfl, kp1, ds1, by omega, .inl ⟨rfl, rfl⟩⟩ (fun i σ H' _ => Same.nil H') ?_ ?_
    · rintro i σ H2 hi ⟨x3, x4, x5, x6, x7, m, rfl, kp2, ds2, i2, hm⟩
      have hi2 : i < 2 := by omega
      have hm2 : (i = 0 ∧ m = l) ∨ (i = 1 ∧ Lap l m) := by
        rcases hm with h | h | ⟨h, _⟩
        · exact .inl h
        · exact .inr h
        · omega
      have lm : m.length ≤ 2001 := by
        rcases hm2 with ⟨_, rfl⟩ | ⟨_, h⟩
        · omega
        · have := h.len; omega
      refine ⟨_, rfl, _, rfl, _, rfl, by rw [S_len, PySem.sizeLine_eq]; omega, _, _, rfl, rfl, ?_⟩
      rw [S_len]
      refine spDraw_i (k := k + 8 - 4 * i) (by omega) (by omega) (ds2.le (by omega)) fun a H3 a0 a1 kp3 ds3 => ?_
      obtain ⟨j, rfl⟩ : ∃ j : Nat, a = j := ⟨a.toNat, by omega⟩
      refine ⟨_, rfl, by rw [PySem.sizeLine_eq]; simp, fun L hL => ?_⟩
      have oL := ds3.off hL
      have dsL := ds3.same (Same.new (o := .lst [V.str (PySem.Str.ofString "a"), .str (PySem.Str.ofString "B"), .str (PySem.Str.ofString "1"), .str (PySem.Str.ofString "="), .str (PySem.Str.ofString " "), .str (PySem.Str.ofString "c"), .str (PySem.Str.ofString "D"), .str (PySem.Str.ofString "x"), .str (PySem.Str.ofString ""), .str (PySem.Str.ofString "b"), .str (PySem.Str.ofString "A")]) hL)
      refine spPick_i (k := k + 7 - 4 * i) oL.1 oL.2.1 (SqL.of upd_same) (by simp) (by simp) (dsL.le (by omega)) fun ix v H4 hv kp4 ds4 => ?_
      obtain ⟨sg, hsg, rfl⟩ : ∃ sg : List Nat, sg.length ≤ 1 ∧ v = .str (S sg) := by
        have hi : ix < 11 := (List.getElem?_eq_some_iff.mp hv).1
        have key (x : Str) (c : List Nat) (e : x = S c) (hc : c.length ≤ 1) : ∃ sg : List Nat, sg.length ≤ 1 ∧ V.str x = .str (S sg) := ⟨c, hc, by rw [e]⟩
        match ix, hi with
        | 0, _ => cases hv; exact key _ [97] (by decide +kernel) (by simp)
        | 1, _ => cases hv; exact key _ [66] (by decide +kernel) (by simp)
        | 2, _ => cases hv; exact key _ [49] (by decide +kernel) (by simp)
        | 3, _ => cases hv; exact key _ [61] (by decide +kernel) (by simp)
        | 4, _ => cases hv; exact key _ [32] (by decide +kernel) (by simp)
        | 5, _ => cases hv; exact key _ [99] (by decide +kernel) (by simp)
        | 6, _ => cases hv; exact key _ [68] (by decide +kernel) (by simp)
        | 7, _ => cases hv; exact key _ [120] (by decide +kernel) (by simp)
        | 8, _ => cases hv; exact key _ [] (by decide +kernel) (by simp)
        | 9, _ => cases hv; exact key _ [98] (by decide +kernel) (by simp)
        | 10, _ => cases hv; exact key _ [65] (by decide +kernel) (by simp)
      refine ⟨_, rfl, spDraw_i (k := k + 6 - 4 * i) (by omega) (by omega) (ds4.le (by omega)) fun way H5 w0 w1 kp5 ds5 => ?_⟩
      have kpa : Kp u H H5 := (((kp2.trans kp3).trans (Kp.of (Same.new hL))).trans kp4).trans kp5
      have hj : j ≤ m.length := by omega
      have lap : ∀ m' : List Nat, Lap m m' → ((i + 1 = 0 ∧ m' = l) ∨ (i + 1 = 1 ∧ Lap l m') ∨ (i + 1 = 2 ∧ ∃ y, Lap l y ∧ Lap y m')) := fun m' h => by
        rcases hm2 with ⟨rfl, rfl⟩ | ⟨rfl, h2⟩
        · exact .inr (.inl ⟨rfl, h⟩)
        · exact .inr (.inr ⟨rfl, m, h2, h⟩)
      have sz : (S m).length ≤ sizeLine := by rw [S_len, PySem.sizeLine_eq]; omega
      refine gName_i ?_
      dsimp only
      refine seqAsg (tIf_of (decide (way = 0)) (.str (S (if way = 0 then m.drop j else m.drop (j + 1)))) (fun R r => ⟨_, rfl, rfl, _, rfl, by rw [decI]; exact r⟩) (fun h Q' q => ?_) (fun h Q' q => ?_) ?_)
      · rw [if_pos (of_decide_eq_true h)] at q
        refine ⟨_, rfl, _, rfl, _, rfl, noPart ⟨_, rfl, sz, ?_⟩⟩
        rw [cutS_S, cut_dropN]
        exact q
      · rw [if_neg (of_decide_eq_false h)] at q
        refine ⟨_, rfl, _, rfl, _, _, rfl, rfl, _, rfl, noPart ⟨_, rfl, sz, ?_⟩⟩
        rw [cutS_S, show cut m (some ((j : Int) + 1)) none = m.drop (j + 1) from cut_dropN m (j + 1)]
        exact q
      refine ⟨_, rfl, _, _, rfl, rfl, _, rfl, ?_⟩
      refine ite_of (fun h => ?_) (fun h => ?_)
      · refine ⟨_, rfl, noPart ⟨_, rfl, _, rfl, _, rfl, sz, ?_⟩⟩
        rw [cutS_S, cut_takeN]
        refine ⟨_, rfl, _, _, rfl, rfl, by rw [S_len, S_len, PySem.sizeLine_eq, List.length_take]; omega, _, rfl, _, _, rfl, rfl, ?_, ?_⟩
        · rw [S_cat, S_len, S_len, PySem.sizeLine_eq]
          have : (if way = 0 then m.drop j else m.drop (j + 1)).length ≤ m.length := by split <;> simp
          simp only [List.length_append, List.length_take]
          omega
        · rw [S_cat, S_cat]
          refine ⟨_, _, _, _, _, m.take j ++ sg ++ (if way = 0 then m.drop j else m.drop (j + 1)), rfl, kpa, ds5.le (by omega), by omega, lap _ ⟨j, sg, hj, hsg, ?_⟩⟩
          by_cases hw : way = 0
          · rw [if_pos hw]; exact .inl rfl
          · rw [if_neg hw]; exact .inr (.inl rfl)
      · refine ⟨_, rfl, rfl, _, rfl, ?_⟩
        refine ite_of (fun h2 => ?_) (fun h2 => ?_)
        · refine ⟨_, rfl, noPart ⟨_, rfl, _, rfl, _, rfl, sz, ?_⟩⟩
          rw [cutS_S, cut_takeN]
          exact ⟨_, _, _, _, _, m.take j, rfl, kpa, ds5.le (by omega), by omega, lap _ ⟨j, sg, hj, hsg, .inr (.inr (.inl rfl))⟩⟩
        · refine ⟨_, rfl, _, rfl, _, _, rfl, rfl, by rw [S_len, S_len, PySem.sizeLine_eq]; omega, ?_⟩
          rw [S_cat]
          refine ⟨_, rfl, noPart ⟨_, rfl, _, rfl, _, rfl, sz, ?_⟩⟩
          rw [cutS_S, cut_takeN]
          refine ⟨_, _, rfl, rfl, ?_, ?_⟩
          · rw [S_len, S_len, PySem.sizeLine_eq]
            simp only [List.length_append, List.length_take]
            omega
          · rw [S_cat]
            exact ⟨_, _, _, _, _, m ++ sg ++ m.take j, rfl, kpa, ds5.le (by omega), by omega, lap _ ⟨j, sg, hj, hsg, .inr (.inr (.inr rfl))⟩⟩
    · rintro σ H2 ⟨x3, x4, x5, x6, x7, m, rfl, kp2, ds2, i2, hm⟩
      refine ⟨_, rfl, q m H2 kp2 (ds2.le (by omega)) ?_⟩
      rcases hm with ⟨h, _⟩ | ⟨_, h⟩ | ⟨_, y, h1, h2⟩
      · omega
      · exact ⟨m, h, .inl rfl⟩
      · exact ⟨y, h1, .inr h2⟩
end
end My
namespace My
open PySem PySem.Spec PyProof.Rows L2 SX
/-- all but one list stays -/
def Nx (D : Addr) (H H' : Hp) : Prop := ∀ a o, a ≠ D → H a = some o → H' a = some o
theorem lc_mapD {J : It} {H1 : Hp} {D : Addr} {n j : Nat} {Xv : Nat → V} {te : TE} {vs : List Nat} {σ : L2.St} {Qd : Hp → Prop} (R : Nat → V → Hp → Prop) (hJ : Wk J H1 n Xv) (hD : H1 D = none) (hn : n < sizeLine)
    (hw : ∀ x, wipe ((wipe σ vs).set j (some x)) vs = wipe σ vs) (Rs : ∀ i v H H', Nx D H H' → R i v H → R i v H')
    (he : ∀ i H', i < n → Same H1 H' → (∃ o, H' D = some o) → ∀ Q' : VK, (∀ v H'', Same H' H'' → R i v H'' → Q' v H'') → te ((wipe σ vs).set j (some (Xv i))) H' Q')
    (hd : ∀ (H' : Hp) (ys : List V), Same H1 H' → H' D = some (.lst ys) → ys.length = n → (∀ (k : Nat) (v : V), ys[k]? = some v → R k v H') → Qd H') :
    ∃ W : Nat → Nat → Hp → Prop, (∃ m, W 0 m (upd H1 D (.lst []))) ∧ ∀ i m H, W i m H →
      (J.stop i H ∧ Qd H) ∨ (J.go i H ∧ ∃ Nx : Hp → Prop, (∀ H', Nx H' → ∃ m', m' < m ∧ W (i + 1) m' H') ∧ ∀ x H', J.yld i H x H' → gName j x (wipe σ vs) H' fun σ2 H2 => wipe σ2 vs = wipe σ vs ∧ tYes σ2 H2 fun b H3 =>
        if b = true then te σ2 H3 fun y H4 => ∃ acc, H4 D = some (.lst acc) ∧ acc.length < sizeLine ∧ Nx (upd H4 D (.lst (acc ++ [y]))) else Nx H3) := by
  refine ⟨fun i m H => m = n - i ∧ i ≤ n ∧ Same H1 H ∧ ∃ ys : List V, H D = some (.lst ys) ∧ ys.length = i ∧ ∀ (k : Nat) (v : V), ys[k]? = some v → R k v H, ⟨n, by simp, Nat.zero_le _, Same.new hD, [], upd_same, rfl, fun k v e => by simp at e⟩, ?_⟩
  rintro i m H ⟨rfl, hi, e1, ys, hys, hl, hR⟩
  by_cases hlt : i < n
  · refine .inr ⟨hJ.go i H e1 hlt, fun H' => Same H1 H' ∧ ∃ ys : List V, H' D = some (.lst ys) ∧ ys.length = i + 1 ∧ ∀ (k : Nat) (v : V), ys[k]? = some v → R k v H', fun H' p => ⟨n - (i + 1), by omega, rfl, hlt, p⟩, fun x H' y => ?_⟩
    obtain ⟨rfl, rfl⟩ := hJ.yld i H x H' e1 hlt y
    refine ⟨hw _, ?_⟩
    refine he i _ hlt e1 ⟨_, hys⟩ _ (fun v H4 s4 hv => ⟨ys, s4 _ _ hys, by omega, Same.mut (e1.trans s4) hD, ys ++ [v], upd_same, by simp [hl], fun k u h1 => ?_⟩)
    have n4 : Nx D H4 (upd H4 D (.lst (ys ++ [v]))) := fun a o ha h => by rw [upd_ne ha]; exact h
    have n04 : Nx D _ (upd H4 D (.lst (ys ++ [v]))) := fun a o ha h => n4 a o ha (s4 a o h)
    by_cases hk : k < ys.length
    · rw [List.getElem?_append_left hk] at h1
      exact Rs _ _ _ _ n04 (hR k u h1)
    · rw [List.getElem?_append_right (by omega)] at h1
      have e0 : k - ys.length = 0 := by
        cases q : k - ys.length with
        | zero => rfl
        | succ m => rw [q] at h1; simp at h1
      rw [e0] at h1
      obtain rfl : v = u := by simpa using h1
      obtain rfl : k = i := by omega
      exact Rs _ _ _ _ n4 hv
  · obtain rfl : i = n := by omega
    exact .inl ⟨hJ.stop i H e1 (Nat.le_refl _), hd H ys e1 hys hl hR⟩
/-! ### the law's reading of images, sign by sign -/
structure Ms where
  found : List (List Nat)
  want : List Nat
  at' : Nat
def mStep (n L : Nat) (m : Ms) (c : Nat) : Except Nat Ms :=
  match m.want with
  | x :: r => if c = x then .ok ⟨if r = [] then m.found ++ [[]] else m.found, r, m.at' + 1⟩ else .error m.at'
  | [] =>
    let last := m.found.getD (m.found.length - 1) []
    if last ≠ [49] ∧ (letterC n c ≠ 0 ∨ (c = 49 ∧ last = [])) then .ok ⟨m.found.set (m.found.length - 1) (last ++ [c]), [], m.at' + 1⟩
    else if c = 32 ∧ last ≠ [] ∧ m.found.length < n then .ok ⟨m.found, [97 + m.found.length, 61], m.at' + 1⟩
    else if m.at' < L ∨ last = [] ∨ m.found.length < n then .error m.at'
    else .ok ⟨m.found, [], m.at' + 1⟩
def mRun (n L : Nat) : Ms → List Nat → Except Nat Ms
  | m, [] => .ok m
  | m, c :: r => match mStep n L m c with
    | .error e => .error e
    | .ok m' => mRun n L m' r
def mImages (n : Nat) (l : List Nat) : Except Nat (List (List Nat)) := match mRun n l.length ⟨[], [97, 61], 0⟩ (l ++ [10]) with
  | .error e => .error e
  | .ok m => .ok m.found
end My
namespace My
open PySem PySem.Spec PyProof.Rows L2 SX
theorem str_nl : (PySem.Str.ofString "\n") = S [10] := by decide +kernel
theorem str_a : (PySem.Str.ofString "a=") = S [97, 61] := by decide +kernel
theorem tIfS_of {c : TT} {t u : TS} {D : Ends} {σ : L2.St} {H : Hp} (k : Bool) (hc : ∀ R : Bool → Hp → Prop, R k H → c σ H R) (q : if k = true then t D σ H else u D σ H) : tIfS c t u D σ H := hc _ q
abbrev sV (l : List Nat) : V := .str (S l)
section
variable {P : Program} {w : World} {K : PySem.W.Frag} {mg : Str → Option Value} {base : Heap}
/-- images read: lists of ints side by side -/
def LstsAt (D : Addr) (H : Hp) (vs : List V) (xss : List (List Int)) : Prop := vs.length = xss.length ∧ ∀ (k : Nat) (v : V), vs[k]? = some v → ∃ p, p ≠ D ∧ v = .ref p ∧ H p = some (.lst (iV (xss.getD k [])))
@[irreducible] def spLImgs : Sp := fun vs H Q _ => ∃ (n : Nat) (l : List Nat), vs = [.int n, .str (S l)] ∧ 1 ≤ n ∧ n ≤ 4 ∧ l.length < 150 ∧ (∀ k, mImages n l = .error k → ∀ H', Same H H' → Q (.int k) H') ∧
  (∀ found, mImages n l = .ok found → (∀ t ∈ found, ∃ xs, readRow n t = .ok xs) ∧ ∀ p vs' xss H', Same H H' → H p = none → H' p = some (.lst vs') → xss = found.map (fun t => (readRow n t).toOption.getD []) → LstsAt p H' vs' xss → Q (.ref p) H')
theorem ok_limgs_read (B : Bt mg) (F : Fd K mg "_law_mr_read_images" s_l_mr_read_images) (D_l_mr_letter : Df P w K mg base CX0 1 "_law_mr_letter" ["_law_deeds", "_law_sign"] spLetterOf) (D_l_mr_read_row : Df P w K mg base CX0 2 "_law_mr_read_row" ["_law_deeds", "_law_text"] spLRead) :
    Df P w K mg base CX0 3 "_law_mr_read_images" ["_law_deeds", "_law_text"] spLImgs := by
  refine .mk' F sc_l_mr_read_images (fun _ _ _ _ _ _ us hl => match us, hl with | [_, _], _ => rfl) (fun vs H Q E h => ?_) (fun f cdv A outer s H vs Q E hr h => ?_)
  · unfold spLImgs at h
    obtain ⟨n, l, rfl, _⟩ := h
    rfl
  · unfold spLImgs at h
    obtain ⟨n, l, rfl, n1, n2, hl, q1, q2⟩ := h
    have nd := sc_l_mr_read_images.nd
    refine ⟨_, PSs.nox (pss_cons (ps_par3 (i := 2) (j := 3) (l := 4) rfl nd rfl rfl rfl (by decide) (by decide) (by decide) rfl rfl rfl (pa_cons (pe_lst pa_nil) (pa_cons (pe_str) (pa_cons (pe_int) pa_nil))) (by rfl))
      (pss_cons (ps_for PassesOwn.never rfl (pi_str (pe_op op_add_str (pv 1) (pe_str))) (pg_name (i := 5) nd rfl (Or.inl rfl))
      (pss_cons (ps_if (pt_cmpR op_ne (pv 3) (pe_str) (nomark _))
      (pss_cons (ps_if (pt_cmpR op_ne (pv 5) (pe_ix ix_str (pv 3) (pe_int) (fun _ _ => rfl)) (nomark _))
      (pss_one (ps_ret (pv 4))) (pss_nil))
      (pss_cons (ps_set (i := 3) nd rfl (Or.inl rfl) (pe_slice sl_str (pv 3) (po_some (pe_int)) po_none))
      (pss_one (ps_if (pt_cmpR op_eq (pv 3) (pe_str) (nomark _))
      (pss_one (ps_expr (pe_bm PySem.F.plainAttrs_list PySem.F.slot_list_append PySem.F.type_list_append mt_append (pv 2) (pa_cons (pe_str) pa_nil)))) (pss_nil))))) (pss_one (ps_if (PW.pt (pw_and (pt_cmpR op_ne (pe_ix ix_list (pv 2) (pe_un un_neg (pe_int)) (fun _ _ => rfl)) (pe_str) (nomark _)) (pw_and1 (PW.pt (pw_or (pt_cmpR op_ne (pe_df (D_l_mr_letter.mono (by decide)) hr rfl pass0 (pa_cons (pv 0) (pa_cons (pv 5) pa_nil))) (pe_int) (nomark _)) (pw_or1 (PW.pt (pw_and (pt_cmpR op_eq (pv 5) (pe_str) (nomark _)) (pw_and1 (pt_cmpR op_eq (pe_ix ix_list (pv 2) (pe_un un_neg (pe_int)) (fun _ _ => rfl)) (pe_str) (nomark _)))))))))))
      (pss_one (ps_asg (pe_op op_add_str (pe_ix ix_list (pv 2) (pe_un un_neg (pe_int)) (fun _ _ => rfl)) (pv 5)) (pg_sub (pv 2) (pe_un un_neg (pe_int)) set_list))) (pss_one (ps_if (PW.pt (pw_and (pt_cmpR op_eq (pv 5) (pe_str) (nomark _)) (pw_and (pt_cmpR op_ne (pe_ix ix_list (pv 2) (pe_un un_neg (pe_int)) (fun _ _ => rfl)) (pe_str) (nomark _)) (pw_and1 (pt_cmpR op_lt (pe_callB call_lenK (by rfl) B.len boot_len (pa_cons (pv 2) pa_nil)) (pv 0) (nomark _))))))
      (pss_one (ps_set (i := 3) nd rfl (Or.inl rfl) (pe_op op_add_str (pe_ix ix_str (pe_str) (pe_callB call_lenK (by rfl) B.len boot_len (pa_cons (pv 2) pa_nil)) (fun _ _ => rfl)) (pe_str)))) (pss_one (ps_if (PW.pt (pw_or (pt_cmpR op_lt (pv 4) (pe_callB call_len_str (by rfl) B.len boot_len (pa_cons (pv 1) pa_nil)) (nomark _)) (pw_or (pt_cmpR op_eq (pe_ix ix_list (pv 2) (pe_un un_neg (pe_int)) (fun _ _ => rfl)) (pe_str) (nomark _)) (pw_or1 (pt_cmpR op_lt (pe_callB call_lenK (by rfl) B.len boot_len (pa_cons (pv 2) pa_nil)) (pv 0) (nomark _))))))
      (pss_one (ps_ret (pv 4))) (pss_nil))))))))
      (pss_one (ps_set (i := 4) nd rfl (Or.inl rfl) (pe_op op_add (pv 4) (pe_int))))))
      (pss_one (ps_ret (pe_lc (own := [("_law_image", 6)]) (g := gName 6) rfl nd (pi_list (pv 2)) (blkOk_by (own := [("_law_image", 6)]) (N := ["_law_deeds", "_law_text", "_law_found", "_law_want", "_law_at", "_law_sign", "_law_image"]) (sc := defScope s_l_mr_read_images) (by decide +kernel))
        (fun _ _ _ _ _ => pg_name (i := 6) nd rfl (Or.inl rfl)) (fun _ _ _ _ _ => pts_nil) (fun _ _ _ _ _ => pe_ifExp (pt_cmpR op_lt (pe_callB call_len_str (by rfl) B.len boot_len (pa_cons (pv 6) pa_nil)) (pe_int) (nomark _)) (pe_df (D_l_mr_read_row.mono (by decide)) hr rfl pass0 (pa_cons (pv 0) (pa_cons (pv 6) pa_nil))) (pe_lst pa_nil))))))), ?_⟩
    refine ⟨Nat.zero_le _, fun D hD => ⟨_, _, _, rfl, ?_⟩⟩
    refine ⟨_, rfl, _, _, rfl, rfl, by rw [str_nl, S_len, S_len, PySem.sizeLine_eq]; simp; omega, _, rfl, ?_⟩
    rw [str_nl, S_cat]
    refine for_wk (wk_str (H1 := H) (l ++ [10])) (fun i σ H' => ∃ (m : Ms) (x5 x6 : Option V), σ = [some (.int n), some (sV l), some (.ref D), some (sV m.want), some (.int (m.at' : Nat)), x5, x6] ∧ Same H H' ∧ H' D = some (.lst (m.found.map sV)) ∧ (m.want = [] → m.found ≠ []) ∧ m.want.length ≤ 2 ∧ m.found.length ≤ i ∧ (∀ t ∈ m.found, t.length ≤ i) ∧ mRun n l.length ⟨[], [97, 61], 0⟩ (l ++ [10]) = mRun n l.length m ((l ++ [10]).drop i)) ⟨⟨[], [97, 61], 0⟩, _, _, by rw [str_a]; rfl, Same.new hD, upd_same, (fun h => by cases h), by simp, by simp, by simp, rfl⟩ (fun i σ H' h => by obtain ⟨_, _, _, _, h, _⟩ := h; exact h) ?_ ?_
    · rintro i σ H1 hi ⟨m, x5, x6, rfl, s1, e1, hw, wl, fl, tl, rd⟩
      have hi2 : i < 151 := by rw [List.length_append, List.length_singleton] at hi; omega
      have ec : (l ++ [10]).drop i = (l ++ [10]).getD i 0 :: (l ++ [10]).drop (i + 1) := by
        rw [List.drop_eq_getElem_cons hi, List.getD_eq_getElem?_getD, List.getElem?_eq_getElem hi]
        rfl
      rw [ec, mRun] at rd
      generalize (l ++ [10]).getD i 0 = c at rd
      obtain ⟨found, want, at'⟩ := m
      simp only at hw wl fl tl e1
      have err : ∀ e, mStep n l.length ⟨found, want, at'⟩ c = .error e → mImages n l = .error e := fun e he => by
        rw [he] at rd
        rw [mImages, rd]
      have sq := SqL.of (K := K) e1
      refine ⟨_, rfl, rfl, _, rfl, ?_⟩
      rw [str_empty, decS]
      refine ite_of (fun h => ?_) (fun h => ?_)
      · obtain ⟨x, r, rfl⟩ : ∃ x r, want = x :: r := by
          cases want with
          | nil => simp at h
          | cons x r => exact ⟨x, r, rfl⟩
        have ms : mStep n l.length ⟨found, x :: r, at'⟩ c = if c = x then .ok ⟨if r = [] then found ++ [[]] else found, r, at' + 1⟩ else .error at' := rfl
        have lw : (S (x :: r)).length ≤ sizeLine := by
          rw [S_len, PySem.sizeLine_eq]
          simp at wl ⊢
          omega
        refine ⟨_, rfl, _, rfl, _, _, x, rfl, rfl, lw, atI_nat (j := 0) rfl, rfl, _, rfl, ?_⟩
        rw [show decide (V.str (S [c]) = V.str { cps := #[x] }) = decide (c = x) from by
          rw [show ({ cps := #[x] } : Str) = S [x] from rfl, decS]
          simp]
        refine ite_of (fun h2 => ?_) (fun h2 => ?_)
        · have h2 : ¬ c = x := by simpa using h2
          rw [if_neg h2] at ms
          exact ⟨_, rfl, q1 at' (err _ ms) H1 s1⟩
        · have h2 : c = x := by simpa using h2
          rw [if_pos h2] at ms
          rw [ms] at rd
          refine ⟨_, rfl, _, rfl, noPart ⟨_, rfl, lw, ?_⟩⟩
          rw [cutS_S, show cut (x :: r) (some 1) none = r from cut_dropN (x :: r) 1]
          refine ⟨_, rfl, rfl, _, rfl, ?_⟩
          rw [decS]
          refine ite_of (fun h3 => ?_) (fun h3 => ?_)
          · have h3 : r = [] := of_decide_eq_true h3
            rw [if_pos h3] at rd
            refine ⟨_, rfl, .inl ⟨rfl, _, sq⟩, D, _, _, rfl, rfl, e1, by rw [PySem.sizeLine_eq, List.length_map]; omega, ?_⟩
            refine ⟨_, rfl, _, _, rfl, rfl, ⟨found ++ [[]], r, at' + 1⟩, _, _, rfl, Same.mut s1 hD, ?_, fun _ => by simp, by simp at wl ⊢; omega, by simp; omega, ?_, rd⟩
            · rw [upd_same, List.map_append]
              rfl
            · intro t ht
              rcases List.mem_append.mp ht with ht | ht
              · have := tl t ht; omega
              · rw [List.mem_singleton.mp ht]; simp
          · have h3 : r ≠ [] := of_decide_eq_false h3
            rw [if_neg h3] at rd
            exact ⟨_, rfl, _, _, rfl, rfl, ⟨found, r, at' + 1⟩, _, _, rfl, s1, e1, fun h => absurd h h3, by simp at wl ⊢; omega, by simp; omega, fun t ht => by have := tl t ht; omega, rd⟩
      · have h : want = [] := by simpa using h
        subst h
        have hne := hw rfl
        obtain ⟨fr, la, rfl⟩ : ∃ fr la, found = fr ++ [la] := by
          rcases List.eq_nil_or_concat found with h | ⟨r', z, h⟩
          · exact absurd h hne
          · exact ⟨r', z, by rw [h, List.concat_eq_append]⟩
        have el : (fr ++ [la]).getD ((fr ++ [la]).length - 1) [] = la := by
          rw [List.length_append, List.length_singleton, Nat.add_sub_cancel, List.getD_eq_getElem?_getD, List.getElem?_append_right (Nat.le_refl _)]
          simp
        have ms : mStep n l.length ⟨fr ++ [la], [], at'⟩ c = (if la ≠ [49] ∧ (letterC n c ≠ 0 ∨ (c = 49 ∧ la = [])) then .ok ⟨(fr ++ [la]).set ((fr ++ [la]).length - 1) (la ++ [c]), [], at' + 1⟩
          else if c = 32 ∧ la ≠ [] ∧ (fr ++ [la]).length < n then .ok ⟨fr ++ [la], [97 + (fr ++ [la]).length, 61], at' + 1⟩
          else if at' < l.length ∨ la = [] ∨ (fr ++ [la]).length < n then .error at' else .ok ⟨fr ++ [la], [], at' + 1⟩) := by
          rw [mStep]
          simp only [el]
        have at1 : atI ((fr ++ [la]).map sV) (-1) = some (sV la) := by rw [List.map_append]; exact atI_last _ _
        have lal : la.length ≤ i := tl la (by simp)
        have dc (x : Nat) : decide (V.str (S [c]) = V.str (S [x])) = decide (c = x) := by
          rw [decS]
          simp
        refine tIfS_of (decide (la ≠ [49] ∧ (letterC n c ≠ 0 ∨ (c = 49 ∧ la = [])))) (fun R r => ?_) ?_
        · refine ⟨_, rfl, 1, rfl, D, _, _, _, rfl, rfl, sq, at1, rfl, _, rfl, ?_⟩
          rw [str_one, decS]
          refine ite_of (fun h => ?_) (fun h => ?_)
          · have h1 : la ≠ [49] := by simpa using h
            refine ⟨_, rfl, _, rfl, spLetterOf_i n2 ⟨rfl, _, rfl, ?_⟩⟩
            rw [decI]
            refine ite_of (fun h => ?_) (fun h => ?_)
            · have h2 : letterC n c ≠ 0 := by simpa using h
              rw [decide_eq_true ⟨h1, .inl h2⟩] at r
              exact r
            · have h2 : letterC n c = 0 := by simpa using h
              refine ⟨_, rfl, rfl, _, rfl, ?_⟩
              rw [dc]
              refine ite_of (fun h => ?_) (fun h => ?_)
              · have h3 : c = 49 := of_decide_eq_true h
                refine ⟨_, rfl, 1, rfl, D, _, _, _, rfl, rfl, sq, at1, rfl, _, rfl, ?_⟩
                rw [decS]
                by_cases h4 : la = []
                · rw [decide_eq_true ⟨h1, .inr ⟨h3, h4⟩⟩] at r
                  rw [decide_eq_true h4]
                  exact r
                · rw [decide_eq_false (by rintro ⟨_, h | ⟨_, h⟩⟩; exact h h2; exact h4 h)] at r
                  rw [decide_eq_false h4]
                  exact r
              · have h3 : ¬ c = 49 := of_decide_eq_false h
                rw [decide_eq_false (by rintro ⟨_, h | ⟨h, _⟩⟩; exact h h2; exact h3 h)] at r
                exact r
          · have h1 : la = [49] := by simpa using h
            rw [decide_eq_false (by rintro ⟨h, _⟩; exact h h1)] at r
            exact r
        · have lf : (fr ++ [la]).length ≤ i := fl
          refine ite_of (fun h => ?_) (fun h => ?_)
          · rw [if_pos (of_decide_eq_true h)] at ms
            rw [ms] at rd
            refine ⟨_, rfl, 1, rfl, D, _, _, _, rfl, rfl, sq, at1, _, rfl, _, _, rfl, rfl, by rw [S_len, S_len, PySem.sizeLine_eq]; simp; omega, ?_⟩
            rw [S_cat]
            have ix : ixN ((fr ++ [la]).map sV).length (-1) = some ((fr ++ [la]).length - 1) := by
              unfold ixN
              rw [if_neg (by omega), if_pos (by simp; omega)]
              congr 1
              simp only [List.length_map, List.length_append, List.length_singleton]
              omega
            refine ⟨_, rfl, 1, rfl, D, _, _, _, rfl, rfl, e1, ix, ?_⟩
            refine ⟨_, rfl, _, _, rfl, rfl, ⟨(fr ++ [la]).set ((fr ++ [la]).length - 1) (la ++ [c]), [], at' + 1⟩, _, _, rfl, Same.mut s1 hD, by rw [upd_same, List.map_set], fun _ => by simp, by simp, by simp only [List.length_set]; omega, ?_, rd⟩
            intro t ht
            rcases List.mem_or_eq_of_mem_set ht with ht | rfl
            · have := tl t ht; omega
            · rw [List.length_append, List.length_singleton]; omega
          · rw [if_neg (of_decide_eq_false h)] at ms
            refine tIfS_of (decide (c = 32 ∧ la ≠ [] ∧ (fr ++ [la]).length < n)) (fun R r => ?_) ?_
            · refine ⟨_, rfl, rfl, _, rfl, ?_⟩
              rw [str_sp, dc]
              refine ite_of (fun h => ?_) (fun h => ?_)
              · have h1 : c = 32 := of_decide_eq_true h
                refine ⟨_, rfl, 1, rfl, D, _, _, _, rfl, rfl, sq, at1, rfl, _, rfl, ?_⟩
                rw [decS]
                refine ite_of (fun h => ?_) (fun h => ?_)
                · have h2 : la ≠ [] := by simpa using h
                  refine ⟨_, rfl, D, _, rfl, .inl sq, _, rfl, _, _, rfl, rfl, _, rfl, ?_⟩
                  rw [List.length_map, show decide (((fr ++ [la]).length : Int) < (n : Int)) = decide (c = 32 ∧ la ≠ [] ∧ (fr ++ [la]).length < n) from decide_eq_decide.mpr ⟨fun h => ⟨h1, h2, by omega⟩, fun h => by omega⟩]
                  exact r
                · have h2 : la = [] := by simpa using h
                  rw [decide_eq_false (by rintro ⟨_, h, _⟩; exact h h2)] at r
                  exact r
              · have h1 : ¬ c = 32 := of_decide_eq_false h
                rw [decide_eq_false (by rintro ⟨h, _⟩; exact h1 h)] at r
                exact r
            · refine ite_of (fun h => ?_) (fun h => ?_)
              · have hc := of_decide_eq_true h
                rw [if_pos hc] at ms
                rw [ms] at rd
                have ge : atI (S [97, 98, 99, 100]).cps.toList ((((fr ++ [la]).map sV).length : Nat) : Int) = some (97 + (fr ++ [la]).length) := by
                  rw [List.length_map]
                  have h3 := hc.2.2
                  have h4 : 1 ≤ (fr ++ [la]).length := by simp
                  generalize (fr ++ [la]).length = z at h3 h4
                  obtain rfl | rfl | rfl : z = 1 ∨ z = 2 ∨ z = 3 := by omega
                  all_goals rfl
                refine ⟨_, rfl, D, _, rfl, .inl sq, _, _, _, rfl, rfl, by decide +kernel, by rw [str_abcd]; exact ge, ?_⟩
                refine ⟨S [97 + (fr ++ [la]).length], _, rfl, rfl, by rw [str_eq, S_len, S_len, PySem.sizeLine_eq]; simp, ?_⟩
                rw [str_eq, S_cat]
                exact ⟨_, rfl, _, _, rfl, rfl, ⟨fr ++ [la], [97 + (fr ++ [la]).length, 61], at' + 1⟩, _, _, rfl, s1, e1, (fun h => by cases h), by simp, Nat.le_succ_of_le lf, fun t ht => by have := tl t ht; omega, rd⟩
              · have hc := of_decide_eq_false h
                rw [if_neg hc] at ms
                have bad : (at' < l.length ∨ la = [] ∨ (fr ++ [la]).length < n) → Q (.int (at' : Nat)) H1 := fun h => q1 at' (err _ (by rw [ms, if_pos h])) H1 s1
                refine ⟨_, rfl, _, rfl, _, rfl, by rw [S_len, PySem.sizeLine_eq]; omega, _, _, rfl, rfl, _, rfl, ?_⟩
                rw [S_len]
                refine ite_of (fun h => ?_) (fun h => ?_)
                · have h1 : (at' : Int) < (l.length : Int) := of_decide_eq_true h
                  exact ⟨_, rfl, bad (.inl (by omega))⟩
                · have h1 : ¬ (at' : Int) < (l.length : Int) := of_decide_eq_false h
                  refine ⟨_, rfl, 1, rfl, D, _, _, _, rfl, rfl, sq, at1, rfl, _, rfl, ?_⟩
                  rw [decS]
                  refine ite_of (fun h => ?_) (fun h => ?_)
                  · exact ⟨_, rfl, bad (.inr (.inl (of_decide_eq_true h)))⟩
                  · have h2 : la ≠ [] := of_decide_eq_false h
                    refine ⟨_, rfl, D, _, rfl, .inl sq, _, rfl, _, _, rfl, rfl, _, rfl, ?_⟩
                    rw [List.length_map]
                    refine ite_of (fun h => ?_) (fun h => ?_)
                    · have h3 : ((fr ++ [la]).length : Int) < (n : Int) := of_decide_eq_true h
                      exact ⟨_, rfl, bad (.inr (.inr (by omega)))⟩
                    · have h3 : ¬ ((fr ++ [la]).length : Int) < (n : Int) := of_decide_eq_false h
                      rw [if_neg (by rintro (h | h | h); omega; exact h2 h; omega)] at ms
                      rw [ms] at rd
                      exact ⟨_, rfl, _, _, rfl, rfl, ⟨fr ++ [la], [], at' + 1⟩, _, _, rfl, s1, e1, fun _ => by simp, by simp, Nat.le_succ_of_le lf, fun t ht => by have := tl t ht; omega, rd⟩
    · rintro σ H1 ⟨m, x5, x6, rfl, s1, e1, hw, wl, fl, tl, rd⟩
      rw [List.drop_length, mRun] at rd
      have em : mImages n l = .ok m.found := by rw [mImages, rd]
      obtain ⟨okr, fin⟩ := q2 _ em
      obtain ⟨found, want, at'⟩ := m
      simp only at okr fin e1 fl tl
      have ll : (l ++ [10]).length ≤ 150 := by rw [List.length_append, List.length_singleton]; omega
      refine ⟨_, rfl, D, rfl, ⟨_, SqL.of e1⟩, fun D2 hD2 => ?_⟩
      refine lc_mapD (fun k v H => ∃ p, p ≠ D2 ∧ v = .ref p ∧ H p = some (.lst (iV ((found.map fun t => (readRow n t).toOption.getD []).getD k [])))) (wk_list (SqL.of e1)) hD2 (by rw [PySem.sizeLine_eq, List.length_map]; omega) (fun _ => rfl) (fun k v H H' nx h => by obtain ⟨p, h1, h2, h3⟩ := h; exact ⟨p, h1, h2, nx _ _ h1 h3⟩) (fun k H2 hk s2 hD2' Q' q' => ?_) (fun H2 ys s2 f1 f2 f3 => ?_)
      · rw [List.length_map] at hk
        have hm : found[k] ∈ found := List.getElem_mem hk
        have et : (found.map sV).getD k .non = sV found[k] := by
          rw [List.getD_eq_getElem?_getD, List.getElem?_map, List.getElem?_eq_getElem hk]
          rfl
        have ex : (found.map fun t => (readRow n t).toOption.getD []).getD k [] = (readRow n found[k]).toOption.getD [] := by
          rw [List.getD_eq_getElem?_getD, List.getElem?_map, List.getElem?_eq_getElem hk]
          rfl
        rw [ex] at q'
        rw [et]
        have tll := tl _ hm
        obtain ⟨xs, hxs⟩ := okr _ hm
        generalize found[k] = t at hxs tll q'
        refine ⟨_, rfl, _, rfl, by rw [S_len, PySem.sizeLine_eq]; omega, _, _, rfl, rfl, _, rfl, ?_⟩
        rw [S_len]
        refine iteT_of (decide_eq_true (by omega)) ⟨_, rfl, _, rfl, spLRead_i n2 (by omega) (fun e he => by rw [hxs] at he; cases he) fun ys hy p H3 s3 hp e3 => ?_⟩
        rw [hxs] at hy
        cases hy
        refine q' _ _ s3 ⟨p, fun z => ?_, rfl, ?_⟩
        · obtain ⟨o, ho⟩ := hD2'
          rw [z, ho] at hp
          cases hp
        · rw [hxs]
          exact e3
      · have hp0 : H D2 = none := by
          cases z : H D2 with
          | none => rfl
          | some o => rw [s1 _ _ z] at hD2; cases hD2
        exact fin D2 ys _ H2 (s1.trans s2) hp0 f1 rfl ⟨by rw [f2, List.length_map, List.length_map], f3⟩
end
end My
namespace My
open PySem PySem.Spec PyProof.Rows L2 SX
/-- a row with its letters exchanged for images -/
def ren (xss : List (List Int)) (xs : List Int) : List Int := plain (xs.flatMap (img xss))
section
variable {P : Program} {w : World} {K : PySem.W.Frag} {mg : Str → Option Value} {base : Heap}
@[irreducible] def spRenamed (K : PySem.W.Frag) : Sp := fun vs H Q _ => ∃ (a : Addr) (ws : List V) (xss : List (List Int)) (v : V) (xs : List Int), vs = [.ref a, v] ∧ SqL K H a ws ∧ Rws H ws xss ∧ Row H v xs ∧ Lets (xss.length : Nat) xs ∧ (∀ ys ∈ xss, ys.length ≤ 1000) ∧ xs.length ≤ 500 ∧ ∀ v' H', Same H H' → Row H' v' (ren xss xs) → Q v' H'
theorem spRenamed_i {H : Hp} {a : Addr} {ws : List V} {xss : List (List Int)} {v : V} {xs : List Int} {Q : VK} {E : XK} (h1 : SqL K H a ws) (h2 : Rws H ws xss) (h3 : Row H v xs) (h4 : Lets (xss.length : Nat) xs) (h5 : ∀ ys ∈ xss, ys.length ≤ 1000) (h6 : xs.length ≤ 500) (q : ∀ v' H', Same H H' → Row H' v' (ren xss xs) → Q v' H') : spRenamed K [.ref a, v] H Q E := by
  unfold spRenamed
  exact ⟨a, ws, xss, v, xs, rfl, h1, h2, h3, h4, h5, h6, q⟩
theorem img_len {xss : List (List Int)} {c : Nat} (h : ∀ ys ∈ xss, ys.length ≤ c) (x : Int) : (img xss x).length ≤ c := by
  have key (j : Nat) : (xss.getD j []).length ≤ c := by
    rw [List.getD_eq_getElem?_getD]
    cases e : xss[j]? with
    | none => simp
    | some ys => exact h ys (List.mem_of_getElem? e)
  unfold img
  split
  · exact key _
  · rw [undone_len]; exact key _
theorem ok_renamed (B : Bt mg) (F : Fd K mg "_law_mk_renamed" s_l_mk_renamed) (D_l_mk_undone : Df P w K mg base CX0 1 "_law_mk_undone" ["_law_row"] spUndone) (D_l_mk_plain : Df P w K mg base CX0 1 "_law_mk_plain" ["_law_letters"] (spPlain K)) : Df P w K mg base CX0 2 "_law_mk_renamed" ["_law_images", "_law_row"] (spRenamed K) := by
  refine .mk' F sc_l_mk_renamed (fun _ _ _ _ _ _ us hl => match us, hl with | [_, _], _ => rfl) (fun vs H Q E h => ?_) (fun f cdv A outer s H vs Q E hr h => ?_)
  · unfold spRenamed at h
    obtain ⟨a, ws, xss, v, xs, rfl, _⟩ := h
    rfl
  · unfold spRenamed at h
    obtain ⟨a, ws, xss, v, xs, rfl, hL, hR, ⟨b, rfl, hb⟩, lx, l1, l2, q⟩ := h
    have nd := sc_l_mk_renamed.nd
    refine ⟨_, PSs.nox (pss_cons (ps_set (i := 2) nd rfl (Or.inl rfl) (pe_lst pa_nil))
      (pss_cons (ps_for PassesOwn.never rfl (pi_tup (pv 1)) (pg_name (i := 3) nd rfl (Or.inl rfl))
      (pss_one (ps_set (i := 2) nd rfl (Or.inl rfl) (pe_op op_cat (pv 2) (pe_callTy call_list_of (by rfl) B.list (by decide +kernel) (pa_cons (pe_ifExp (pt_cmpR op_gt (pv 3) (pe_int) (nomark _)) (pe_ix ix_list (pv 0) (pe_op op_sub (pv 3) (pe_int)) (fun _ _ => rfl)) (pe_df (D_l_mk_undone.mono (by decide)) hr rfl pass0 (pa_cons (pe_ix ix_list (pv 0) (pe_op op_sub (pe_op op_sub (pe_int) (pv 3)) (pe_int)) (fun _ _ => rfl)) pa_nil))) pa_nil))))))
      (pss_one (ps_ret (pe_df (D_l_mk_plain.mono (by decide)) hr rfl pass0 (pa_cons (pv 2) pa_nil)))))), ?_⟩
    refine ⟨Nat.zero_le _, fun D hD => ?_⟩
    have sD := Same.new (o := .lst []) hD
    refine ⟨_, rfl, b, rfl, ⟨iV xs, .inl (.inl (sD _ _ hb))⟩, ?_⟩
    refine for_wk (wk_tup (K := K) (H1 := H) (xs := iV xs) (a := b) (.inl (.inl hb))) (fun i σ H' => ∃ (D : Addr) (x3 : Option V), σ = [some (.ref a), some (.ref b), some (.ref D), x3] ∧ Same H H' ∧ H' D = some (.lst (iV ((xs.take i).flatMap (img xss)))) ∧ ((xs.take i).flatMap (img xss)).length ≤ i * 1000) ⟨D, _, rfl, sD, upd_same, by simp⟩ (fun i σ H' h => by obtain ⟨_, _, _, h, _⟩ := h; exact h) ?_ ?_
    · rintro i σ H1 hi ⟨D, x3, rfl, s1, e1, ln⟩
      simp only [iV, List.length_map] at hi
      rw [show (List.map V.int xs).getD i .non = .int (xs.getD i 0) from iV_getD hi]
      have hx := lx (xs.getD i 0) (by rw [List.getD_eq_getElem?_getD, List.getElem?_eq_getElem hi]; exact List.getElem_mem hi)
      have et : (xs.take (i + 1)).flatMap (img xss) = (xs.take i).flatMap (img xss) ++ img xss (xs.getD i 0) := by
        rw [take_get_succ hi, List.flatMap_append]
        simp
      have il := img_len l1 (xs.getD i 0)
      have hi5 : i * 1000 ≤ 500 * 1000 := Nat.mul_le_mul_right _ (by omega)
      have hg : ∀ j, j < xss.length → (xss.getD j []).length < 1000000 := fun j hj => by
        rw [List.getD_eq_getElem?_getD, List.getElem?_eq_getElem hj]
        have := l1 _ (List.getElem_mem hj)
        show (xss[j]).length < 1000000
        omega
      generalize xs.getD i 0 = x at hx et il
      refine ⟨_, rfl, _, rfl, _, _, rfl, rfl, _, rfl, ?_⟩
      refine ite_of (fun h0 => ?_) (fun h0 => ?_)
      · have h0 : 0 < x := of_decide_eq_true h0
        have ei : img xss x = xss.getD (x - 1).toNat [] := if_pos h0
        refine ⟨_, rfl, _, rfl, _, _, rfl, rfl, ixL_rows (s1.seq hL) (hR.same s1) (j := (x - 1).toNat) (by omega) (by omega) fun row rz => ?_⟩
        rw [← ei] at rz
        have s2 := Same.refl H1
        obtain ⟨z, rfl, hz⟩ := rz
        refine ⟨z, _, rfl, .inr (.inl (.inl hz)), fun p hp => ?_⟩
        have s3 := Same.new (o := .lst (iV (img xss x))) hp
        refine ⟨D, p, _, _, rfl, rfl, s3 _ _ (s2 _ _ e1), upd_same, by simp only [iV, List.length_map]; rw [PySem.sizeLine_eq]; omega, fun p5 hp5 => ?_⟩
        refine ⟨p5, _, rfl, ((s1.trans s2).trans s3).trans (Same.new hp5), ?_, ?_⟩
        · rw [upd_same, et]
          simp [iV]
        · rw [et, List.length_append]
          omega
      · have h0 : ¬ 0 < x := of_decide_eq_false h0
        have ei : img xss x = undone (xss.getD (0 - x - 1).toNat []) := if_neg h0
        refine ⟨_, rfl, _, rfl, _, _, rfl, rfl, _, _, rfl, rfl, ixL_rows (s1.seq hL) (hR.same s1) (j := (0 - x - 1).toNat) (by omega) (by omega) fun row rm => ?_⟩
        refine spUndone_i rm (hg _ (by omega)) fun row2 H2 s2 rz => ?_
        rw [← ei] at rz
        obtain ⟨z, rfl, hz⟩ := rz
        refine ⟨z, _, rfl, .inr (.inl (.inl hz)), fun p hp => ?_⟩
        have s3 := Same.new (o := .lst (iV (img xss x))) hp
        refine ⟨D, p, _, _, rfl, rfl, s3 _ _ (s2 _ _ e1), upd_same, by simp only [iV, List.length_map]; rw [PySem.sizeLine_eq]; omega, fun p5 hp5 => ?_⟩
        refine ⟨p5, _, rfl, ((s1.trans s2).trans s3).trans (Same.new hp5), ?_, ?_⟩
        · rw [upd_same, et]
          simp [iV]
        · rw [et, List.length_append]
          omega
    · rintro σ H1 ⟨D, x3, rfl, s1, e1, ln⟩
      simp only [iV, List.length_map] at e1 ln
      rw [List.take_length] at e1 ln
      refine ⟨_, rfl, spPlain_i (.inl (SqL.of e1)) ?_ fun v' H2 s2 r2 => q v' H2 (s1.trans s2) r2⟩
      have : xs.length * 1000 ≤ 500 * 1000 := Nat.mul_le_mul_right _ l2
      omega
end
end My
namespace My
open PySem PySem.Spec PyProof.Rows L2 SX
def basis (n : Nat) : List (List Int) := (List.range n).map fun (k : Nat) => [1 + (k : Int)]
/-- one elementary step -/
inductive Elem (n : Nat) : List (List Int) → Prop
  | inv (i : Nat) : i < n → Elem n ((basis n).set i [0 - (i : Int) - 1])
  | swap (i j : Nat) : i < n → j < n → i ≠ j → Elem n (((basis n).set i [(j : Int) + 1]).set j [(i : Int) + 1])
  | mul (i j : Nat) (s : Int) : i < n → j < n → i ≠ j → (s = 1 ∨ s = -1) → Elem n ((basis n).set i [(i : Int) + 1, s * ((j : Int) + 1)])
inductive Drawn (n : Nat) : Nat → List (List Int) → Prop
  | zero : Drawn n 0 (basis n)
  | step {k : Nat} {φ xss : List (List Int)} : Elem n φ → Drawn n k xss → Drawn n (k + 1) (xss.map (ren φ))
theorem basis_len (n : Nat) : (basis n).length = n := by simp [basis]
theorem Elem.len {n : Nat} {φ : List (List Int)} (h : Elem n φ) : φ.length = n := by
  cases h <;> simp [basis_len]
theorem Drawn.len {n k : Nat} {xss : List (List Int)} (h : Drawn n k xss) : xss.length = n := by
  induction h with
  | zero => exact basis_len n
  | step _ _ ih => rw [List.length_map]; exact ih
theorem basis_ok {n : Nat} {xs : List Int} (h : xs ∈ basis n) : Lets n xs ∧ xs.length = 1 := by
  unfold basis at h
  obtain ⟨k, hk, rfl⟩ := List.mem_map.mp h
  have := List.mem_range.mp hk
  exact ⟨fun x hx => by rw [List.mem_singleton.mp hx]; omega, rfl⟩
theorem Elem.ok {n : Nat} {φ : List (List Int)} (h : Elem n φ) : ∀ xs ∈ φ, Lets n xs ∧ xs.length ≤ 2 := by
  have b : ∀ xs ∈ basis n, Lets n xs ∧ xs.length ≤ 2 := fun xs hx => ⟨(basis_ok hx).1, by have := (basis_ok hx).2; omega⟩
  cases h with
  | inv i hi =>
    intro xs hx
    rcases List.mem_or_eq_of_mem_set hx with hx | rfl
    · exact b xs hx
    · exact ⟨fun x hx => by rw [List.mem_singleton.mp hx]; omega, by simp⟩
  | swap i j hi hj hij =>
    intro xs hx
    rcases List.mem_or_eq_of_mem_set hx with hx | rfl
    · rcases List.mem_or_eq_of_mem_set hx with hx | rfl
      · exact b xs hx
      · exact ⟨fun x hx => by rw [List.mem_singleton.mp hx]; omega, by simp⟩
    · exact ⟨fun x hx => by rw [List.mem_singleton.mp hx]; omega, by simp⟩
  | mul i j s hi hj hij hs =>
    intro xs hx
    rcases List.mem_or_eq_of_mem_set hx with hx | rfl
    · exact b xs hx
    · refine ⟨fun x hx => ?_, by simp⟩
      simp at hx
      rcases hx with rfl | rfl
      · omega
      · rcases hs with rfl | rfl <;> omega
theorem img_lets {n : Nat} {φ : List (List Int)} (h : ∀ xs ∈ φ, Lets n xs) (x : Int) : Lets n (img φ x) := by
  have key (j : Nat) : Lets n (φ.getD j []) := by
    rw [List.getD_eq_getElem?_getD]
    cases e : φ[j]? with
    | none => exact fun x hx => by cases hx
    | some ys => exact h ys (List.mem_of_getElem? e)
  unfold img
  split
  · exact key _
  · exact (key _).undone
theorem flat_len {φ : List (List Int)} (h : ∀ ys ∈ φ, ys.length ≤ 2) : ∀ xs : List Int, (xs.flatMap (img φ)).length ≤ 2 * xs.length
  | [] => by simp
  | x :: r => by
    have := flat_len h r
    have := img_len h x
    rw [List.flatMap_cons, List.length_append, List.length_cons]
    omega
theorem Drawn.ok {n k : Nat} {xss : List (List Int)} (h : Drawn n k xss) : ∀ xs ∈ xss, Lets n xs ∧ xs.length ≤ 2 ^ k := by
  induction h with
  | zero => exact fun xs hx => ⟨(basis_ok hx).1, by have := (basis_ok hx).2; omega⟩
  | @step k φ xss e _ ih =>
    intro xs hx
    obtain ⟨ys, hy, rfl⟩ := List.mem_map.mp hx
    have h1 := e.ok
    refine ⟨fun x hx => ?_, ?_⟩
    · obtain ⟨y, _, hx⟩ := List.mem_flatMap.mp (plain_mem hx)
      exact img_lets (fun zs hz => (h1 zs hz).1) y x hx
    · have h2 := plain_len (ys.flatMap (img φ))
      have h3 := flat_len (fun zs hz => (h1 zs hz).2) ys
      have h4 := (ih ys hy).2
      show (plain (ys.flatMap (img φ))).length ≤ 2 ^ (k + 1)
      rw [Nat.pow_succ]
      omega
section
variable {P : Program} {w : World} {K : PySem.W.Frag} {mg : Str → Option Value} {base : Heap}
@[irreducible] def spMkRen : Sp := fun vs H Q _ => ∃ (u : Sd) (k n m : Nat), vs = [.ref u.s, .int n, .int m] ∧ 1 ≤ n ∧ n ≤ 4 ∧ m ≤ 4 ∧ Dst H u (k + 20) ∧ ∀ (t a b : Addr) (ws : List V) (xss : List (List Int)) H', Kp u H H' → Dst H' u k → H' t = some (.tup [.ref a, .ref b]) → a ≠ u.s → a ≠ u.g → H' a = some (.lst ws) → Rws H' ws xss → Drawn n m xss → Q (.ref t) H'
theorem spMkRen_i {H : Hp} {u : Sd} {k n m : Nat} {Q : VK} {E : XK} (h1 : 1 ≤ n) (h2 : n ≤ 4) (h3 : m ≤ 4) (h : Dst H u (k + 20)) (q : ∀ (t a b : Addr) (ws : List V) (xss : List (List Int)) H', Kp u H H' → Dst H' u k → H' t = some (.tup [.ref a, .ref b]) → a ≠ u.s → a ≠ u.g → H' a = some (.lst ws) → Rws H' ws xss → Drawn n m xss → Q (.ref t) H') : spMkRen [.ref u.s, .int n, .int m] H Q E := by
  unfold spMkRen
  exact ⟨u, k, n, m, rfl, h1, h2, h3, h, q⟩
theorem rws_basis {H : Hp} {n : Nat} {ys : List V} (hl : ys.length = n) (h : ∀ (k : Nat) (v : V), ys[k]? = some v → Row H v [1 + (k : Int)]) : Rws H ys (basis n) := by
  unfold basis
  refine rws_of (f := fun (k : Nat) => [1 + (k : Int)]) (l := List.range n) (by simp [hl]) fun k v i h1 h2 => ?_
  have hk := (List.getElem?_eq_some_iff.mp h1).1
  rw [List.getElem?_range (by omega)] at h2
  cases h2
  exact h k v h1
theorem ok_mk_ren (B : Bt mg) (F : Fd K mg "_law_mk_renaming" s_l_mk_renaming) (D_l_draw : Df P w K mg base CX0 2 "_law_draw" ["_law_state", "_law_room"] spDraw) (D_l_mk_undone : Df P w K mg base CX0 1 "_law_mk_undone" ["_law_row"] spUndone) (D_l_mk_plain : Df P w K mg base CX0 1 "_law_mk_plain" ["_law_letters"] (spPlain K)) (D_l_mk_renamed : Df P w K mg base CX0 2 "_law_mk_renamed" ["_law_images", "_law_row"] (spRenamed K)) :
    Df P w K mg base CX0 3 "_law_mk_renaming" ["_law_state", "_law_deeds", "_law_steps"] spMkRen := by
  refine .mk' F sc_l_mk_renaming (fun _ _ _ _ _ _ us hl => match us, hl with | [_, _, _], _ => rfl) (fun vs H Q E h => ?_) (fun f cdv A outer s H vs Q E hr h => ?_)
  · unfold spMkRen at h
    obtain ⟨u, k, n, m, rfl, _⟩ := h
    rfl
  · unfold spMkRen at h
    obtain ⟨u, k, n, m, rfl, n1, n2, m4, hd, q⟩ := h
    have nd := sc_l_mk_renaming.nd
    refine ⟨_, PSs.nox (pss_cons (ps_setLc (i := 3) (own := [("_law_deed", 12)]) (g := gName 12) rfl nd rfl rfl (sw_true rfl rfl rfl (by decide +kernel)) (pi_range2 (by rfl) B.range (pa_cons (pe_int) (pa_cons (pe_op op_add (pv 1) (pe_int)) pa_nil))) (blkOk_by (own := [("_law_deed", 12)]) (N := ["_law_state", "_law_deeds", "_law_steps", "_law_images", "_law_back", "_law_lap", "_law_way", "_law_one", "_law_other", "_law_step", "_law_sign", "_law_less", "_law_deed", "_law_image"]) (sc := defScope s_l_mk_renaming) (by decide +kernel))
        (fun _ _ _ _ _ => pg_name (i := 12) nd rfl (Or.inl rfl)) (fun _ _ _ _ _ => pts_nil) (fun _ _ _ _ _ => pe_tup (pa_cons (pv 12) pa_nil)))
      (pss_cons (ps_set (i := 4) nd rfl (Or.inl rfl) (pe_callTy call_list_of (by rfl) B.list (by decide +kernel) (pa_cons (pv 3) pa_nil)))
      (pss_cons (ps_for PassesOwn.never rfl (pi_range1 (by rfl) B.range (pa_cons (pv 2) pa_nil)) (pg_name (i := 5) nd rfl (Or.inl rfl))
      (pss_cons (ps_par (i := 6) (j := 7) (by rfl) nd rfl rfl (by decide) rfl rfl (pa_cons (pe_df (D_l_draw.mono (by decide)) hr rfl pass0 (pa_cons (pv 0) (pa_cons (pe_int) pa_nil))) (pa_cons (pe_df (D_l_draw.mono (by decide)) hr rfl pass0 (pa_cons (pv 0) (pa_cons (pv 1) pa_nil))) pa_nil)) (by rfl))
      (C8.pss_cut (ps_set (i := 8) nd rfl (Or.inl rfl) (pe_ifExp (pt_cmpR op_gt (pv 1) (pe_int) (nomark _)) (pe_op op_mod (pe_op op_add (pe_op op_add (pv 7) (pe_int)) (pe_df (D_l_draw.mono (by decide)) hr rfl pass0 (pa_cons (pv 0) (pa_cons (pe_op op_sub (pv 1) (pe_int)) pa_nil)))) (pv 1)) (pv 7)))
      (pss_cons (ps_set (i := 9) nd rfl (Or.inr rfl) (pe_lc (own := [("_law_deed", 12)]) (g := gName 12) rfl nd (pi_range2 (by rfl) B.range (pa_cons (pe_int) (pa_cons (pe_op op_add (pv 1) (pe_int)) pa_nil))) (blkOk_by (own := [("_law_deed", 12)]) (N := ["_law_state", "_law_deeds", "_law_steps", "_law_images", "_law_back", "_law_lap", "_law_way", "_law_one", "_law_other", "_law_step", "_law_sign", "_law_less", "_law_deed", "_law_image"]) (sc := defScope s_l_mk_renaming) (by decide +kernel))
        (fun _ _ _ _ _ => pg_name (i := 12) nd rfl (Or.inl rfl)) (fun _ _ _ _ _ => pts_nil) (fun _ _ _ _ _ => pe_tup (pa_cons (pv 12) pa_nil))))
      (C8.pss_cut (ps_if (PW.pt (pw_or (pt_cmpR op_eq (pv 6) (pe_int) (nomark _)) (pw_or1 (pt_cmpR op_eq (pv 8) (pv 7) (nomark _)))))
      (pss_cons (ps_asg (pe_tup (pa_cons (pe_op op_sub (pe_op op_sub (pe_int) (pv 7)) (pe_int)) pa_nil)) (pg_sub (pv 9) (pv 7) set_list))
      (pss_one (ps_asg (pe_df (D_l_mk_undone.mono (by decide)) hr rfl pass0 (pa_cons (pe_ix ix_list (pv 4) (pv 7) (fun _ _ => rfl)) pa_nil)) (pg_sub (pv 4) (pv 7) set_list)))) (pss_one (ps_if (pt_cmpR op_eq (pv 6) (pe_int) (nomark _))
      (pss_cons (ps_asg (pe_tup (pa_cons (pe_tup (pa_cons (pe_op op_add (pv 8) (pe_int)) pa_nil)) (pa_cons (pe_tup (pa_cons (pe_op op_add (pv 7) (pe_int)) pa_nil)) pa_nil))) (pg_tup rfl (pgs_cons (pg_sub (pv 9) (pv 7) set_list) (pgs_cons (pg_sub (pv 9) (pv 8) set_list) pgs_nil))))
      (pss_one (ps_asg (pe_tup (pa_cons (pe_ix ix_list (pv 4) (pv 8) (fun _ _ => rfl)) (pa_cons (pe_ix ix_list (pv 4) (pv 7) (fun _ _ => rfl)) pa_nil))) (pg_tup rfl (pgs_cons (pg_sub (pv 4) (pv 7) set_list) (pgs_cons (pg_sub (pv 4) (pv 8) set_list) pgs_nil)))))) (pss_cons (ps_set (i := 10) nd rfl (Or.inl rfl) (pe_ifExp (pt_cmpR op_eq (pv 6) (pe_int) (nomark _)) (pe_int) (pe_un un_neg (pe_int))))
      (pss_cons (ps_asg (pe_tup (pa_cons (pe_op op_add (pv 7) (pe_int)) (pa_cons (pe_op op_mul (pv 10) (pe_op op_add (pv 8) (pe_int))) pa_nil))) (pg_sub (pv 9) (pv 7) set_list))
      (pss_cons (ps_set (i := 11) nd rfl (Or.inl rfl) (pe_ifExp (pt_cmpR op_eq (pv 10) (pe_int) (nomark _)) (pe_df (D_l_mk_undone.mono (by decide)) hr rfl pass0 (pa_cons (pe_ix ix_list (pv 4) (pv 8) (fun _ _ => rfl)) pa_nil)) (pe_ix ix_list (pv 4) (pv 8) (fun _ _ => rfl))))
      (pss_one (ps_asg (pe_df (D_l_mk_plain.mono (by decide)) hr rfl pass0 (pa_cons (pe_op op_catA (pe_ix ix_list (pv 4) (pv 7) (fun _ _ => rfl)) (pv 11)) pa_nil)) (pg_sub (pv 4) (pv 7) set_list)))))))))
      (pss_one (ps_setLc (i := 3) (own := [("_law_image", 13)]) (g := gName 13) rfl nd rfl rfl (sw_true rfl rfl rfl (by decide +kernel)) (pi_list (pv 3)) (blkOk_by (own := [("_law_image", 13)]) (N := ["_law_state", "_law_deeds", "_law_steps", "_law_images", "_law_back", "_law_lap", "_law_way", "_law_one", "_law_other", "_law_step", "_law_sign", "_law_less", "_law_deed", "_law_image"]) (sc := defScope s_l_mk_renaming) (by decide +kernel))
        (fun _ _ _ _ _ => pg_name (i := 13) nd rfl (Or.inl rfl)) (fun _ _ _ _ _ => pts_nil) (fun _ _ _ _ _ => pe_df (D_l_mk_renamed.mono (by decide)) hr rfl pass0 (pa_cons (pv 9) (pa_cons (pv 13) pa_nil))))))))))
      (pss_one (ps_ret (pe_tup (pa_cons (pv 3) (pa_cons (pv 4) pa_nil)))))))), ?_⟩
    refine ⟨_, rfl, _, _, rfl, rfl, _, _, rfl, ⟨by omega, by omega, by omega, by omega⟩, fun D hD => ?_⟩
    rw [show ((n : Int) + 1 - 1).toNat = n by omega]
    refine lc_map (fun k v H => Row H v [1 + (k : Int)]) (wk_range (H1 := H)) hD (by rw [PySem.sizeLine_eq]; omega) (fun _ => rfl) (fun _ _ _ _ e h => h.tst e) (fun i H' hi e Q' q' => ⟨_, rfl, by rw [PySem.sizeLine_eq]; simp, fun t ht => q' _ _ (Same.new ht) ⟨t, rfl, upd_same⟩⟩) (fun H1 ys s1 g1 g2 g3 => ?_)
    have rb := rws_basis g2 g3
    refine ⟨_, rfl, D, _, rfl, .inl (SqL.of g1), fun D2 hD2 => ?_⟩
    have s2 := Same.new (o := .lst ys) hD2
    refine ⟨_, rfl, _, rfl, by omega, by omega, ?_⟩
    rw [show ((m : Int)).toNat = m by omega]
    have s12 := s1.trans s2
    have oB : Off u D2 := (hd.same s1).off hD2
    have oD : Off u D := hd.off hD
    have nDB : D ≠ D2 := ne_of_none g1 hD2
    refine for_wk (wk_range (H1 := noHp)) (fun i σ H' => ∃ (D B : Addr) (x5 x6 x7 x8 x9 x10 x11 x12 x13 : Option V) (ws bs : List V) (xss yss : List (List Int)), σ = [some (.ref u.s), some (.int n), some (.int m), some (.ref D), some (.ref B), x5, x6, x7, x8, x9, x10, x11, x12, x13] ∧ Off u D ∧ Off u B ∧ D ≠ B ∧ H B = none ∧ Kp u H H' ∧ H' D = some (.lst ws) ∧ Rws H' ws xss ∧ Drawn n i xss ∧ H' B = some (.lst bs) ∧ Rws H' bs yss ∧ yss.length = n ∧ (∀ ys ∈ yss, ys.length ≤ 2 ^ i) ∧ i ≤ 4 ∧ Dst H' u (k + 20 - 3 * i))
      ⟨D, D2, _, _, _, _, _, _, _, _, _, ys, ys, basis n, basis n, rfl, oD, oB, nDB, ?_, Kp.of s12, s2 _ _ g1, rb.same s2, .zero, upd_same, rb.same s2, basis_len n, fun xs hx => by have := (basis_ok hx).2; omega, by omega, (hd.same s12)⟩ (fun i σ H' _ => Same.nil H') ?_ ?_
    · cases z : H D2 with
      | none => rfl
      | some o => rw [s1 _ _ z] at hD2; cases hD2
    · rintro i σ H2 hi ⟨D, B, x5, x6, x7, x8, x9, x10, x11, x12, x13, ws, bs, xss, yss, rfl, oD, oB, nDB, hB0, kp, eD, rD, dr, eB, rB, yl, yb, i4, ds⟩
      refine ⟨_, rfl, spDraw_i (k := k + 19 - 3 * i) (by omega) (by omega) (ds.le (by omega)) fun way H3 w0 w1 kp3 ds3 => ?_⟩
      refine ⟨_, rfl, _, rfl, spDraw_i (k := k + 18 - 3 * i) (by omega) (by omega) (ds3.le (by omega)) fun one H4 o0 o1 kp4 ds4 => ⟨_, _, rfl, ?_⟩⟩
      have kp24 := kp3.trans kp4
      refine ⟨fun σ' H' => ∃ other : Int, σ' = [some (.ref u.s), some (.int n), some (.int m), some (.ref D), some (.ref B), some (.int (0 + (i : Int))), some (.int way), some (.int one), some (.int other), x9, x10, x11, x12, x13] ∧ 0 ≤ other ∧ other < n ∧ Kp u H4 H' ∧ Dst H' u (k + 17 - 3 * i), ?_, ?_⟩
      · refine ⟨_, rfl, _, _, rfl, rfl, _, rfl, ?_⟩
        refine ite_of (fun h => ?_) (fun h => ?_)
        · have h : (1 : Int) < n := of_decide_eq_true h
          refine ⟨_, rfl, _, _, rfl, rfl, _, rfl, _, rfl, _, _, rfl, rfl, spDraw_i (k := k + 17 - 3 * i) (by omega) (by omega) (ds4.le (by omega)) fun d H5 d0 d1 kp5 ds5 => ?_⟩
          refine ⟨_, _, rfl, rfl, _, rfl, _, _, rfl, rfl, by omega, ?_⟩
          exact ⟨_, rfl, Int.emod_nonneg _ (by omega), Int.emod_lt_of_pos _ (by omega), kp5, ds5⟩
        · exact ⟨_, rfl, one, rfl, o0, o1, Kp.refl _ _, ds4.le (by omega)⟩
      · rintro σ' H5 ⟨other, rfl, t0, t1, kp5, ds5⟩
        have kp25 := kp24.trans kp5
        have eD5 := kp25 D _ oD.1 oD.2.1 eD
        have eB5 := kp25 B _ oB.1 oB.2.1 eB
        have rD5 := rD.tst (kp25.tst ds)
        have rB5 := rB.tst (kp25.tst ds)
        have kpa := kp.trans kp25
        obtain ⟨p, rfl⟩ : ∃ p : Nat, one = p := ⟨one.toNat, by omega⟩
        obtain ⟨r, rfl⟩ : ∃ r : Nat, other = r := ⟨other.toNat, by omega⟩
        have hp : p < n := by omega
        have hr' : r < n := by omega
        have xl := dr.len
        refine ⟨_, rfl, _, _, rfl, rfl, _, _, rfl, ⟨by omega, by omega, by omega, by omega⟩, fun St hSt => ?_⟩
        rw [show ((n : Int) + 1 - 1).toNat = n by omega]
        refine lc_map (fun k v H => Row H v [1 + (k : Int)]) (wk_range (H1 := H5)) hSt (by rw [PySem.sizeLine_eq]; omega) (fun _ => rfl) (fun _ _ _ _ e h => h.tst e) (fun i H' hi e Q' q' => ⟨_, rfl, by rw [PySem.sizeLine_eq]; simp, fun t ht => q' _ _ (Same.new ht) ⟨t, rfl, upd_same⟩⟩) (fun H6 sv s6 g1 g2 g3 => ?_)
        have rS := rws_basis g2 g3
        have oS : Off u St := ds5.off hSt
        have nSD : St ≠ D := fun z => by rw [z, eD5] at hSt; cases hSt
        have nSB : St ≠ B := fun z => by rw [z, eB5] at hSt; cases hSt
        have hS0 : H St = none := by
          cases z : H St with
          | none => rfl
          | some o =>
            have := kpa _ _ oS.1 oS.2.1 z
            rw [this] at hSt; cases hSt
        have eD6 := s6 _ _ eD5
        have eB6 := s6 _ _ eB5
        have rD6 := rD5.same s6
        have rB6 := rB5.same s6
        have kp6 := kpa.trans (Kp.of s6)
        have ds6 := ds5.same s6
        have p2 : (2 : Nat) ^ i ≤ 16 := by
          have := Nat.pow_le_pow_right (n := 2) (by omega) i4
          omega
        have pw : (2 : Nat) ^ (i + 1) = 2 ^ i * 2 := Nat.pow_succ ..
        refine ⟨fun σ' H' => ∃ (x10 x11 : Option V) (sv bs : List V) (φ yss : List (List Int)), σ' = [some (.ref u.s), some (.int n), some (.int m), some (.ref D), some (.ref B), some (.int (0 + (i : Int))), some (.int way), some (.int p), some (.int r), some (.ref St), x10, x11, x12, x13] ∧ Kp u H H' ∧ H' D = some (.lst ws) ∧ Rws H' ws xss ∧ H' St = some (.lst sv) ∧ Rws H' sv φ ∧ Elem n φ ∧ H' B = some (.lst bs) ∧ Rws H' bs yss ∧ yss.length = n ∧ (∀ ys ∈ yss, ys.length ≤ 2 ^ (i + 1)) ∧ Dst H' u (k + 17 - 3 * i), ?_, ?_⟩
        · have ixp {xs : List V} (h : xs.length = n) : ixN xs.length (p : Int) = some p := ixN_nat' (by omega)
          have ixr {xs : List V} (h : xs.length = n) : ixN xs.length (r : Int) = some r := ixN_nat' (by omega)
          have lsv : sv.length = n := g2
          have lbs : bs.length = n := by rw [rB6.len]; exact yl
          have ybn : ∀ ys ∈ yss, ys.length < 100000 := fun ys hy => by have := yb ys hy; omega
          have yg (j : Nat) (hj : j < n) : (yss.getD j []).length ≤ 2 ^ i := by
            rw [List.getD_eq_getElem?_getD, List.getElem?_eq_getElem (by omega)]
            exact yb _ (List.getElem_mem _)
          have ymem {ys zs : List Int} {j : Nat} (h : ys ∈ yss.set j zs) (hz : zs.length ≤ 2 ^ (i + 1)) : ys.length ≤ 2 ^ (i + 1) := by
            rcases List.mem_or_eq_of_mem_set h with h | rfl
            · have := yb ys h; omega
            · exact hz
          refine tIfS_of (decide (way = 0 ∨ (r : Int) = p)) (fun R q' => ?_) ?_
          · refine ⟨_, rfl, rfl, _, rfl, ?_⟩
            rw [decI]
            refine ite_of (fun h => ?_) (fun h => ?_)
            · rw [decide_eq_true (.inl (of_decide_eq_true h))] at q'
              exact q'
            · have h1 : ¬ way = 0 := of_decide_eq_false h
              refine ⟨_, rfl, _, rfl, rfl, _, rfl, ?_⟩
              rw [decI, show decide ((r : Int) = (p : Int)) = decide (way = 0 ∨ (r : Int) = p) from decide_eq_decide.mpr ⟨.inr, fun h => h.resolve_left h1⟩]
              exact q'
          · refine ite_of (fun h => ?_) (fun h => ?_)
            · refine ⟨_, rfl, _, _, rfl, rfl, _, _, rfl, rfl, by rw [PySem.sizeLine_eq]; simp, fun t ht => ?_⟩
              have s7 := Same.new (o := .tup [.int (0 - (p : Int) - 1)]) ht
              refine ⟨_, rfl, _, rfl, St, sv, _, p, rfl, rfl, s7 _ _ g1, ixp lsv, ?_⟩
              generalize hH8 : upd (upd H6 t (.tup [.int (0 - (p : Int) - 1)])) St (.lst (sv.set p (.ref t))) = H8
              have t8 : Tst H6 H8 := by rw [← hH8]; exact (Tst.of s7).upd (s7 _ _ g1) fun xs z => by cases z
              have rt : Row H8 (.ref t) [0 - (p : Int) - 1] := by
                have : Tst (upd H6 t (.tup [.int (0 - (p : Int) - 1)])) H8 := by rw [← hH8]; exact (Tst.refl _).upd (s7 _ _ g1) fun xs z => by cases z
                exact Row.tst this ⟨t, rfl, upd_same⟩
              have eB8 : H8 B = some (.lst bs) := by rw [← hH8, upd_ne nSB.symm]; exact s7 _ _ eB6
              have eD8 : H8 D = some (.lst ws) := by rw [← hH8, upd_ne nSD.symm]; exact s7 _ _ eD6
              have eS8 : H8 St = some (.lst (sv.set p (.ref t))) := by rw [← hH8, upd_same]
              have kp8 : Kp u H H8 := by rw [← hH8]; exact Kp.mut (kp6.trans (Kp.of s7)) hS0
              have ds8 : Dst H8 u (k + 17 - 3 * i) := by rw [← hH8]; exact (ds6.same s7).mut oS
              refine ⟨_, rfl, _, rfl, ixL_rows (SqL.of eB8) (rB6.tst t8) rfl (by omega) fun row rr => ?_⟩
              refine spUndone_i rr (by have := yg p hp; omega) fun v9 H9 s9 r9 => ?_
              refine ⟨_, rfl, _, rfl, B, bs, _, p, rfl, rfl, s9 _ _ eB8, ixp lbs, ?_⟩
              have t10 : Tst H9 (upd H9 B (.lst (bs.set p v9))) := (Tst.refl _).upd (s9 _ _ eB8) fun xs z => by cases z
              refine ⟨_, _, _, _, _, _, rfl, Kp.mut (kp8.trans (Kp.of s9)) hB0, by rw [upd_ne nDB]; exact s9 _ _ eD8, ((rD6.tst t8).same s9).tst t10, by rw [upd_ne nSB]; exact s9 _ _ eS8, ((Rws.set rt p (rS.tst t8)).same s9).tst t10, .inv p hp, upd_same, Rws.set (r9.tst t10) p (((rB6.tst t8).same s9).tst t10), by rw [List.length_set]; exact yl, fun ys hy => ymem hy (by rw [undone_len]; have := yg p hp; omega), (ds8.same s9).mut oB⟩
            · have hne : ¬ (way = 0 ∨ (r : Int) = p) := of_decide_eq_false h
              have hpr : p ≠ r := fun e => hne (.inr (by omega))
              refine tIfS_of (decide (way = 1)) (fun R q' => ⟨_, rfl, rfl, _, rfl, by rw [decI]; exact q'⟩) ?_
              refine ite_of (fun h => ?_) (fun h => ?_)
              · refine ⟨_, rfl, _, _, rfl, rfl, by rw [PySem.sizeLine_eq]; simp, fun t1 ht1 => ?_⟩
                have s7 := Same.new (o := .tup [.int ((r : Int) + 1)]) ht1
                refine ⟨_, rfl, _, _, rfl, rfl, by rw [PySem.sizeLine_eq]; simp, fun t2 ht2 => ?_⟩
                have s8 := Same.new (o := .tup [.int ((p : Int) + 1)]) ht2
                refine ⟨by rw [PySem.sizeLine_eq]; simp, fun t3 ht3 => ?_⟩
                have s9 := Same.new (o := .tup [.ref t1, .ref t2]) ht3
                have s79 := (s7.trans s8).trans s9
                refine ⟨t3, _, rfl, .inl (.inl upd_same), rfl, _, _, rfl, _, rfl, _, rfl, St, sv, _, p, rfl, rfl, s79 _ _ g1, ixp lsv, _, _, rfl, _, rfl, _, rfl, St, sv.set p (.ref t1), _, r, rfl, rfl, upd_same, ixr (by rw [List.length_set]; exact lsv), rfl, ?_⟩
                generalize hH9 : upd (upd (upd H6 t1 (.tup [.int ((r : Int) + 1)])) t2 (.tup [.int ((p : Int) + 1)])) t3 (.tup [.ref t1, .ref t2]) = H9 at s9 s79
                have a1 : H9 t1 = some (.tup [.int ((r : Int) + 1)]) := s9 _ _ (s8 _ _ upd_same)
                have a2 : H9 t2 = some (.tup [.int ((p : Int) + 1)]) := s9 _ _ upd_same
                have aS := s79 _ _ g1
                generalize hH10 : upd (upd H9 St (.lst (sv.set p (.ref t1)))) St (.lst ((sv.set p (.ref t1)).set r (.ref t2))) = H10
                have t9 : Tst H9 H10 := by
                  rw [← hH10]
                  exact ((Tst.refl _).upd aS fun xs z => by cases z).upd upd_same fun xs z => by cases z
                have t6 : Tst H6 H10 := (Tst.of s79).trans t9
                have eB10 : H10 B = some (.lst bs) := by rw [← hH10, upd_ne nSB.symm, upd_ne nSB.symm]; exact s79 _ _ eB6
                have eD10 : H10 D = some (.lst ws) := by rw [← hH10, upd_ne nSD.symm, upd_ne nSD.symm]; exact s79 _ _ eD6
                have eS10 : H10 St = some (.lst ((sv.set p (.ref t1)).set r (.ref t2))) := by rw [← hH10, upd_same]
                have kp10 : Kp u H H10 := by rw [← hH10]; exact Kp.mut (Kp.mut (kp6.trans (Kp.of s79)) hS0) hS0
                have ds10 : Dst H10 u (k + 17 - 3 * i) := by rw [← hH10]; exact ((ds6.same s79).mut oS).mut oS
                have r1 : Row H10 (.ref t1) [(r : Int) + 1] := Row.tst t9 ⟨t1, rfl, a1⟩
                have r2 : Row H10 (.ref t2) [(p : Int) + 1] := Row.tst t9 ⟨t2, rfl, a2⟩
                have rB10 := rB6.tst t6
                refine ⟨_, rfl, _, rfl, ixL_rows (SqL.of eB10) rB10 rfl (by omega) fun row1 q1 => ⟨_, rfl, _, rfl, ixL_rows (SqL.of eB10) rB10 rfl (by omega) fun row2 q2 => ⟨by rw [PySem.sizeLine_eq]; simp, fun t4 ht4 => ?_⟩⟩⟩
                have s11 := Same.new (o := .tup [row1, row2]) ht4
                refine ⟨t4, _, rfl, .inl (.inl upd_same), rfl, _, _, rfl, _, rfl, _, rfl, B, bs, _, p, rfl, rfl, s11 _ _ eB10, ixp lbs, _, _, rfl, _, rfl, _, rfl, B, bs.set p row1, _, r, rfl, rfl, upd_same, ixr (by rw [List.length_set]; exact lbs), rfl, ?_⟩
                generalize hH11 : upd H10 t4 (.tup [row1, row2]) = H11 at s11
                have aB := s11 _ _ eB10
                have t11 : Tst H11 (upd (upd H11 B (.lst (bs.set p row1))) B (.lst ((bs.set p row1).set r row2))) := ((Tst.refl _).upd aB fun xs z => by cases z).upd upd_same fun xs z => by cases z
                have t10 := (Tst.of s11).trans t11
                refine ⟨_, _, _, _, _, _, rfl, Kp.mut (Kp.mut (kp10.trans (Kp.of s11)) hB0) hB0, by rw [upd_ne nDB, upd_ne nDB]; exact s11 _ _ eD10, (rD6.tst t6).tst t10, by rw [upd_ne nSB, upd_ne nSB]; exact s11 _ _ eS10, (Rws.set r2 r (Rws.set r1 p (rS.tst t6))).tst t10, .swap p r hp hr' hpr, upd_same, Rws.set (q2.tst t10) r (Rws.set (q1.tst t10) p (rB10.tst t10)), by rw [List.length_set, List.length_set]; exact yl, fun ys hy => ?_, ((ds10.same s11).mut oB).mut oB⟩
                rcases List.mem_or_eq_of_mem_set hy with hy | rfl
                · exact ymem hy (by have := yg r hr'; omega)
                · have := yg p hp; omega
              · refine seqAsg (tIf_of (decide (way = 2)) (.int (if way = 2 then 1 else -1)) (fun R q' => ⟨_, rfl, rfl, _, rfl, by rw [decI]; exact q'⟩) (fun h Q' q' => by rw [if_pos (of_decide_eq_true h)] at q'; exact q') (fun h Q' q' => ⟨1, rfl, by rw [if_neg (of_decide_eq_false h)] at q'; exact q'⟩) ?_)
                have hsg : (if way = 2 then (1 : Int) else -1) = 1 ∨ (if way = 2 then (1 : Int) else -1) = -1 := by
                  split
                  · exact .inl rfl
                  · exact .inr rfl
                generalize (if way = 2 then (1 : Int) else -1) = sg at hsg
                refine ⟨_, rfl, _, _, rfl, rfl, _, rfl, _, rfl, _, _, rfl, rfl, _, _, rfl, rfl, .inl (by rcases hsg with rfl | rfl <;> decide), by rw [PySem.sizeLine_eq]; simp, fun t ht => ?_⟩
                have s7 := Same.new (o := .tup [.int ((p : Int) + 1), .int (sg * ((r : Int) + 1))]) ht
                refine ⟨_, rfl, _, rfl, St, sv, _, p, rfl, rfl, s7 _ _ g1, ixp lsv, ?_⟩
                generalize hH7 : upd H6 t (.tup [.int ((p : Int) + 1), .int (sg * ((r : Int) + 1))]) = H7 at s7
                have at7 : H7 t = some (.tup [.int ((p : Int) + 1), .int (sg * ((r : Int) + 1))]) := by rw [← hH7, upd_same]
                generalize hH8 : upd H7 St (.lst (sv.set p (.ref t))) = H8
                have t78 : Tst H7 H8 := by rw [← hH8]; exact (Tst.refl _).upd (s7 _ _ g1) fun xs z => by cases z
                have t8 : Tst H6 H8 := (Tst.of s7).trans t78
                have rt : Row H8 (.ref t) [(p : Int) + 1, sg * ((r : Int) + 1)] := Row.tst t78 ⟨t, rfl, at7⟩
                have eB8 : H8 B = some (.lst bs) := by rw [← hH8, upd_ne nSB.symm]; exact s7 _ _ eB6
                have eD8 : H8 D = some (.lst ws) := by rw [← hH8, upd_ne nSD.symm]; exact s7 _ _ eD6
                have eS8 : H8 St = some (.lst (sv.set p (.ref t))) := by rw [← hH8, upd_same]
                have kp8 : Kp u H H8 := by rw [← hH8]; exact Kp.mut (kp6.trans (Kp.of s7)) hS0
                have ds8 : Dst H8 u (k + 17 - 3 * i) := by rw [← hH8]; exact (ds6.same s7).mut oS
                have el : Elem n ((basis n).set p [(p : Int) + 1, sg * ((r : Int) + 1)]) := .mul p r sg hp hr' hpr hsg
                have yr := yg r hr'
                refine ⟨_, rfl, rfl, _, rfl, ?_⟩
                rw [decI]
                refine ite_of (fun hs1 => ?_) (fun hs1 => ?_)
                · refine ⟨_, rfl, _, rfl, ixL_rows (SqL.of eB8) (rB6.tst t8) rfl (by omega) fun row rr => ?_⟩
                  refine spUndone_i rr (by omega) fun lv H9 s9 rl => ?_
                  have ll : (undone (yss.getD r [])).length ≤ 2 ^ i := by rw [undone_len]; exact yr
                  generalize undone (yss.getD r []) = lr at rl ll
                  refine ⟨_, rfl, _, rfl, ixL_rows (SqL.of (s9 _ _ eB8)) ((rB6.tst t8).same s9) rfl (by omega) fun row q1 => ⟨_, rfl, ?_⟩⟩
                  refine catA_row q1 rl (by have := yg p hp; rw [PySem.sizeLine_eq]; omega) fun v10 H10 s10 r10 => ?_
                  refine spPlain_row r10 (by have := yg p hp; rw [List.length_append]; omega) fun v11 H11 s11 r11 => ?_
                  have s911 := (s9.trans s10).trans s11
                  refine ⟨_, rfl, _, rfl, B, bs, _, p, rfl, rfl, s911 _ _ eB8, ixp lbs, ?_⟩
                  have t12 : Tst H11 (upd H11 B (.lst (bs.set p v11))) := (Tst.refl _).upd (s911 _ _ eB8) fun xs z => by cases z
                  refine ⟨_, _, _, _, _, _, rfl, Kp.mut (kp8.trans (Kp.of s911)) hB0, by rw [upd_ne nDB]; exact s911 _ _ eD8, ((rD6.tst t8).same s911).tst t12, by rw [upd_ne nSB]; exact s911 _ _ eS8, ((Rws.set rt p (rS.tst t8)).same s911).tst t12, el, upd_same, Rws.set (r11.tst t12) p (((rB6.tst t8).same s911).tst t12), by rw [List.length_set]; exact yl, fun ys hy => ymem hy (by
                    have h1 := plain_len (yss.getD p [] ++ lr)
                    rw [List.length_append] at h1
                    have := yg p hp
                    omega), (ds8.same s911).mut oB⟩
                · refine ⟨_, rfl, _, rfl, ixL_rows (SqL.of eB8) (rB6.tst t8) rfl (by omega) fun lv rl => ?_⟩
                  have s9 := Same.refl H8
                  have ll : (yss.getD r []).length ≤ 2 ^ i := yr
                  generalize yss.getD r [] = lr at rl ll
                  refine ⟨_, rfl, _, rfl, ixL_rows (SqL.of (s9 _ _ eB8)) ((rB6.tst t8).same s9) rfl (by omega) fun row q1 => ⟨_, rfl, ?_⟩⟩
                  refine catA_row q1 rl (by have := yg p hp; rw [PySem.sizeLine_eq]; omega) fun v10 H10 s10 r10 => ?_
                  refine spPlain_row r10 (by have := yg p hp; rw [List.length_append]; omega) fun v11 H11 s11 r11 => ?_
                  have s911 := (s9.trans s10).trans s11
                  refine ⟨_, rfl, _, rfl, B, bs, _, p, rfl, rfl, s911 _ _ eB8, ixp lbs, ?_⟩
                  have t12 : Tst H11 (upd H11 B (.lst (bs.set p v11))) := (Tst.refl _).upd (s911 _ _ eB8) fun xs z => by cases z
                  refine ⟨_, _, _, _, _, _, rfl, Kp.mut (kp8.trans (Kp.of s911)) hB0, by rw [upd_ne nDB]; exact s911 _ _ eD8, ((rD6.tst t8).same s911).tst t12, by rw [upd_ne nSB]; exact s911 _ _ eS8, ((Rws.set rt p (rS.tst t8)).same s911).tst t12, el, upd_same, Rws.set (r11.tst t12) p (((rB6.tst t8).same s911).tst t12), by rw [List.length_set]; exact yl, fun ys hy => ymem hy (by
                    have h1 := plain_len (yss.getD p [] ++ lr)
                    rw [List.length_append] at h1
                    have := yg p hp
                    omega), (ds8.same s911).mut oB⟩
        · rintro σ' H7 ⟨x10, x11, sv, bs, φ, yss, rfl, kp7, eD7, rD7, eS7, rS7, el, eB7, rB7, yl7, yb7, ds7⟩
          refine ⟨_, rfl, D, rfl, ⟨_, SqL.of eD7⟩, fun D3 hD3 => ?_⟩
          have fl := el.len
          have fo := el.ok
          have xo := dr.ok
          refine lc_map (fun k v H => Row H v (ren φ (xss.getD k []))) (wk_list (SqL.of eD7)) hD3 (by rw [PySem.sizeLine_eq, rD7.len, xl]; omega) (fun _ => rfl) (fun _ _ _ _ e h => h.tst e) (fun j H' hj e Q' q' => ?_) (fun H8 zs s8 f1 f2 f3 => ?_)
          · obtain ⟨z, e1, rz⟩ := rD7.get (i := j) (by rw [← rD7.len]; exact hj)
            have ez : ws.getD j .non = z := by rw [List.getD_eq_getElem?_getD, e1]; rfl
            rw [ez]
            have hm : xss.getD j [] ∈ xss := by
              have hj2 : j < xss.length := by rw [← rD7.len]; exact hj
              rw [List.getD_eq_getElem?_getD, List.getElem?_eq_getElem hj2]
              exact List.getElem_mem _
            obtain ⟨lx, ln⟩ := xo _ hm
            refine ⟨_, rfl, _, rfl, spRenamed_i (SqL.of (e _ _ eS7)) (rS7.same e) (rz.same e) (by rw [fl]; exact lx) (fun ys hy => by have := (fo ys hy).2; omega) (by omega) fun v' H9 s9 r9 => q' v' H9 s9 r9⟩
          · have rn : Rws H8 zs (xss.map (ren φ)) := by
              have := rws_of (f := fun k => ren φ (xss.getD k [])) (ys := zs) (l := List.range xss.length) (by rw [f2, rD7.len]; simp) fun k v j h1 h2 => by
                have hk := (List.getElem?_eq_some_iff.mp h1).1
                rw [f2, rD7.len] at hk
                rw [List.getElem?_range hk] at h2
                cases h2
                exact f3 k v h1
              rw [map_range_getD xss [] (ren φ)] at this
              exact this
            refine ⟨D3, B, _, _, _, _, _, _, _, _, _, zs, bs, xss.map (ren φ), yss, rfl, ds7.off hD3, oB, (fun z => by rw [z, eB7] at hD3; cases hD3), hB0, kp7.trans (Kp.of s8), f1, rn, .step el dr, s8 _ _ eB7, rB7.same s8, yl7, yb7, by omega, (ds7.le (by omega)).same s8⟩
    · rintro σ H2 ⟨D, B, x5, x6, x7, x8, x9, x10, x11, x12, x13, ws, bs, xss, yss, rfl, oD, oB, nDB, hB0, kp, eD, rD, dr, eB, rB, yl, yb, i4, ds⟩
      refine ⟨_, rfl, _, rfl, by rw [PySem.sizeLine_eq]; simp, fun t ht => ?_⟩
      have s3 := Same.new (o := .tup [.ref D, .ref B]) ht
      exact q t D B ws xss _ (kp.trans (Kp.of s3)) ((ds.le (by omega)).same s3) upd_same oD.1 oD.2.1 (s3 _ _ eD) (rD.same s3) dr
end
end My
namespace My
open PySem PySem.Spec PyProof.Rows L2 SX
/-! ### a text so many times -/
theorem fold_rep (l : List Nat) : ∀ (m : Nat) (acc : List Nat), (List.replicate m l.toArray).foldl (· ++ ·) acc.toArray = (acc ++ (List.replicate m l).flatten).toArray
  | 0, acc => by simp
  | m + 1, acc => by
    have e : acc.toArray ++ l.toArray = (acc ++ l).toArray := by simp
    rw [List.replicate_succ, List.foldl_cons, List.replicate_succ, List.flatten_cons, e, fold_rep l m (acc ++ l), List.append_assoc]
theorem mul_S (l : List Nat) {k : Int} (h : 0 ≤ k) : Txt.mul (S l) k = S (List.replicate k.toNat l).flatten := by
  unfold Txt.mul
  split
  · rw [show k = 0 by omega]
    rfl
  · split
    · rename_i h1 h2
      rw [Bool.or_eq_true, beq_iff_eq, beq_iff_eq] at h2
      rcases h2 with h2 | h2
      · rw [h2]
        show S l = S (List.flatten [l])
        simp
      · rw [S_len] at h2
        obtain rfl := List.length_eq_zero_iff.mp h2
        congr 1
        induction k.toNat with
        | zero => rfl
        | succ n ih => rw [List.replicate_succ, List.flatten_cons, ← ih] <;> rfl
    · have := fold_rep l k.toNat []
      rw [List.nil_append] at this
      exact congrArg (fun a => (⟨a⟩ : Str)) this
def rRepS : R2 := fun x y H Q => ∃ (l : List Nat) (k : Int), x = .str (S l) ∧ y = .int k ∧ 0 ≤ k ∧ k ≤ 1000 ∧ l.length ≤ 1000 ∧ Q (.str (S (List.replicate k.toNat l).flatten)) H
theorem op_repS {X : Cx} : OpR X (binaryOp .Mult) rRepS := by
  intro pins s σ H x y v u Q I rx ry h
  obtain ⟨l, k, rfl, rfl, k0, k1, hl, q⟩ := h
  obtain ⟨t, rfl⟩ := rx
  obtain ⟨t', rfl⟩ := ry
  refine SB.mul ⟨?_, fun h1 _ => ?_, fun _ _ => ?_⟩ fun t' tk => ?_
  · rw [decide_eq_false (by omega), decide_eq_false (by omega)]
    rfl
  · rw [S_len]
    have : (1000 : Int) ≤ (2 ^ 63 - 1) / k := by
      refine Int.le_ediv_of_mul_le (by omega) ?_
      omega
    omega
  · unfold PySem.Builtin.Str.tooLong
    rw [S_len, sizeLine_eq]
    refine decide_eq_false ?_
    have : l.length * k.toNat ≤ 1000 * 1000 := Nat.mul_le_mul hl (by omega)
    omega
  · rw [mul_S l k0]
    exact ⟨.str _, H, I.tok _, ⟨_, rfl⟩, q⟩
/-! ### a call by keywords alone, in the parameters' order -/
def tCallK0 (n : Nat) (sp : Sp) (E : XK) (tk : TA) : TE := fun σ H Q => tk σ H fun zs H2 => zs.length = n ∧ sp zs H2 Q E
section
variable {X : Cx} {CX : CXT} {k : Nat} {ps : List Str} {sp : Sp} {E : XK} {x : Str} {st : Stmt} {p pos : Pos} {kws : List Keyword} {tk : TA}
theorem pe_dfK (D : Df X.prog X.w X.K X.mg X.base CX k x ps sp) (F : Fd X.K X.mg x st)
    (hb : ∀ (kV doc pm : Value) (an : Option Addr) (cdv ct : Value) (ws : List Value), ws.length = ps.length → bindArgs (PySem.W.fnOf x x (defArgs st) (defBody st) (defScope st) .none kV doc pm an cdv ct) ⟨[], ps.zip ws⟩ = pure (ps.zip ws))
    (hr : Room k X.A) (hg : Gl X x) (hx : Passes CX X E) (hkw : PK X kws tk) (hall : (backToKw pos (keywordEach kws X.env)).all (·.1.isSome) = true := by rfl) (hks : (backToKw pos (keywordEach kws X.env)).filterMap (·.1) = ps := by rfl)
    (hdb : (x == ("__debug__" : Str)) = false := by decide) (hpl : ((backTo pos (starEach [] X.env)).any (·.1) || (backToKw pos (keywordEach kws X.env)).any (·.1.isNone)) = false := by rfl) :
    PE X (.Call (.Name x p) [] kws pos) (tCallK0 ps.length sp E tk) := by
  obtain ⟨f, fd, FO, gm, kp, _, oc0, od0, osl0, lk0⟩ := D.ex
  obtain ⟨f', fd', F1, gm'⟩ := F.ex
  rw [gm] at gm'
  obtain rfl : f = f' := by
    have := Option.some.inj gm'
    exact Value.ref.inj this
  obtain ⟨oc, od, dV, kV, doc, pm, an, cdv, ct, osl, rfl, lk, hcd, hD, hK⟩ := F1.ex
  rw [lk0] at lk
  have efd : fd = PySem.W.fnOf x x (defArgs st) (defBody st) (defScope st) dV kV doc pm an cdv ct := by
    have := congrArg Obj.data (Option.some.inj lk)
    exact Data.func.inj this
  subst efd
  have hdv : dV = .none := by
    rcases hD with ⟨_, h⟩ | ⟨h, _⟩
    · exact h
    · exact absurd rfl h
  subst hdv
  have kb : KBn X.K (PySem.W.fnOf x x (defArgs st) (defBody st) (defScope st) .none kV doc pm an cdv ct) ps 0 ps (fun _ ws => ws) (fun _ zs => zs) := by
    refine ⟨fun s us ws _ h1 h2 => ?_, fun _ r => r⟩
    obtain rfl := List.length_eq_zero_iff.mp h1
    exact .of_eq (hb kV doc pm an cdv ct ws h2)
  refine ⟨fun pins s σ H Q I h => ?_⟩
  refine wpAny_Call_Name_kw (ld_glob I hg gm ?_ hdb)
  refine PySem.W.callWith_KW0 (h₀ := X.base) I.ok.mod.kin kp hall (thn (hkw.run pos pins s σ H _ I h) fun ws s2 ⟨zs, H2, I2, rz, l2, q2⟩ => ⟨I2.kIn, ?_⟩) hpl
  rw [hks]
  exact run_fnN (us := []) (vs := []) FO hr kb hx I2 .nil rz rfl l2 q2
end
/-! ### a def whose code object is known -/
structure Fdc (K : PySem.W.Frag) (mg : Str → Option Value) (x : Str) (st : Stmt) (c : Addr) : Prop where
  ex : ∃ (f : Addr) (fd : FuncData), FunD K x x (defArgs st) (defBody st) (defScope st) [] [] f fd ∧ mg x = some (.ref f) ∧ fd.code = .ref c
section
variable {P : Program} {w : World} {K : PySem.W.Frag} {mg : Str → Option Value} {base : Heap} {CX : CXT} {k : Nat} {x : Str} {ps N : List Str} {sp : Sp} {st : Stmt}
theorem Df.mkC {c : Addr} (F : Fdc K mg x st c) (S : FnScope N ps (defScope st))
    (hb : ∀ (kV doc pm : Value) (an : Option Addr) (cdv ct : Value) (us : List Value), us.length = ps.length → bindArgs (PySem.W.fnOf x x (defArgs st) (defBody st) (defScope st) .none kV doc pm an cdv ct) ⟨us, []⟩ = pure (ps.zip us))
    (len : ∀ vs H Q E, sp vs H Q E → vs.length = ps.length)
    (hbody : ∀ (f : Addr) (A : Around) (outer : List Env) (s : Shared) (H : Hp) (vs : List V) (Q : VK) (E : XK), Room k (A.deeper (envOfC x (defScope st) s.heap.objs.size f (.ref c))) → sp vs H Q E →
      ∃ t, PSs (cxOf CX P w K mg base N x (defScope st) f (.ref c) A outer s H E) (defBody st) t ∧ t { nx := fun _ H' => Q .non H', rt := Q } (start N vs) H) : Df P w K mg base CX (k + 1) x ps sp := by
  obtain ⟨f, fd, F1, gm, ec⟩ := F.ex
  have kp := F1.kp
  have bn := F1.bindsN hb
  obtain ⟨oc, od, dV, kV, doc, pm, an, cdv, ct, osl, rfl, lk, hcd, _, _⟩ := F1.ex
  obtain rfl : cdv = .ref c := ec
  exact ⟨f, _, fn_of lk hcd S len fun A outer s H vs Q E hr hsp => hbody f A outer s H vs Q E hr hsp, gm, kp, bn, oc, od, osl, lk⟩
end
/-! ### a loop over a list, where not all stays -/
theorem for_lst {K : PySem.W.Frag} {a : Addr} {xs : List V} {g : TG} {tb : TS} {D : Ends} {σ : L2.St} {H : Hp} (Pv : Nat → L2.St → Hp → Prop) (hq : ∀ i σ H, Pv i σ H → SqL K H a xs) (h0 : Pv 0 σ H)
    (hs : ∀ i σ H, i < xs.length → Pv i σ H → g (xs.getD i .non) σ H fun σ2 H2 => tb { D with nx := Pv (i + 1), ct := Pv (i + 1), bk := D.nx } σ2 H2) (hd : ∀ σ H, Pv xs.length σ H → D.nx σ H) :
    ∃ W : Nat → Nat → L2.St → Hp → Prop, (∃ m, W 0 m σ H) ∧ ∀ i m σ H, W i m σ H → ((Itl K a).stop i H ∧ D.nx σ H) ∨ ((Itl K a).go i H ∧ ∃ N : L2.St → Hp → Prop, (∀ σ' H', N σ' H' → ∃ m', m' < m ∧ W (i + 1) m' σ' H') ∧ ∀ x H', (Itl K a).yld i H x H' → g x σ H' fun σ2 H2 => tb { nx := N, rt := D.rt, bk := D.nx, ct := N } σ2 H2) := by
  refine ⟨fun i m σ H => m = xs.length - i ∧ i ≤ xs.length ∧ Pv i σ H, ⟨xs.length - 0, rfl, Nat.zero_le _, h0⟩, ?_⟩
  rintro i m σ H ⟨rfl, hi, hP⟩
  have w := wk_list (hq _ _ _ hP)
  by_cases hlt : i < xs.length
  · refine .inr ⟨w.go i H (Same.refl H) hlt, Pv (i + 1), fun σ' H' p => ⟨xs.length - (i + 1), by omega, rfl, hlt, p⟩, fun x H' y => ?_⟩
    obtain ⟨rfl, rfl⟩ := w.yld i H x H' (Same.refl H) hlt y
    exact hs i σ _ hlt hP
  · obtain rfl : i = xs.length := by omega
    exact .inl ⟨w.stop _ H (Same.refl H) (Nat.le_refl _), hd σ H hP⟩
/-! ### a comprehension whose items change the state: Pv tells of the heap, the list stands at D -/
theorem lc_st {J : It} {H1 : Hp} {D : Addr} {n j : Nat} {Xv : Nat → V} {te : TE} {vs : List Nat} {σ : L2.St} {Qd : Hp → Prop} (Pv : Nat → List V → Hp → Prop) (hn : n < sizeLine)
    (hgo : ∀ i ys H, Pv i ys H → i < n → J.go i H) (hstop : ∀ ys H, Pv n ys H → J.stop n H) (hyld : ∀ i ys H x H', Pv i ys H → i < n → J.yld i H x H' → H' = H ∧ x = Xv i)
    (hw : ∀ x, wipe ((wipe σ vs).set j (some x)) vs = wipe σ vs) (hP0 : Pv 0 [] (upd H1 D (.lst []))) (hD : ∀ i ys H, Pv i ys H → H D = some (.lst ys) ∧ ys.length = i)
    (he : ∀ i ys H', i < n → Pv i ys H' → ∀ Q' : VK, (∀ v H'', H'' D = some (.lst ys) → Pv (i + 1) (ys ++ [v]) (upd H'' D (.lst (ys ++ [v]))) → Q' v H'') → te ((wipe σ vs).set j (some (Xv i))) H' Q')
    (hd : ∀ (H' : Hp) (ys : List V), Pv n ys H' → Qd H') :
    ∃ W : Nat → Nat → Hp → Prop, (∃ m, W 0 m (upd H1 D (.lst []))) ∧ ∀ i m H, W i m H →
      (J.stop i H ∧ Qd H) ∨ (J.go i H ∧ ∃ Nx : Hp → Prop, (∀ H', Nx H' → ∃ m', m' < m ∧ W (i + 1) m' H') ∧ ∀ x H', J.yld i H x H' → gName j x (wipe σ vs) H' fun σ2 H2 => wipe σ2 vs = wipe σ vs ∧ tYes σ2 H2 fun b H3 =>
        if b = true then te σ2 H3 fun y H4 => ∃ acc, H4 D = some (.lst acc) ∧ acc.length < sizeLine ∧ Nx (upd H4 D (.lst (acc ++ [y]))) else Nx H3) := by
  refine ⟨fun i m H => m = n - i ∧ i ≤ n ∧ ∃ ys, Pv i ys H, ⟨n, by simp, Nat.zero_le _, [], hP0⟩, ?_⟩
  rintro i m H ⟨rfl, hi, ys, hP⟩
  by_cases hlt : i < n
  · refine .inr ⟨hgo i ys H hP hlt, fun H' => ∃ ys, Pv (i + 1) ys H', fun H' p => ⟨n - (i + 1), by omega, rfl, hlt, p⟩, fun x H' y => ?_⟩
    obtain ⟨rfl, rfl⟩ := hyld i ys H x H' hP hlt y
    refine ⟨hw _, ?_⟩
    refine iteT (B := ∃ ys, Pv (i + 1) ys H') (he i ys _ hlt hP _ fun v H4 h4 p4 => ⟨ys, h4, by rw [(hD i ys _ hP).2]; omega, _, p4⟩)
  · obtain rfl : i = n := by omega
    exact .inl ⟨hstop ys H hP, hd H ys hP⟩
end My
namespace My
open PySem PySem.Spec PyProof.Rows L2 SX LamX
/-! ### _law_caught in place -/
theorem pe_caught {X : Cx} {T : List (Addr × Str)} {CS c P : Addr} {k : Nat} {params : Arguments} {body : Expr} {scope : Scope} {t : XK → TE} {p lpos pos : Pos} (F : Fd X.K X.mg "_law_caught" s_l_caught) (hKE : X.mg "KeepError" = some (.ref CS)) (hg : Gl X "_law_caught")
    (TB : TabB X.base X.mg c P) (hcode : X.env.code = .ref c) (hmT : (P, X.env.qual ++ "<lambda>") ∈ T) (hu : ∀ p ∈ T, p.1 = P → p.2 = X.env.qual ++ "<lambda>") (hr : Room (k + 2) X.A)
    (hbody : ∀ (A : Around) (outer : List Env) (s : Shared) (H : Hp) (E : XK) (f c' : Addr), Room k (A.deeper (lamEnv X scope s.heap.objs.size f c')) → PE (lamCx X A outer s H E scope f c') body (t E))
    (L : lamSB X.env.scope scope = true := by rfl) (hdef : defaultsOf params X.env = ([], []) := by rfl)
    (hbind : ∀ (q : Str) (cl : List (Str × Addr)) (pm cv ctv : Value), bindArgs (PySem.W.kla_fn "<lambda>" q params body scope cl pm cv ctv) ⟨[], []⟩ = pure [] := by exact fun _ _ _ _ _ => rfl) :
    PE X (.Call (.Name "_law_caught" p) [.Lambda params body scope lpos] [] pos) (tLam T (TTcaught X.K CS) t) := by
  obtain ⟨g, fd, F1, gm⟩ := F.ex
  have kp := F1.kp
  have bn := F1.bindsN (ps := ["_law_action"]) (fun _ _ _ _ _ _ us hl => match us, hl with | [_], _ => rfl)
  obtain ⟨oc, od, dV, kV, doc, pm, an, cdv, ct, osl, rfl, lk, hcd, hD, hK⟩ := F1.ex
  exact pe_lamcall hg gm kp lk hcd bn sc_l_caught rfl (.inl rfl)
    (caught_gives (CS := CS) (p15 := ⟨0, 0, 0, 0⟩) sc_l_caught rfl hKE (by decide) rfl rfl (by decide) (by decide) (by decide) (by decide)) TB hcode hmT hu hr (lamS_by L) hdef hbind hbody
end My
namespace My
/-! ### plain: the law's reading of images gives texts of rows -/
/-- a text of a row that is whole -/
def Whole (n : Nat) (t : List Nat) : Prop := t = [49] ∨ (t ≠ [] ∧ ∀ c ∈ t, letterC n c ≠ 0)
/-- so far -/
def Begun (n : Nat) (t : List Nat) : Prop := t = [] ∨ Whole n t
def Fine (n : Nat) (m : Ms) : Prop := (m.want ≠ [] → ∀ t ∈ m.found, Whole n t) ∧ (m.want = [] → m.found ≠ [] ∧ (∀ k, k + 1 < m.found.length → Whole n (m.found.getD k [])) ∧ Begun n (m.found.getD (m.found.length - 1) []))
theorem letterC_49 (n : Nat) (hn : n ≤ 4) : letterC n 49 = 0 := by
  unfold letterC
  rw [if_neg (by omega), if_neg (by omega)]
theorem getD_mem {xs : List (List Nat)} {k : Nat} (h : k < xs.length) : xs.getD k [] ∈ xs := by
  rw [List.getD_eq_getElem?_getD, List.getElem?_eq_getElem h]
  exact List.getElem_mem h
theorem fine_all {n : Nat} {found : List (List Nat)} (h1 : ∀ k, k + 1 < found.length → Whole n (found.getD k [])) (h2 : Whole n (found.getD (found.length - 1) [])) : ∀ t ∈ found, Whole n t := by
  intro t ht
  obtain ⟨k, hk, rfl⟩ := List.mem_iff_getElem.mp ht
  have e : found.getD k [] = found[k] := by rw [List.getD_eq_getElem?_getD, List.getElem?_eq_getElem hk]; rfl
  by_cases h : k + 1 < found.length
  · rw [← e]; exact h1 k h
  · rw [← e, show k = found.length - 1 by omega]; exact h2
theorem mStep_fine {n L : Nat} (hn : n ≤ 4) {m m' : Ms} {c : Nat} (h : Fine n m) (e : mStep n L m c = .ok m') : Fine n m' := by
  obtain ⟨found, want, at'⟩ := m
  obtain ⟨hw, hl⟩ := h
  simp only at hw hl
  cases want with
  | cons x r =>
    have e : (if c = x then Except.ok (⟨if r = [] then found ++ [[]] else found, r, at' + 1⟩ : Ms) else .error at') = .ok m' := e
    split at e
    · cases e
      have ha := hw (by simp)
      refine ⟨fun hr => ?_, fun hr => ?_⟩
      · have hr : r ≠ [] := hr
        show ∀ t ∈ (if r = [] then found ++ [[]] else found), Whole n t
        rw [if_neg hr]
        exact ha
      · have hr : r = [] := hr
        show (if r = [] then found ++ [[]] else found) ≠ [] ∧ (∀ k, k + 1 < (if r = [] then found ++ [[]] else found).length → Whole n ((if r = [] then found ++ [[]] else found).getD k [])) ∧ Begun n ((if r = [] then found ++ [[]] else found).getD ((if r = [] then found ++ [[]] else found).length - 1) [])
        rw [if_pos hr]
        refine ⟨by simp, fun k hk => ?_, .inl ?_⟩
        · rw [List.length_append, List.length_singleton] at hk
          rw [List.getD_eq_getElem?_getD, List.getElem?_append_left (by omega), ← List.getD_eq_getElem?_getD]
          exact ha _ (getD_mem (by omega))
        · rw [List.length_append, List.length_singleton, Nat.add_sub_cancel, List.getD_eq_getElem?_getD, List.getElem?_append_right (Nat.le_refl _)]
          simp
    · cases e
  | nil =>
    obtain ⟨h1, h2, h3⟩ := hl rfl
    rw [mStep] at e
    simp only at e
    have hpos : 0 < found.length := List.length_pos_iff.mpr h1
    generalize hla : found.getD (found.length - 1) [] = la at e h3
    split at e
    · rename_i hc
      cases e
      refine ⟨fun h => absurd rfl h, fun _ => ?_⟩
      refine ⟨by simpa using h1, fun k hk => ?_, ?_⟩
      · rw [List.length_set] at hk
        rw [List.getD_eq_getElem?_getD, List.getElem?_set_ne (by omega), ← List.getD_eq_getElem?_getD]
        exact h2 k hk
      · simp only [List.length_set]
        rw [List.getD_eq_getElem?_getD, List.getElem?_set_self (by omega)]
        show Begun n (la ++ [c])
        refine .inr ?_
        rcases hc.2 with hc2 | ⟨rfl, hc2⟩
        · rcases h3 with rfl | rfl | ⟨h4, h5⟩
          · refine .inr ⟨by simp, fun d hd => ?_⟩
            rw [List.mem_singleton.mp hd]
            exact hc2
          · exact absurd rfl hc.1
          · refine .inr ⟨by simp, fun d hd => ?_⟩
            rcases List.mem_append.mp hd with hd | hd
            · exact h5 d hd
            · rw [List.mem_singleton.mp hd]
              exact hc2
        · rw [hc2]
          exact .inl rfl
    · split at e
      · rename_i hc
        cases e
        refine ⟨fun _ => fine_all h2 ?_, fun h => by cases h⟩
        rw [hla]
        rcases h3 with h3 | h3
        · exact absurd h3 hc.2.1
        · exact h3
      · split at e
        · cases e
        · cases e
          exact ⟨fun h => absurd rfl h, fun _ => ⟨h1, h2, by rw [hla]; exact h3⟩⟩
end My
namespace My
theorem lettersL_whole {n : Nat} : ∀ {t : List Nat}, (∀ c ∈ t, letterC n c ≠ 0) → lettersL n t = t.map (letterC n)
  | [], _ => rfl
  | c :: r, h => by
    have h0 := h c (by simp)
    have := lettersL_whole fun d hd => h d (List.mem_cons_of_mem _ hd)
    unfold lettersL at this ⊢
    rw [List.map_cons, List.takeWhile_cons, if_pos (by simpa using h0), this]
theorem whole_read {n : Nat} (hn : n ≤ 4) {t : List Nat} (h : Whole n t) (hl : t.length ≤ 200) : readRow n t = .ok (if t = [49] then [] else t.map (letterC n)) := by
  rcases h with rfl | ⟨h1, h2⟩
  · rfl
  · have n1 : t ≠ [49] := fun e => h2 49 (by rw [e]; simp) (letterC_49 n hn)
    have n2 : t.take 1 ≠ [49] := fun e => by
      cases t with
      | nil => exact h1 rfl
      | cons c r =>
        have : c = 49 := by simpa using e
        exact h2 49 (by rw [this]; simp) (letterC_49 n hn)
    rw [readRow, if_neg n1, if_neg n2, lettersL_whole h2, if_neg, if_neg n1]
    rintro (h | h | h)
    · exact h1 h
    · rw [List.length_map] at h; omega
    · rw [List.length_map] at h; omega
/-- what is wanted is the head of a deed -/
def WantOk (m : Ms) : Prop := ∀ c ∈ m.want, c ≠ 10
theorem mStep_want {n L : Nat} {m m' : Ms} {c : Nat} (h : WantOk m) (e : mStep n L m c = .ok m') : WantOk m' := by
  obtain ⟨found, want, at'⟩ := m
  cases want with
  | cons x r =>
    have e : (if c = x then Except.ok (⟨if r = [] then found ++ [[]] else found, r, at' + 1⟩ : Ms) else .error at') = .ok m' := e
    split at e
    · cases e
      exact fun d hd => h d (List.mem_cons_of_mem _ hd)
    · cases e
  | nil =>
    rw [mStep] at e
    simp only at e
    split at e
    · cases e
      exact fun d hd => by cases hd
    · split at e
      · cases e
        intro d hd
        simp at hd
        rcases hd with rfl | rfl <;> omega
      · split at e
        · cases e
        · cases e
          exact fun d hd => by cases hd
theorem mRun_app {n L : Nat} {c : Nat} : ∀ {l : List Nat} {m m' : Ms}, mRun n L m (l ++ [c]) = .ok m' → ∃ m1, mRun n L m l = .ok m1 ∧ mStep n L m1 c = .ok m'
  | [], m, m', e => by
    refine ⟨m, rfl, ?_⟩
    rw [List.nil_append, mRun] at e
    split at e
    · cases e
    · rename_i m2 h
      rw [mRun] at e
      rw [h, e]
  | d :: r, m, m', e => by
    rw [List.cons_append, mRun] at e
    split at e
    · cases e
    · rename_i m2 h
      obtain ⟨m1, h1, h2⟩ := mRun_app e
      refine ⟨m1, ?_, h2⟩
      rw [mRun, h]
      exact h1
theorem mRun_keep {n L : Nat} (hn : n ≤ 4) : ∀ {l : List Nat} {m m' : Ms}, Fine n m → WantOk m → mRun n L m l = .ok m' → Fine n m' ∧ WantOk m'
  | [], m, m', h1, h2, e => by
    rw [mRun] at e
    cases e
    exact ⟨h1, h2⟩
  | d :: r, m, m', h1, h2, e => by
    rw [mRun] at e
    split at e
    · cases e
    · rename_i m2 h
      exact mRun_keep hn (mStep_fine hn h1 h) (mStep_want h2 h) e
theorem letterC_10 (n : Nat) : letterC n 10 = 0 := by
  unfold letterC
  rw [if_neg (by omega), if_neg (by omega)]
/-- the images that the law reads are texts of rows -/
theorem mImages_whole {n : Nat} (hn : n ≤ 4) {l : List Nat} {found : List (List Nat)} (e : mImages n l = .ok found) : (∀ t ∈ found, Whole n t) ∧ n ≤ found.length := by
  unfold mImages at e
  split at e
  · cases e
  · rename_i m h
    cases e
    obtain ⟨m1, h1, h2⟩ := mRun_app h
    obtain ⟨f1, w1⟩ := mRun_keep hn ⟨(fun _ t ht => by cases ht), (fun h => by cases h)⟩ (fun c hc => by simp at hc; rcases hc with rfl | rfl <;> omega) h1
    obtain ⟨fd, want, at'⟩ := m1
    cases want with
    | cons x r =>
      have e : (if 10 = x then Except.ok (⟨if r = [] then fd ++ [[]] else fd, r, at' + 1⟩ : Ms) else .error at') = .ok m := h2
      have := w1 x (by simp)
      rw [if_neg (by omega)] at e
      cases e
    | nil =>
      obtain ⟨g1, g2, g3⟩ := f1.2 rfl
      simp only at g1 g2 g3
      rw [mStep] at h2
      simp only at h2
      rw [if_neg (by rintro ⟨_, h | ⟨h, _⟩⟩; exact h (letterC_10 n); omega), if_neg (by rintro ⟨h, _⟩; omega)] at h2
      split at h2
      · cases h2
      · rename_i hc
        cases h2
        refine ⟨fine_all g2 ?_, Nat.le_of_not_lt fun h => hc (.inr (.inr h))⟩
        rcases g3 with g3 | g3
        · exact absurd (.inr (.inl g3)) hc
        · exact g3
end My
namespace My
/-! ### plain rows: products -/
theorem snoc_or (acc : List Int) : acc = [] ∨ ∃ r z, acc = r ++ [z] := by
  rcases List.eq_nil_or_concat acc with h | ⟨r, z, h⟩
  · exact .inl h
  · exact .inr ⟨r, z, by rw [h, List.concat_eq_append]⟩
theorem step_snoc (r : List Int) (z x : Int) : plainStep (r ++ [z]) x = if z = 0 - x then r else r ++ [z] ++ [x] := by
  unfold plainStep
  rw [List.getLast?_append]
  simp
theorem adj_init {r : List Int} {z : Int} (h : adjOk (r ++ [z]) = true) : adjOk r = true := by
  rw [adj_iff] at h ⊢
  intro k hk
  have := h k (by rw [List.length_append]; omega)
  rw [getD_snoc_lt (by omega), getD_snoc_lt (by omega)] at this
  exact this
theorem plain_adj_id : ∀ (n : Nat) (xs : List Int), xs.length = n → adjOk xs = true → plain xs = xs
  | 0, xs, hn, _ => by rw [List.length_eq_zero_iff.mp hn]; rfl
  | n + 1, xs, hn, h => by
    rcases snoc_or xs with rfl | ⟨r, z, rfl⟩
    · rfl
    · have ih := plain_adj_id n r (by rw [List.length_append] at hn; simpa using hn) (adj_init h)
      rw [plain_snoc, ih]
      rcases snoc_or r with rfl | ⟨r', y, rfl⟩
      · rfl
      · have h2 := (adj_iff _).mp h r'.length (by simp)
        have e1 : (r' ++ [y] ++ [z]).getD r'.length 0 = y := by rw [getD_snoc_lt (by simp), getD_snoc_eq]
        have e2 : (r' ++ [y] ++ [z]).getD (r'.length + 1) 0 = z := by rw [show r'.length + 1 = (r' ++ [y]).length by simp, getD_snoc_eq]
        rw [e1, e2] at h2
        rw [step_snoc, if_neg h2]
theorem plain_id {xs : List Int} (h : adjOk xs = true) : plain xs = xs := plain_adj_id _ xs rfl h
theorem plain_plain (xs : List Int) : plain (plain xs) = plain xs := plain_id (plain_adj xs)
theorem plain_left (xs ys : List Int) : plain (plain xs ++ ys) = plain (xs ++ ys) := by
  rw [plain_foldl, plain_foldl, plain_plain]
theorem plain_right (xs : List Int) : ∀ (n : Nat) (ys : List Int), ys.length = n → plain (xs ++ plain ys) = plain (xs ++ ys)
  | 0, ys, hn => by rw [List.length_eq_zero_iff.mp hn]; rfl
  | n + 1, ys, hn => by
    rcases snoc_or ys with rfl | ⟨ys, y, rfl⟩
    · rfl
    · have ih := plain_right xs n ys (by rw [List.length_append] at hn; simpa using hn)
      rw [plain_snoc, ← List.append_assoc, plain_snoc, ← ih]
      rcases snoc_or (plain ys) with e | ⟨r, z, e⟩
      · rw [e, List.append_nil]
        show plain (xs ++ [y]) = _
        rw [plain_snoc]
      · rw [e, step_snoc]
        by_cases hz : z = 0 - y
        · rw [if_pos hz, ← List.append_assoc, plain_snoc, show y = 0 - z by omega, step_back (plain_adj _)]
        · rw [if_neg hz, ← List.append_assoc, plain_snoc]
theorem plain_app (xs ys : List Int) : plain (plain xs ++ plain ys) = plain (xs ++ ys) := by
  rw [plain_right _ _ _ rfl, plain_left]
theorem undone_app (xs ys : List Int) : undone (xs ++ ys) = undone ys ++ undone xs := by
  unfold undone
  rw [List.reverse_append, List.map_append]
theorem undone_undone (xs : List Int) : undone (undone xs) = xs := by
  unfold undone
  rw [← List.map_reverse, List.reverse_reverse, List.map_map]
  exact (List.map_congr_left fun x _ => by show 0 - (0 - x) = x; omega).trans (List.map_id xs)
theorem plain_undo (xs : List Int) : plain (xs ++ undone xs) = [] := by
  have key : ∀ (n : Nat) (xs : List Int), xs.length = n → plain (xs ++ undone xs) = [] := by
    intro n
    induction n with
    | zero =>
      intro xs hn
      rw [List.length_eq_zero_iff.mp hn]
      rfl
    | succ n ih =>
      intro xs hn
      rcases snoc_or xs with rfl | ⟨r, z, rfl⟩
      · rfl
      · rw [undone_app]
        have e : r ++ [z] ++ (undone [z] ++ undone r) = r ++ [z, 0 - z] ++ undone r := by
          show r ++ [z] ++ ([0 - z] ++ undone r) = _
          simp
        rw [e, plain_pair]
        exact ih r (by rw [List.length_append] at hn; simpa using hn)
  exact key _ xs rfl
/-- two words are one row -/
def Eqv (xs ys : List Int) : Prop := plain xs = plain ys
theorem Eqv.app {a b c d : List Int} (h : Eqv a b) (h' : Eqv c d) : Eqv (a ++ c) (b ++ d) := by
  unfold Eqv at *
  rw [← plain_app a c, ← plain_app b d, h, h']
theorem eqv_plain (xs : List Int) : Eqv (plain xs) xs := plain_plain xs
theorem undone_adj {xs : List Int} (h : adjOk xs = true) : adjOk (undone xs) = true := by
  rw [adj_iff] at h ⊢
  intro k hk
  rw [undone_len] at hk
  have g (j : Nat) (hj : j < xs.length) : (undone xs).getD j 0 = 0 - xs.getD (xs.length - 1 - j) 0 := by
    unfold undone
    rw [List.getD_eq_getElem?_getD, List.getElem?_map, List.getElem?_reverse hj, List.getElem?_eq_getElem (by omega), List.getD_eq_getElem?_getD, List.getElem?_eq_getElem (by omega)]
    rfl
  rw [g k (by omega), g (k + 1) hk]
  have h2 := h (xs.length - 1 - (k + 1)) (by omega)
  rw [show xs.length - 1 - (k + 1) + 1 = xs.length - 1 - k by omega] at h2
  omega
end My
namespace My
/-! ### plain: what rows generate -/
theorem Eqv.refl (xs : List Int) : Eqv xs xs := rfl
theorem Eqv.symm {xs ys : List Int} (h : Eqv xs ys) : Eqv ys xs := Eq.symm h
theorem Eqv.trans {xs ys zs : List Int} (h : Eqv xs ys) (h' : Eqv ys zs) : Eqv xs zs := Eq.trans h h'
theorem undo_left (xs : List Int) : Eqv (undone xs ++ xs) [] := by
  have := plain_undo (undone xs)
  rw [undone_undone] at this
  exact this
theorem Eqv.undone {xs ys : List Int} (h : Eqv xs ys) : Eqv (undone xs) (undone ys) := by
  have h1 : Eqv (My.undone xs ++ (ys ++ My.undone ys)) (My.undone xs) := by
    have := (Eqv.refl (My.undone xs)).app (show Eqv (ys ++ My.undone ys) [] from plain_undo ys)
    rwa [List.append_nil] at this
  have h2 : Eqv (My.undone xs ++ (ys ++ My.undone ys)) (My.undone xs ++ (xs ++ My.undone ys)) := (Eqv.refl _).app (h.symm.app (Eqv.refl _))
  have h3 : Eqv (My.undone xs ++ (xs ++ My.undone ys)) (My.undone ys) := by
    have := (undo_left xs).app (Eqv.refl (My.undone ys))
    rwa [List.nil_append, List.append_assoc] at this
  exact h1.symm.trans (h2.trans h3)
/-- words over images: the letter ±(i+1) stands for the i-th row or for it undone -/
def Gen (xss : List (List Int)) (xs : List Int) : Prop := ∃ w : List Int, Lets (xss.length : Nat) w ∧ Eqv (w.flatMap (img xss)) xs
theorem Gen.eqv {xss : List (List Int)} {xs ys : List Int} (h : Gen xss xs) (e : Eqv xs ys) : Gen xss ys := by
  obtain ⟨w, h1, h2⟩ := h
  exact ⟨w, h1, h2.trans e⟩
theorem Gen.nil (xss : List (List Int)) : Gen xss [] := ⟨[], (fun x h => by cases h), rfl⟩
theorem Gen.app {xss : List (List Int)} {xs ys : List Int} (h : Gen xss xs) (h' : Gen xss ys) : Gen xss (xs ++ ys) := by
  obtain ⟨w, h1, h2⟩ := h
  obtain ⟨v, h3, h4⟩ := h'
  exact ⟨w ++ v, h1.app h3, by rw [List.flatMap_append]; exact h2.app h4⟩
theorem img_neg {xss : List (List Int)} {x : Int} (h : x ≠ 0) : img xss (0 - x) = My.undone (img xss x) := by
  unfold img
  by_cases hx : 0 < x
  · rw [if_pos hx, if_neg (by omega)]
    rw [show 0 - (0 - x) - 1 = x - 1 by omega]
  · rw [if_neg hx, if_pos (by omega), undone_undone]
theorem flat_undone {xss : List (List Int)} : ∀ {w : List Int}, (∀ x ∈ w, x ≠ 0) → (My.undone w).flatMap (img xss) = My.undone (w.flatMap (img xss))
  | [], _ => rfl
  | x :: r, h => by
    have e : My.undone (x :: r) = My.undone r ++ [0 - x] := by
      rw [show x :: r = [x] ++ r from rfl, undone_app]
      rfl
    have h1 : [0 - x].flatMap (img xss) = img xss (0 - x) := by simp
    have h2 : (x :: r).flatMap (img xss) = img xss x ++ r.flatMap (img xss) := by simp
    rw [e, List.flatMap_append, flat_undone fun y hy => h y (by simp [hy]), h1, h2, undone_app, img_neg (h x (by simp))]
theorem Gen.undone {xss : List (List Int)} {xs : List Int} (h : Gen xss xs) : Gen xss (My.undone xs) := by
  obtain ⟨w, h1, h2⟩ := h
  exact ⟨My.undone w, h1.undone, by rw [flat_undone fun x hx => (h1 x hx).2.2]; exact h2.undone⟩
theorem Gen.one {xss : List (List Int)} {x : Int} (h : 0 - (xss.length : Int) ≤ x ∧ x ≤ xss.length ∧ x ≠ 0) : Gen xss (img xss x) :=
  ⟨[x], fun y hy => by rw [List.mem_singleton.mp hy]; exact h, by simp [Eqv]⟩
/-- rows that generate each of other rows generate what these generate -/
theorem Gen.of_all {xss yss : List (List Int)} (h : ∀ ys ∈ yss, Gen xss ys) {zs : List Int} (hz : Gen yss zs) : Gen xss zs := by
  obtain ⟨w, h1, h2⟩ := hz
  refine Gen.eqv ?_ h2
  clear h2
  induction w with
  | nil => exact Gen.nil xss
  | cons x r ih =>
    rw [List.flatMap_cons]
    refine Gen.app ?_ (ih fun y hy => h1 y (by simp [hy]))
    have hx := h1 x (by simp)
    have key (j : Nat) : Gen xss (yss.getD j []) := by
      rw [List.getD_eq_getElem?_getD]
      cases e : yss[j]? with
      | none => exact Gen.nil xss
      | some ys => exact h ys (List.mem_of_getElem? e)
    unfold img
    split
    · exact key _
    · exact (key _).undone
/-- every letter of n deeds is generated -/
def All (n : Nat) (xss : List (List Int)) : Prop := ∀ x : Int, 1 ≤ x → x ≤ n → Gen xss [x]
end My
namespace My
/-! ### plain: drawn renamings generate every letter -/
theorem hom_step {φ : List (List Int)} (acc : List Int) {x : Int} (hx : x ≠ 0) : Eqv ((plainStep acc x).flatMap (img φ)) ((acc ++ [x]).flatMap (img φ)) := by
  rcases snoc_or acc with rfl | ⟨r, z, rfl⟩
  · exact Eqv.refl _
  · rw [step_snoc]
    split
    · rename_i hz
      subst hz
      have h1 : (r ++ [0 - x] ++ [x]).flatMap (img φ) = r.flatMap (img φ) ++ (img φ (0 - x) ++ img φ x) := by simp [List.flatMap_append]
      rw [h1, img_neg hx]
      have := (Eqv.refl (r.flatMap (img φ))).app (undo_left (img φ x))
      rw [List.append_nil] at this
      exact this.symm
    · exact Eqv.refl _
theorem hom_plain {φ : List (List Int)} : ∀ (n : Nat) (xs : List Int), xs.length = n → (∀ x ∈ xs, x ≠ 0) → Eqv ((plain xs).flatMap (img φ)) (xs.flatMap (img φ))
  | 0, xs, hn, _ => by rw [List.length_eq_zero_iff.mp hn]; rfl
  | n + 1, xs, hn, h => by
    rcases snoc_or xs with rfl | ⟨ys, y, rfl⟩
    · rfl
    · have ih := hom_plain (φ := φ) n ys (by rw [List.length_append] at hn; simpa using hn) fun x hx => h x (by simp [hx])
      rw [plain_snoc]
      refine (hom_step (plain ys) (h y (by simp))).trans ?_
      rw [List.flatMap_append, List.flatMap_append]
      exact ih.app (Eqv.refl _)
/-- equal words have equal images -/
theorem Eqv.hom {φ : List (List Int)} {xs ys : List Int} (h : Eqv xs ys) (hx : ∀ x ∈ xs, x ≠ 0) (hy : ∀ y ∈ ys, y ≠ 0) : Eqv (xs.flatMap (img φ)) (ys.flatMap (img φ)) := by
  refine (hom_plain _ xs rfl hx).symm.trans ?_
  rw [show plain xs = plain ys from h]
  exact hom_plain _ ys rfl hy
theorem Gen.of_get {xss : List (List Int)} {k : Nat} {ys : List Int} (h : xss[k]? = some ys) : Gen xss ys := by
  have hk := (List.getElem?_eq_some_iff.mp h).1
  have := Gen.one (xss := xss) (x := (k : Int) + 1) (by omega)
  unfold img at this
  rw [if_pos (by omega), show ((k : Int) + 1 - 1).toNat = k by omega, List.getD_eq_getElem?_getD, h] at this
  exact this
theorem basis_get {n k : Nat} (h : k < n) : (basis n)[k]? = some [1 + (k : Int)] := by
  unfold basis
  rw [List.getElem?_map, List.getElem?_range h]
  rfl
theorem All.of_nat {n : Nat} {xss : List (List Int)} (h : ∀ k : Nat, k < n → Gen xss [1 + (k : Int)]) : All n xss := by
  intro x h1 h2
  have := h (x - 1).toNat (by omega)
  rwa [show 1 + (((x - 1).toNat : Nat) : Int) = x by omega] at this
theorem basis_all (n : Nat) : All n (basis n) := All.of_nat fun _ h => .of_get (basis_get h)
theorem Elem.all {n : Nat} {φ : List (List Int)} (h : Elem n φ) : All n φ := by
  refine All.of_nat fun k hk => ?_
  cases h with
  | inv i hi =>
    by_cases e : k = i
    · subst e
      have := (Gen.of_get (xss := (basis n).set k [0 - (k : Int) - 1]) (k := k) (by rw [List.getElem?_set_self (by rw [basis_len]; exact hk)])).undone
      have e : My.undone [0 - (k : Int) - 1] = [1 + (k : Int)] := by
        show [0 - (0 - (k : Int) - 1)] = _
        rw [show 0 - (0 - (k : Int) - 1) = 1 + (k : Int) by omega]
      rwa [e] at this
    · exact .of_get (k := k) (by rw [List.getElem?_set_ne (by omega)]; exact basis_get hk)
  | swap i j hi hj hij =>
    by_cases e : k = i
    · subst e
      refine .of_get (k := j) ?_
      rw [List.getElem?_set_self (by rw [List.length_set, basis_len]; exact hj), Int.add_comm]
    · by_cases e' : k = j
      · subst e'
        refine .of_get (k := i) ?_
        rw [List.getElem?_set_ne (by omega), List.getElem?_set_self (by rw [basis_len]; exact hi), Int.add_comm]
      · exact .of_get (k := k) (by rw [List.getElem?_set_ne (by omega), List.getElem?_set_ne (by omega)]; exact basis_get hk)
  | mul i j s hi hj hij hs =>
    have other : ∀ k : Nat, k < n → k ≠ i → Gen ((basis n).set i [(i : Int) + 1, s * ((j : Int) + 1)]) [1 + (k : Int)] := fun k hk e => .of_get (k := k) (by rw [List.getElem?_set_ne (by omega)]; exact basis_get hk)
    by_cases e : k = i
    · subst e
      have h1 := Gen.of_get (xss := (basis n).set k [(k : Int) + 1, s * ((j : Int) + 1)]) (k := k) (by rw [List.getElem?_set_self (by rw [basis_len]; exact hk)])
      have h2 := other j hj (by omega)
      rcases hs with rfl | rfl
      · refine (h1.app h2.undone).eqv ?_
        rw [show [(k : Int) + 1, 1 * ((j : Int) + 1)] = [1 + (k : Int)] ++ [1 + (j : Int)] by rw [Int.one_mul, Int.add_comm, Int.add_comm (j : Int)]; rfl, List.append_assoc]
        have := (Eqv.refl [1 + (k : Int)]).app (show Eqv ([1 + (j : Int)] ++ My.undone [1 + (j : Int)]) [] from plain_undo _)
        rwa [List.append_nil] at this
      · refine (h1.app h2).eqv ?_
        rw [show [(k : Int) + 1, -1 * ((j : Int) + 1)] = [1 + (k : Int)] ++ My.undone [1 + (j : Int)] by
          rw [Int.add_comm (k : Int)]
          show [1 + (k : Int), -1 * ((j : Int) + 1)] = [1 + (k : Int), 0 - (1 + (j : Int))]
          rw [show -1 * ((j : Int) + 1) = 0 - (1 + (j : Int)) by omega], List.append_assoc]
        have := (Eqv.refl [1 + (k : Int)]).app (undo_left [1 + (j : Int)])
        rwa [List.append_nil] at this
    · exact other k hk e
theorem img_ren {φ xss : List (List Int)} (nx : ∀ xs ∈ xss, ∀ x ∈ xs, x ≠ 0) (y : Int) : Eqv (img (xss.map (My.ren φ)) y) ((img xss y).flatMap (img φ)) := by
  have key (j : Nat) : Eqv ((xss.map (My.ren φ)).getD j []) ((xss.getD j []).flatMap (img φ)) := by
    rw [List.getD_eq_getElem?_getD, List.getD_eq_getElem?_getD, List.getElem?_map]
    cases e : xss[j]? with
    | none => exact Eqv.refl _
    | some ys => exact plain_plain _
  have nz (j : Nat) : ∀ x ∈ xss.getD j [], x ≠ 0 := by
    rw [List.getD_eq_getElem?_getD]
    cases e : xss[j]? with
    | none => exact fun x hx => by cases hx
    | some ys => exact nx ys (List.mem_of_getElem? e)
  unfold img
  split
  · exact key _
  · have := (key (0 - y - 1).toNat).undone
    rwa [← flat_undone (nz _)] at this
theorem img_nz {xss : List (List Int)} (nx : ∀ xs ∈ xss, ∀ x ∈ xs, x ≠ 0) (y : Int) : ∀ x ∈ img xss y, x ≠ 0 := by
  have nz (j : Nat) : ∀ x ∈ xss.getD j [], x ≠ 0 := by
    rw [List.getD_eq_getElem?_getD]
    cases e : xss[j]? with
    | none => exact fun x hx => by cases hx
    | some ys => exact nx ys (List.mem_of_getElem? e)
  unfold img
  split
  · exact nz _
  · intro x hx
    unfold My.undone at hx
    obtain ⟨z, hz, rfl⟩ := List.mem_map.mp hx
    have := nz _ z (List.mem_reverse.mp hz)
    omega
theorem flat_ren {φ xss : List (List Int)} (nx : ∀ xs ∈ xss, ∀ x ∈ xs, x ≠ 0) : ∀ w : List Int, Eqv (w.flatMap (img (xss.map (My.ren φ)))) ((w.flatMap (img xss)).flatMap (img φ))
  | [] => rfl
  | y :: r => by
    rw [List.flatMap_cons, List.flatMap_cons, List.flatMap_append]
    exact (img_ren nx y).app (flat_ren nx r)
theorem Gen.ren {φ xss : List (List Int)} {zs : List Int} (nx : ∀ xs ∈ xss, ∀ x ∈ xs, x ≠ 0) (nz : ∀ z ∈ zs, z ≠ 0) (h : Gen xss zs) : Gen (xss.map (My.ren φ)) (zs.flatMap (img φ)) := by
  obtain ⟨w, h1, h2⟩ := h
  refine ⟨w, by rw [List.length_map]; exact h1, (flat_ren nx w).trans (h2.hom (fun x hx => ?_) nz)⟩
  obtain ⟨y, _, hy⟩ := List.mem_flatMap.mp hx
  exact img_nz nx y x hy
theorem All.lets {n : Nat} {xss : List (List Int)} (h : All n xss) : ∀ {v : List Int}, Lets n v → Gen xss v
  | [], _ => Gen.nil xss
  | x :: r, hv => by
    have h1 := hv x (by simp)
    refine Gen.app (xs := [x]) ?_ (h.lets fun y hy => hv y (by simp [hy]))
    by_cases hx : 0 < x
    · exact h x (by omega) h1.2.1
    · have := (h (0 - x) (by omega) (by omega)).undone
      rwa [show My.undone [0 - x] = [x] by
        show [0 - (0 - x)] = [x]
        rw [show 0 - (0 - x) = x by omega]] at this
/-- images of generating rows under a renaming that generates every letter generate every letter -/
theorem All.ren {n : Nat} {φ xss : List (List Int)} (hφ : All n φ) (lφ : φ.length = n) (nx : ∀ xs ∈ xss, ∀ x ∈ xs, x ≠ 0) (hx : All n xss) : All n (xss.map (My.ren φ)) := by
  intro x h1 h2
  obtain ⟨v, hv, e⟩ := hφ x h1 h2
  rw [lφ] at hv
  exact Gen.eqv (Gen.ren nx (fun z hz => (hv z hz).2.2) (hx.lets hv)) e
/-- a drawn renaming generates every letter -/
theorem Drawn.all {n k : Nat} {xss : List (List Int)} (h : Drawn n k xss) : All n xss := by
  induction h with
  | zero => exact basis_all n
  | step e d ih => exact e.all.ren e.len (fun xs hx x hm => ((d.ok xs hx).1 x hm).2.2) ih
end My
namespace My
/-! ### plain: near steps keep what the rows generate -/
theorem goneR_form : ∀ r s : List Int, r.take (goneR r s) = (s.take (goneR r s)).map fun x => 0 - x
  | [], s => by simp [goneR]
  | x :: r, [] => by simp [goneR]
  | x :: r, y :: s => by
    unfold goneR
    split
    · rename_i e
      rw [List.take_succ_cons, List.take_succ_cons, List.map_cons, goneR_form r s, e]
    · rfl
theorem joined_eqv (a b : List Int) : Eqv (joined a b) (a ++ b) := by
  have h0 := gone_le a b
  have h1 : a.drop (a.length - gone a b) = undone (b.take (gone a b)) := by
    have := goneR_form a.reverse b
    rw [List.take_reverse] at this
    have h2 : a.drop (a.length - gone a b) = ((b.take (gone a b)).map fun x => 0 - x).reverse := by
      rw [← List.reverse_reverse (a.drop _)]
      exact congrArg List.reverse this
    rw [h2, ← List.map_reverse]
    rfl
  unfold joined
  have h3 : a ++ b = a.take (a.length - gone a b) ++ ((undone (b.take (gone a b)) ++ b.take (gone a b)) ++ b.drop (gone a b)) := by
    rw [← h1, List.append_assoc, List.take_append_drop, ← List.append_assoc, List.take_append_drop]
  rw [h3]
  have := (Eqv.refl (a.take (a.length - gone a b))).app ((undo_left (b.take (gone a b))).app (Eqv.refl (b.drop (gone a b))))
  rw [List.nil_append] at this
  exact this.symm
theorem near_some {xss : List (List Int)} {s : Step} {r : List Int} (h : near xss = some (s, r)) : ∃ o : Nat, s.1 < xss.length ∧ o < xss.length ∧ o ≠ s.1 ∧ (s.2.1 = (o : Int) + 1 ∨ s.2.1 = 0 - (o : Int) - 1) ∧ nearer xss s.1 s.2.1 s.2.2 = some r := by
  unfold near at h
  obtain ⟨p, hp, h⟩ := List.exists_of_findSome?_eq_some h
  unfold near1 at h
  obtain ⟨o, ho, h⟩ := List.exists_of_findSome?_eq_some h
  unfold near2 at h
  obtain ⟨x, hx, h⟩ := List.exists_of_findSome?_eq_some h
  unfold near3 at h
  obtain ⟨b, hb, h⟩ := List.exists_of_findSome?_eq_some h
  unfold near4 at h
  obtain ⟨r', hr, h⟩ := Option.map_eq_some_iff.mp h
  cases h
  unfold lettersFor at hx
  by_cases e : o = p
  · rw [if_pos e] at hx; cases hx
  · rw [if_neg e] at hx
    exact ⟨o, List.mem_range.mp hp, List.mem_range.mp ho, e, by simpa using hx, hr⟩
theorem nearer_some {xss : List (List Int)} {p : Nat} {x : Int} {b : Bool} {r : List Int} (h : nearer xss p x b = some r) : r = joined (firstOf b (img xss x) (xss.getD p [])) (firstOf b (xss.getD p []) (img xss x)) := by
  unfold nearer at h
  simp only at h
  split at h
  · cases h
  · split at h
    · cases h; rfl
    · cases h
theorem img_set {xss : List (List Int)} {p o : Nat} {x : Int} {r : List Int} (ho : o ≠ p) (hx : x = (o : Int) + 1 ∨ x = 0 - (o : Int) - 1) : img (xss.set p r) x = img xss x := by
  have key : (xss.set p r).getD o [] = xss.getD o [] := by
    rw [List.getD_eq_getElem?_getD, List.getD_eq_getElem?_getD, List.getElem?_set_ne (by omega)]
  unfold img
  rcases hx with rfl | rfl
  · rw [if_pos (by omega), if_pos (by omega), show ((o : Int) + 1 - 1).toNat = o by omega, key]
  · rw [if_neg (by omega), if_neg (by omega), show (0 - (0 - (o : Int) - 1) - 1).toNat = o by omega, key]
/-- a near step keeps «generates every letter» -/
theorem near_all {n : Nat} {xss : List (List Int)} {s : Step} {r : List Int} (h : near xss = some (s, r)) (ha : All n xss) : All n (xss.set s.1 r) := by
  obtain ⟨o, hp, ho, hne, hx, hn⟩ := near_some h
  obtain ⟨p, x, b⟩ := s
  simp only at hp hne hx hn ⊢
  have er := nearer_some hn
  have g1 : Gen (xss.set p r) (img xss x) := by
    have := Gen.one (xss := xss.set p r) (x := x) (by rw [List.length_set]; omega)
    rwa [img_set hne hx] at this
  have g2 : Gen (xss.set p r) r := .of_get (k := p) (by rw [List.getElem?_set_self hp])
  have g3 : Gen (xss.set p r) (xss.getD p []) := by
    have e := joined_eqv (firstOf b (img xss x) (xss.getD p [])) (firstOf b (xss.getD p []) (img xss x))
    rw [← er] at e
    cases b with
    | true =>
      refine (g1.undone.app g2).eqv ?_
      have e' : Eqv r (img xss x ++ xss.getD p []) := e
      have h1 := (Eqv.refl (undone (img xss x))).app e'
      rw [← List.append_assoc] at h1
      have h2 := (undo_left (img xss x)).app (Eqv.refl (xss.getD p []))
      rw [List.nil_append] at h2
      exact h1.trans h2
    | false =>
      refine (g2.app g1.undone).eqv ?_
      have e' : Eqv r (xss.getD p [] ++ img xss x) := e
      have h1 := e'.app (Eqv.refl (undone (img xss x)))
      rw [List.append_assoc] at h1
      have h2 := (Eqv.refl (xss.getD p [])).app (show Eqv (img xss x ++ undone (img xss x)) [] from plain_undo _)
      rw [List.append_nil] at h2
      exact h1.trans h2
  intro y h1 h2
  refine Gen.of_all (fun ys hy => ?_) (ha y h1 h2)
  obtain ⟨k, hk⟩ := List.getElem?_of_mem hy
  by_cases e : k = p
  · subst e
    rw [List.getD_eq_getElem?_getD, hk] at g3
    exact g3
  · exact .of_get (k := k) (by rw [List.getElem?_set_ne (by omega)]; exact hk)
/-- the way down keeps it too -/
theorem Down.all {n : Nat} {xss last : List (List Int)} {steps : List Step} (h : Down xss steps last) (ha : All n xss) : All n last := by
  induction h with
  | stop _ => exact ha
  | step e _ ih => exact ih (near_all e ha)
theorem Down.end {xss last : List (List Int)} {steps : List Step} (h : Down xss steps last) : near last = none ∧ last.length = xss.length := by
  induction h with
  | stop h => exact ⟨h, rfl⟩
  | step _ _ ih => exact ⟨ih.1, by rw [ih.2, List.length_set]⟩
end My
namespace My
/-! ### plain: a joined row is plain -/
theorem adjO_iff {xs : List Int} : adjOk xs = true ↔ ∀ k, k + 1 < xs.length → xs.getD k 0 ≠ 0 - xs.getD (k + 1) 0 := by
  unfold adjOk
  rw [List.all_eq_true]
  constructor
  · intro h k hk
    have := h k (List.mem_range.mpr (by omega))
    simpa using this
  · intro h k hk
    have := h k (by have := List.mem_range.mp hk; omega)
    simpa using this
theorem adj_cons2 {x y : Int} {r : List Int} : adjOk (x :: y :: r) = true ↔ x ≠ 0 - y ∧ adjOk (y :: r) = true := by
  rw [adjO_iff, adjO_iff]
  constructor
  · intro h
    refine ⟨h 0 (by simp), fun k hk => ?_⟩
    exact h (k + 1) (by simp at hk ⊢; omega)
  · rintro ⟨h1, h2⟩ k hk
    cases k with
    | zero => exact h1
    | succ k => exact h2 k (by simp at hk ⊢; omega)
theorem adj_one (x : Int) : adjOk [x] = true := adjO_iff.mpr fun k hk => by simp at hk
theorem adj_nil : adjOk [] = true := rfl
theorem adj_tail {x : Int} {r : List Int} (h : adjOk (x :: r) = true) : adjOk r = true := by
  cases r with
  | nil => rfl
  | cons y r => exact (adj_cons2.mp h).2
theorem adj_drop : ∀ (n : Nat) {xs : List Int}, adjOk xs = true → adjOk (xs.drop n) = true
  | 0, _, h => h
  | n + 1, [], h => h
  | n + 1, x :: r, h => adj_drop n (adj_tail h)
theorem adj_end : ∀ {a : List Int} {z x : Int}, adjOk (a ++ [z] ++ [x]) = true → z ≠ 0 - x
  | [], _, _, h => (adj_cons2.mp h).1
  | _ :: a, z, x, h => adj_end (a := a) (adj_tail h)
theorem adj_rev_app : ∀ (rr s : List Int), adjOk rr.reverse = true → adjOk s = true → (∀ x r y t, rr = x :: r → s = y :: t → x ≠ 0 - y) → adjOk (rr.reverse ++ s) = true
  | [], s, _, h, _ => h
  | x :: r, s, h1, h2, h3 => by
    rw [List.reverse_cons] at h1 ⊢
    rw [List.append_assoc]
    refine adj_rev_app r ([x] ++ s) (adj_init h1) ?_ ?_
    · cases s with
      | nil => exact adj_one x
      | cons y t => exact adj_cons2.mpr ⟨h3 x r y t rfl rfl, h2⟩
    · rintro z r' y t rfl e
      cases e
      rw [List.reverse_cons] at h1
      exact adj_end h1
theorem goneR_stop : ∀ (r s : List Int) (x : Int) (r' : List Int) (y : Int) (t : List Int), r.drop (goneR r s) = x :: r' → s.drop (goneR r s) = y :: t → x ≠ 0 - y
  | [], s, _, _, _, _, h, _ => by simp [goneR] at h
  | x :: r, [], _, _, _, _, _, h => by simp [goneR] at h
  | x :: r, y :: s, _, _, _, _, h1, h2 => by
    unfold goneR at h1 h2
    split at h1
    · rename_i e
      rw [if_pos e] at h2
      exact goneR_stop r s _ _ _ _ h1 h2
    · rename_i e
      rw [if_neg e] at h2
      cases h1
      cases h2
      exact e
theorem joined_adj {a b : List Int} (ha : adjOk a = true) (hb : adjOk b = true) : adjOk (joined a b) = true := by
  have e : a.take (a.length - gone a b) = (a.reverse.drop (gone a b)).reverse := by
    rw [List.drop_reverse, List.reverse_reverse]
  unfold joined
  rw [e]
  refine adj_rev_app _ _ ?_ (adj_drop _ hb) fun x r y t h1 h2 => goneR_stop a.reverse b x r y t h1 h2
  rw [← e]
  have key : ∀ (m : Nat) (xs : List Int), adjOk xs = true → adjOk (xs.take m) = true := fun m xs h => by
    rw [adjO_iff] at h ⊢
    intro k hk
    rw [List.length_take] at hk
    have := h k (by omega)
    rw [List.getD_eq_getElem?_getD, List.getD_eq_getElem?_getD] at this ⊢
    rwa [List.getElem?_take_of_lt (by omega), List.getElem?_take_of_lt (by omega)]
  exact key _ _ ha
/-- the joined row is the plain product -/
theorem joined_plain {a b : List Int} (ha : adjOk a = true) (hb : adjOk b = true) : joined a b = plain (a ++ b) := by
  rw [← plain_id (joined_adj ha hb)]
  exact joined_eqv a b
/-- its length -/
theorem joined_length (a b : List Int) : (joined a b).length + 2 * gone a b = a.length + b.length := by
  have := gone_le a b
  unfold joined
  rw [List.length_append, List.length_take, List.length_drop]
  omega
end My
namespace My
/-! ### plain: where no near step is left -/
theorem near_none {xss : List (List Int)} (h : near xss = none) {p o : Nat} {x : Int} (b : Bool) (hp : p < xss.length) (ho : o < xss.length) (hne : o ≠ p) (hx : x = (o : Int) + 1 ∨ x = 0 - (o : Int) - 1) : nearer xss p x b = none := by
  unfold near at h
  have h := List.findSome?_eq_none_iff.mp h p (List.mem_range.mpr hp)
  unfold near1 at h
  have h := List.findSome?_eq_none_iff.mp h o (List.mem_range.mpr ho)
  unfold near2 at h
  have h := List.findSome?_eq_none_iff.mp h x (by unfold lettersFor; rw [if_neg hne]; simpa using hx)
  unfold near3 at h
  have h := List.findSome?_eq_none_iff.mp h b (by cases b <;> simp)
  unfold near4 at h
  exact Option.map_eq_none_iff.mp h
/-- N1, and what is known at half -/
theorem nearer_none {xss : List (List Int)} {p : Nat} {x : Int} {b : Bool} (h : nearer xss p x b = none) :
    2 * gone (firstOf b (img xss x) (xss.getD p [])) (firstOf b (xss.getD p []) (img xss x)) ≤ (img xss x).length ∧
    (2 * gone (firstOf b (img xss x) (xss.getD p [])) (firstOf b (xss.getD p []) (img xss x)) = (img xss x).length →
      halvesLt (halves (joined (firstOf b (img xss x) (xss.getD p [])) (firstOf b (xss.getD p []) (img xss x)))) (halves (xss.getD p [])) = false) := by
  unfold nearer at h
  simp only at h
  split at h
  · rename_i h1
    exact ⟨by omega, fun e => absurd e (by omega)⟩
  · split at h
    · cases h
    · rename_i h1 h2
      refine ⟨by omega, fun _ => ?_⟩
      cases e : halvesLt (halves (joined (firstOf b (img xss x) (xss.getD p [])) (firstOf b (xss.getD p []) (img xss x)))) (halves (xss.getD p [])) with
      | false => rfl
      | true => exact absurd (.inr e) h2
theorem undone_length (xs : List Int) : (undone xs).length = xs.length := by simp [undone]
/-- what goes between two rows goes between them undone -/
theorem goneR_comm : ∀ r s : List Int, goneR r s = goneR (s.map fun x => 0 - x) (r.map fun x => 0 - x)
  | [], s => by cases s <;> simp [goneR]
  | x :: r, [] => by simp [goneR]
  | x :: r, y :: s => by
    simp only [List.map_cons, goneR]
    rw [goneR_comm r s]
    by_cases e : x = 0 - y
    · rw [if_pos e, if_pos (by omega)]
    · rw [if_neg e, if_neg (by omega)]
theorem gone_undone (a b : List Int) : gone (undone b) (undone a) = gone a b := by
  unfold gone undone
  rw [goneR_comm a.reverse b, ← List.map_reverse, List.reverse_reverse]
end My
namespace My
/-! ### plain: N1 -/
theorem img_length {xss : List (List Int)} {x : Int} (h : x ≠ 0) : (img xss (0 - x)).length = (img xss x).length := by
  rw [img_neg h, undone_length]
theorem img_pos (xss : List (List Int)) (p : Nat) : img xss ((p : Int) + 1) = xss.getD p [] := by
  unfold img
  rw [if_pos (by omega), show ((p : Int) + 1 - 1).toNat = p by omega]
theorem letter_place {m : Nat} {x : Int} (h : 0 - (m : Int) ≤ x ∧ x ≤ m ∧ x ≠ 0) : ∃ o : Nat, o < m ∧ (x = (o : Int) + 1 ∨ x = 0 - (o : Int) - 1) := by
  by_cases hx : 0 < x
  · exact ⟨(x - 1).toNat, by omega, .inl (by omega)⟩
  · exact ⟨(0 - x - 1).toNat, by omega, .inr (by omega)⟩
/-- two letters of unlike rows: half of the first at most is gone -/
theorem n1_first {xss : List (List Int)} (h : near xss = none) {o p : Nat} {x y : Int} (ho : o < xss.length) (hp : p < xss.length) (hne : o ≠ p) (hx : x = (o : Int) + 1 ∨ x = 0 - (o : Int) - 1) (hy : y = (p : Int) + 1 ∨ y = 0 - (p : Int) - 1) : 2 * gone (img xss x) (img xss y) ≤ (img xss x).length := by
  have x0 : x ≠ 0 := by omega
  rcases hy with rfl | rfl
  · have := (nearer_none (near_none h true hp ho hne hx)).1
    simp only [firstOf, if_true] at this
    rwa [img_pos]
  · have := (nearer_none (near_none (x := 0 - x) h false hp ho hne (by omega))).1
    simp only [firstOf, Bool.false_eq_true, if_false] at this
    rw [img_length x0, img_neg x0] at this
    have e : img xss (0 - (p : Int) - 1) = undone (xss.getD p []) := by
      rw [show 0 - (p : Int) - 1 = 0 - ((p : Int) + 1) by omega, img_neg (by omega), img_pos]
    rw [e, ← gone_undone, undone_undone]
    exact this
/-- N1 -/
theorem n1 {xss : List (List Int)} (h : near xss = none) {o p : Nat} {x y : Int} (ho : o < xss.length) (hp : p < xss.length) (hne : o ≠ p) (hx : x = (o : Int) + 1 ∨ x = 0 - (o : Int) - 1) (hy : y = (p : Int) + 1 ∨ y = 0 - (p : Int) - 1) : 2 * gone (img xss x) (img xss y) ≤ (img xss x).length ∧ 2 * gone (img xss x) (img xss y) ≤ (img xss y).length := by
  have x0 : x ≠ 0 := by omega
  have y0 : y ≠ 0 := by omega
  refine ⟨n1_first h ho hp hne hx hy, ?_⟩
  have := n1_first (x := 0 - y) (y := 0 - x) h hp ho (by omega) (by omega) (by omega)
  rw [img_length y0, img_neg y0, img_neg x0, gone_undone] at this
  exact this
end My
namespace My
/-! ### plain: a row before itself -/
theorem goneR_get : ∀ (r s : List Int) (k : Nat), k < goneR r s → r.getD k 0 = 0 - s.getD k 0
  | [], s, k, h => by simp [goneR] at h
  | x :: r, [], k, h => by simp [goneR] at h
  | x :: r, y :: s, k, h => by
    unfold goneR at h
    split at h
    · rename_i e
      cases k with
      | zero => exact e
      | succ k => exact goneR_get r s k (by omega)
    · omega
theorem getD_reverse {r : List Int} {k : Nat} (h : k < r.length) : r.reverse.getD k 0 = r.getD (r.length - 1 - k) 0 := by
  rw [List.getD_eq_getElem?_getD, List.getD_eq_getElem?_getD, List.getElem?_reverse h]
theorem gone_self {r : List Int} (ha : adjOk r = true) (hz : ∀ x ∈ r, x ≠ 0) (hn : r ≠ []) : 2 * gone r r < r.length := by
  have hl : 0 < r.length := List.length_pos_iff.mpr hn
  by_cases hg : 2 * gone r r < r.length
  · exact hg
  · exfalso
    have key (k : Nat) (h1 : k < gone r r) : r.getD (r.length - 1 - k) 0 = 0 - r.getD k 0 := by
      have := gone_le r r
      rw [← getD_reverse (by omega)]
      exact goneR_get r.reverse r k h1
    rcases Nat.mod_two_eq_zero_or_one r.length with e | e
    · have h1 := key (r.length / 2 - 1) (by omega)
      have h2 := (adjO_iff.mp ha) (r.length / 2 - 1) (by omega)
      rw [show r.length - 1 - (r.length / 2 - 1) = r.length / 2 - 1 + 1 by omega] at h1
      exact h2 (by omega)
    · have h1 := key (r.length / 2) (by omega)
      rw [show r.length - 1 - r.length / 2 = r.length / 2 by omega] at h1
      have h2 : r.length / 2 < r.length := by omega
      have h3 : r.getD (r.length / 2) 0 = r[r.length / 2] := by
        rw [List.getD_eq_getElem?_getD, List.getElem?_eq_getElem h2]
        rfl
      exact hz _ (List.getElem_mem h2) (by rw [h3] at h1; omega)
theorem img_adj {xss : List (List Int)} (h : ∀ xs ∈ xss, adjOk xs = true) (y : Int) : adjOk (img xss y) = true := by
  have key (j : Nat) : adjOk (xss.getD j []) = true := by
    rw [List.getD_eq_getElem?_getD]
    cases e : xss[j]? with
    | none => rfl
    | some ys => exact h ys (List.mem_of_getElem? e)
  unfold img
  split
  · exact key _
  · exact undone_adj (key _)
/-- N1 for all pairs of letters that a plain word can hold side by side -/
theorem n1_all {xss : List (List Int)} (h : near xss = none) (ha : ∀ xs ∈ xss, adjOk xs = true) (nz : ∀ xs ∈ xss, ∀ x ∈ xs, x ≠ 0) {x y : Int} (hx : 0 - (xss.length : Int) ≤ x ∧ x ≤ xss.length ∧ x ≠ 0) (hy : 0 - (xss.length : Int) ≤ y ∧ y ≤ xss.length ∧ y ≠ 0) (hxy : x ≠ 0 - y) : 2 * gone (img xss x) (img xss y) ≤ (img xss x).length ∧ 2 * gone (img xss x) (img xss y) ≤ (img xss y).length := by
  obtain ⟨o, ho, ho'⟩ := letter_place hx
  obtain ⟨p, hp, hp'⟩ := letter_place hy
  by_cases e : o = p
  · subst e
    have : x = y := by omega
    subst this
    by_cases en : img xss x = []
    · rw [en]; simp [gone, goneR]
    · have := gone_self (img_adj ha x) (img_nz nz x) en
      omega
  · exact n1 h ho hp e ho' hp'
end My
namespace My
/-! ### plain: halves -/
theorem lt_tot (a b : List Int) : a < b ∨ a = b ∨ b < a := by
  by_cases h : a < b
  · exact .inl h
  · by_cases h' : b < a
    · exact .inr (.inr h')
    · exact .inr (.inl (List.le_antisymm (List.not_lt.mp h') (List.not_lt.mp h)))
def sorted2 (a b : List Int) : List Int × List Int := if b < a then (b, a) else (a, b)
theorem sorted2_comm (a b : List Int) : sorted2 a b = sorted2 b a := by
  unfold sorted2
  rcases lt_tot a b with h | h | h
  · rw [if_neg (List.not_lt.mpr (List.le_of_lt h)), if_pos h]
  · subst h; rfl
  · rw [if_pos h, if_neg (List.not_lt.mpr (List.le_of_lt h))]
theorem halves_sorted (r : List Int) : halves r = sorted2 (r.take ((r.length + 1) / 2)) ((undone r).take ((r.length + 1) / 2)) := rfl
theorem halves_undone (r : List Int) : halves (undone r) = halves r := by
  rw [halves_sorted, halves_sorted, undone_undone, undone_length, sorted2_comm]
/-- one half stays and the other is less: the halves are less -/
theorem sorted2_lt {a b c : List Int} (h : b < c) : halvesLt (sorted2 a b) (sorted2 a c) = true := by
  have ne : b ≠ c := fun e => by subst e; exact List.lt_irrefl _ h
  unfold sorted2 halvesLt
  by_cases h1 : b < a
  · rw [if_pos h1]
    by_cases h2 : c < a
    · rw [if_pos h2]
      simp only
      rw [if_neg ne]
      exact decide_eq_true h
    · rw [if_neg h2]
      simp only
      rw [if_neg (fun e => by subst e; exact List.lt_irrefl _ h1)]
      exact decide_eq_true h1
  · rw [if_neg h1]
    have h2 : ¬ c < a := fun h2 => h1 (List.lt_trans h h2)
    rw [if_neg h2]
    simp only [if_true]
    exact decide_eq_true h
theorem sorted2_not {a b c : List Int} (h : halvesLt (sorted2 a b) (sorted2 a c) = false) : ¬ b < c := fun h' => by
  rw [sorted2_lt h'] at h
  cases h
end My
namespace My
/-! ### plain: what is known where half is gone -/
theorem undone_take (xs : List Int) (k : Nat) (h : k ≤ xs.length) : (undone xs).take (xs.length - k) = undone (xs.drop k) := by
  have := undone_app (xs.take k) (xs.drop k)
  rw [List.take_append_drop] at this
  rw [this, List.take_append_of_le_length (by rw [undone_length, List.length_drop]; omega), List.take_of_length_le (by rw [undone_length, List.length_drop]; omega)]
theorem undone_drop (xs : List Int) (k : Nat) (h : k ≤ xs.length) : (undone xs).drop k = undone (xs.take (xs.length - k)) := by
  have := undone_app (xs.take (xs.length - k)) (xs.drop (xs.length - k))
  rw [List.take_append_drop] at this
  have l : (undone (xs.drop (xs.length - k))).length = k := by rw [undone_length, List.length_drop]; omega
  rw [this, List.drop_append_of_le_length (by omega), List.drop_of_length_le (by omega), List.nil_append]
theorem joined_undone (a b : List Int) : joined (undone b) (undone a) = undone (joined a b) := by
  have h := gone_le a b
  unfold joined
  rw [gone_undone, undone_app, undone_length, undone_take _ _ h.2, undone_drop _ _ h.1]
theorem half_first {xss : List (List Int)} (h : near xss = none) {o p : Nat} {x y : Int} (ho : o < xss.length) (hp : p < xss.length) (hne : o ≠ p) (hx : x = (o : Int) + 1 ∨ x = 0 - (o : Int) - 1) (hy : y = (p : Int) + 1 ∨ y = 0 - (p : Int) - 1) (hh : 2 * gone (img xss x) (img xss y) = (img xss y).length) : halvesLt (halves (joined (img xss x) (img xss y))) (halves (img xss x)) = false := by
  have y0 : y ≠ 0 := by omega
  rcases hx with rfl | rfl
  · have := (nearer_none (near_none h false ho hp (fun e => hne e.symm) hy)).2
    simp only [firstOf, Bool.false_eq_true, if_false] at this
    rw [img_pos] at hh ⊢
    exact this hh
  · have := (nearer_none (near_none (x := 0 - y) h true ho hp (fun e => hne e.symm) (by omega))).2
    simp only [firstOf, if_true] at this
    have e : img xss (0 - (o : Int) - 1) = undone (xss.getD o []) := by
      rw [show 0 - (o : Int) - 1 = 0 - ((o : Int) + 1) by omega, img_neg (by omega), img_pos]
    rw [img_length y0, img_neg y0] at this
    rw [e] at hh ⊢
    rw [← gone_undone, undone_undone] at hh
    have := this hh
    rw [halves_undone, ← halves_undone (joined _ _), ← joined_undone, undone_undone]
    exact this
theorem half_second {xss : List (List Int)} (h : near xss = none) {o p : Nat} {y z : Int} (ho : o < xss.length) (hp : p < xss.length) (hne : o ≠ p) (hz : z = (o : Int) + 1 ∨ z = 0 - (o : Int) - 1) (hy : y = (p : Int) + 1 ∨ y = 0 - (p : Int) - 1) (hh : 2 * gone (img xss y) (img xss z) = (img xss y).length) : halvesLt (halves (joined (img xss y) (img xss z))) (halves (img xss z)) = false := by
  have y0 : y ≠ 0 := by omega
  have z0 : z ≠ 0 := by omega
  have := half_first (x := 0 - z) (y := 0 - y) h ho hp hne (by omega) (by omega) (by rw [img_length y0, img_neg y0, img_neg z0, gone_undone]; exact hh)
  rw [img_neg y0, img_neg z0, joined_undone, halves_undone, halves_undone] at this
  exact this
end My
namespace My
/-! ### plain: N2, on lists -/
theorem lt_app : ∀ {a b : List Int} (t : List Int), a.length = b.length → a < b → a ++ t < b ++ t
  | [], [], t, _, h => absurd h (List.lt_irrefl _)
  | [], _ :: _, t, e, _ => by simp at e
  | _ :: _, [], t, e, _ => by simp at e
  | x :: a, y :: b, t, e, h => by
    rw [List.cons_append, List.cons_append]
    rcases List.cons_lt_cons_iff.mp h with h | ⟨h1, h2⟩
    · exact List.cons_lt_cons_iff.mpr (.inl h)
    · exact List.cons_lt_cons_iff.mpr (.inr ⟨h1, lt_app t (by simpa using e) h2⟩)
theorem halves_end {a v : List Int} (h : v.length ≤ a.length) : halves (a ++ v) = sorted2 (a.take ((a.length + v.length + 1) / 2)) (undone v ++ (undone a).take ((a.length + v.length + 1) / 2 - v.length)) := by
  have e : (undone v).take ((a.length + v.length + 1) / 2) = undone v := List.take_of_length_le (by rw [undone_length]; omega)
  rw [halves_sorted, undone_app, List.length_append, List.take_append_of_le_length (by omega), List.take_append, undone_length, e]
theorem n2_end {a u v : List Int} (e : u.length = v.length) (h : v.length ≤ a.length) (hh : halvesLt (halves (a ++ v)) (halves (a ++ undone u)) = false) : ¬ undone v < u := by
  intro hlt
  rw [halves_end h, halves_end (by rw [undone_length]; omega), undone_undone, undone_length, e] at hh
  exact sorted2_not hh (lt_app _ (by rw [undone_length]; omega) hlt)
theorem n2_core {a u v c : List Int} (e : u.length = v.length) (h1 : v.length ≤ a.length) (h2 : v.length ≤ c.length)
    (k1 : halvesLt (halves (a ++ v)) (halves (a ++ undone u)) = false) (k2 : halvesLt (halves (u ++ c)) (halves (undone v ++ c)) = false)
    (ha : adjOk (u ++ v) = true) : v = [] := by
  have g1 := n2_end e h1 k1
  have g2 : ¬ u < undone v := by
    rw [← halves_undone (u ++ c), ← halves_undone (undone v ++ c), undone_app, undone_app] at k2
    have := n2_end (a := undone c) (u := undone v) (v := undone u) (by rw [undone_length, undone_length]; omega) (by rw [undone_length, undone_length]; omega) k2
    rwa [undone_undone] at this
  have eu : u = undone v := by
    rcases lt_tot u (undone v) with h | h | h
    · exact absurd h g2
    · exact h
    · exact absurd h g1
  subst eu
  have h3 : plain (undone v ++ v) = plain [] := undo_left v
  rw [plain_id ha] at h3
  exact (List.append_eq_nil_iff.mp h3).2
end My
namespace My
/-! ### plain: N2 -/
theorem gone_form (a b : List Int) : a.drop (a.length - gone a b) = undone (b.take (gone a b)) := by
  have := goneR_form a.reverse b
  rw [List.take_reverse] at this
  have h2 : a.drop (a.length - gone a b) = ((b.take (gone a b)).map fun x => 0 - x).reverse := by
    rw [← List.reverse_reverse (a.drop _)]
    exact congrArg List.reverse this
  rw [h2, ← List.map_reverse]
  rfl
theorem n2_list {X Y Z : List Int} {m : Nat} (g1 : gone X Y = m) (g2 : gone Y Z = m) (hm : Y.length = 2 * m) (hX : 2 * m ≤ X.length) (hZ : 2 * m ≤ Z.length)
    (k1 : halvesLt (halves (joined X Y)) (halves X) = false) (k2 : halvesLt (halves (joined Y Z)) (halves Z) = false) (ha : adjOk Y = true) : m = 0 := by
  have f1 := gone_form X Y
  have f2 := gone_form Y Z
  rw [g1] at f1
  rw [g2, show Y.length - m = m by omega] at f2
  have eX : X = X.take (X.length - m) ++ undone (Y.take m) := by
    rw [← f1, List.take_append_drop]
  have eZ : Z = undone (Y.drop m) ++ Z.drop m := by
    rw [f2, undone_undone, List.take_append_drop]
  have j1 : joined X Y = X.take (X.length - m) ++ Y.drop m := by unfold joined; rw [g1]
  have j2 : joined Y Z = Y.take m ++ Z.drop m := by unfold joined; rw [g2, show Y.length - m = m by omega]
  have k1' : halvesLt (halves (X.take (X.length - m) ++ Y.drop m)) (halves (X.take (X.length - m) ++ undone (Y.take m))) = false := by
    rw [← eX, ← j1]; exact k1
  have k2' : halvesLt (halves (Y.take m ++ Z.drop m)) (halves (undone (Y.drop m) ++ Z.drop m)) = false := by
    rw [← eZ, ← j2]; exact k2
  have := n2_core (by rw [List.length_take, List.length_drop]; omega) (by rw [List.length_take, List.length_drop]; omega) (by rw [List.length_drop, List.length_drop]; omega) k1' k2' (by rw [List.take_append_drop]; exact ha)
  have l := congrArg List.length this
  rw [List.length_drop, List.length_nil] at l
  omega
theorem n2 {xss : List (List Int)} (h : near xss = none) (ha : ∀ xs ∈ xss, adjOk xs = true) (nz : ∀ xs ∈ xss, ∀ x ∈ xs, x ≠ 0) {x y z : Int} (hx : 0 - (xss.length : Int) ≤ x ∧ x ≤ xss.length ∧ x ≠ 0) (hy : 0 - (xss.length : Int) ≤ y ∧ y ≤ xss.length ∧ y ≠ 0) (hz : 0 - (xss.length : Int) ≤ z ∧ z ≤ xss.length ∧ z ≠ 0) (hxy : x ≠ 0 - y) (hyz : y ≠ 0 - z) (hn : img xss y ≠ []) : gone (img xss x) (img xss y) + gone (img xss y) (img xss z) < (img xss y).length := by
  have a1 := n1_all h ha nz hx hy hxy
  have a2 := n1_all h ha nz hy hz hyz
  have hl : 0 < (img xss y).length := List.length_pos_iff.mpr hn
  by_cases hg : gone (img xss x) (img xss y) + gone (img xss y) (img xss z) < (img xss y).length
  · exact hg
  · exfalso
    have s := gone_self (img_adj ha y) (img_nz nz y) hn
    obtain ⟨o, ho, ho'⟩ := letter_place hx
    obtain ⟨p, hp, hp'⟩ := letter_place hy
    obtain ⟨q, hq, hq'⟩ := letter_place hz
    have e1 : o ≠ p := fun e => by
      subst e
      have : x = y := by omega
      subst this
      omega
    have e2 : q ≠ p := fun e => by
      subst e
      have : z = y := by omega
      subst this
      omega
    have k1 := half_first h ho hp e1 ho' hp' (by omega)
    have k2 := half_second h hq hp e2 hq' hp' (by omega)
    have := n2_list (m := gone (img xss x) (img xss y)) rfl (by omega) (by omega) (by omega) (by omega) k1 k2 (img_adj ha y)
    omega
end My
namespace My
/-! ### plain: a plain word of k letters has a product of at least k letters -/
theorem goneR_app : ∀ (t s s' b : List Int), goneR (t ++ s) b < t.length → goneR (t ++ s') b = goneR (t ++ s) b
  | [], s, s', b, h => by simp at h
  | x :: t, s, s', [], h => by simp [goneR]
  | x :: t, s, s', y :: b, h => by
    simp only [List.cons_append, goneR] at h ⊢
    by_cases e : x = 0 - y
    · rw [if_pos e] at h ⊢
      rw [if_pos e, goneR_app t s s' b (by simp at h; omega)]
    · rw [if_neg e, if_neg e]
theorem gone_end {A S T b : List Int} (h : gone (S ++ T) b < T.length) : gone (A ++ T) b = gone (S ++ T) b := by
  unfold gone at h ⊢
  rw [List.reverse_append] at h ⊢
  rw [List.reverse_append]
  exact goneR_app T.reverse S.reverse A.reverse b (by rw [List.length_reverse]; exact h)
theorem long {xss : List (List Int)} (h : near xss = none) (ha : ∀ xs ∈ xss, adjOk xs = true) (nz : ∀ xs ∈ xss, ∀ x ∈ xs, x ≠ 0) :
    ∀ (r : List Int) (x : Int) (A T S : List Int), 0 - (xss.length : Int) ≤ x ∧ x ≤ xss.length ∧ x ≠ 0 → img xss x = S ++ T → adjOk (A ++ T) = true → 0 < T.length →
      (∀ y, 0 - (xss.length : Int) ≤ y ∧ y ≤ xss.length ∧ y ≠ 0 → x ≠ 0 - y → gone (img xss x) (img xss y) < T.length) →
      adjOk (x :: r) = true → Lets (xss.length : Nat) r → (∀ y ∈ r, img xss y ≠ []) →
      ∃ P, adjOk P = true ∧ Eqv P (A ++ T ++ r.flatMap (img xss)) ∧ A.length + r.length + 1 ≤ P.length
  | [], x, A, T, S, hx, e, hP, hT, hg, hr, hl, hn => ⟨A ++ T, hP, by rw [List.flatMap_nil, List.append_nil]; exact Eqv.refl _, by rw [List.length_append, List.length_nil]; omega⟩
  | y :: r, x, A, T, S, hx, e, hP, hT, hg, hr, hl, hn => by
    have hy := hl y (by simp)
    have hxy := (adj_cons2.mp hr).1
    have g1 := hg y hy hxy
    have g2 : gone (A ++ T) (img xss y) = gone (img xss x) (img xss y) := by
      rw [e] at g1 ⊢
      exact gone_end g1
    have hyn := hn y (by simp)
    have hyl : 0 < (img xss y).length := List.length_pos_iff.mpr hyn
    have a1 := (n1_all h ha nz hx hy hxy).2
    have ej : joined (A ++ T) (img xss y) = (A ++ T.take (T.length - gone (img xss x) (img xss y))) ++ (img xss y).drop (gone (img xss x) (img xss y)) := by
      unfold joined
      rw [g2, List.take_append, List.length_append, List.take_of_length_le (by omega), show A.length + T.length - gone (img xss x) (img xss y) - A.length = T.length - gone (img xss x) (img xss y) by omega]
    have jp := joined_adj hP (img_adj ha y)
    have je := joined_eqv (A ++ T) (img xss y)
    rw [ej] at jp je
    obtain ⟨P, p1, p2, p3⟩ := long h ha nz r y (A ++ T.take (T.length - gone (img xss x) (img xss y))) ((img xss y).drop (gone (img xss x) (img xss y))) ((img xss y).take (gone (img xss x) (img xss y))) hy (by rw [List.take_append_drop]) jp (by rw [List.length_drop]; omega)
      (fun z hz hyz => by rw [List.length_drop]; have := n2 h ha nz hx hy hz hxy hyz hyn; omega) (adj_cons2.mp hr).2 (fun z hz => hl z (by simp [hz])) (fun z hz => hn z (by simp [hz]))
    refine ⟨P, p1, p2.trans ?_, ?_⟩
    · rw [List.flatMap_cons, ← List.append_assoc]
      exact je.app (Eqv.refl _)
    · rw [List.length_append, List.length_take] at p3
      rw [List.length_cons]
      omega
end My
namespace My
/-! ### plain: rows that generate every letter and have no near step are single letters -/
theorem flat_filter (xss : List (List Int)) : ∀ w : List Int, (w.filter fun y => !(img xss y).isEmpty).flatMap (img xss) = w.flatMap (img xss)
  | [] => rfl
  | y :: r => by
    rw [List.flatMap_cons, List.filter_cons]
    split
    · rw [List.flatMap_cons, flat_filter xss r]
    · rename_i h
      have : img xss y = [] := by
        cases e : img xss y with
        | nil => rfl
        | cons a t => rw [e] at h; simp at h
      rw [this, List.nil_append, flat_filter xss r]
theorem single {n : Nat} {xss : List (List Int)} (h : near xss = none) (ha : ∀ xs ∈ xss, adjOk xs = true) (nz : ∀ xs ∈ xss, ∀ x ∈ xs, x ≠ 0) (hall : All n xss) {x : Int} (h1 : 1 ≤ x) (h2 : x ≤ n) :
    ∃ y : Int, (0 - (xss.length : Int) ≤ y ∧ y ≤ xss.length ∧ y ≠ 0) ∧ img xss y = [x] := by
  obtain ⟨w, hw, e⟩ := hall x h1 h2
  have hf : ∀ y ∈ plain (w.filter fun y => !(img xss y).isEmpty), y ∈ w ∧ img xss y ≠ [] := fun y hy => by
    have := List.mem_filter.mp (plain_mem hy)
    refine ⟨this.1, fun e => ?_⟩
    have h3 := this.2
    rw [e] at h3
    simp at h3
  have hv : Eqv ((plain (w.filter fun y => !(img xss y).isEmpty)).flatMap (img xss)) [x] := by
    refine (hom_plain _ _ rfl fun y hy => (hw y (List.mem_filter.mp hy).1).2.2).trans ?_
    rw [flat_filter]
    exact e
  have hadj := plain_adj (w.filter fun y => !(img xss y).isEmpty)
  revert hf hv hadj
  generalize plain (w.filter fun y => !(img xss y).isEmpty) = v
  intro hf hv hadj
  have px : plain [x] = [x] := plain_id (adj_one x)
  cases v with
  | nil =>
    have hv : plain [] = plain [x] := hv
    rw [px] at hv
    cases hv
  | cons y r =>
    have hy := hw y (hf y (by simp)).1
    have hyn := (hf y (by simp)).2
    have hyl : 0 < (img xss y).length := List.length_pos_iff.mpr hyn
    obtain ⟨P, p1, p2, p3⟩ := long h ha nz r y [] (img xss y) [] hy rfl (img_adj ha y) hyl
      (fun z hz hyz => by have := (n1_all h ha nz hy hz hyz).1; omega) hadj (fun z hz => hw z (hf z (by simp [hz])).1) (fun z hz => (hf z (by simp [hz])).2)
    have e1 : P = [x] := by
      have p2 : Eqv P [x] := p2.trans (by rw [List.flatMap_cons] at hv; exact hv)
      have p2 : plain P = plain [x] := p2
      rwa [plain_id p1, px] at p2
    rw [e1] at p3
    have hr : r = [] := List.length_eq_zero_iff.mp (by simp at p3; simpa using p3)
    subst hr
    refine ⟨y, hy, ?_⟩
    have hv : plain ([y].flatMap (img xss)) = plain [x] := hv
    rw [px, List.flatMap_cons, List.flatMap_nil, List.append_nil, plain_id (img_adj ha y)] at hv
    exact hv
end My
namespace My
/-! ### plain: near steps keep rows plain, over the same letters -/
theorem joined_mem {a b : List Int} {y : Int} (h : y ∈ joined a b) : y ∈ a ∨ y ∈ b := by
  unfold joined at h
  rcases List.mem_append.mp h with h | h
  · exact .inl (List.mem_of_mem_take h)
  · exact .inr (List.mem_of_mem_drop h)
theorem getD_row {C : List Int → Prop} (h0 : C []) {xss : List (List Int)} (h : ∀ xs ∈ xss, C xs) (p : Nat) : C (xss.getD p []) := by
  rw [List.getD_eq_getElem?_getD]
  cases e : xss[p]? with
  | none => exact h0
  | some ys => exact h ys (List.mem_of_getElem? e)
theorem near_row {n : Nat} {xss : List (List Int)} {s : Step} {r : List Int} (h : near xss = some (s, r)) (ha : ∀ xs ∈ xss, adjOk xs = true) (hl : ∀ xs ∈ xss, Lets n xs) : adjOk r = true ∧ Lets n r := by
  obtain ⟨o, hp, ho, hne, hx, hn⟩ := near_some h
  have er := nearer_some hn
  have a1 := img_adj ha s.2.1
  have a2 : adjOk (xss.getD s.1 []) = true := getD_row (C := fun xs => adjOk xs = true) rfl ha s.1
  have b1 := img_lets hl s.2.1
  have b2 : Lets n (xss.getD s.1 []) := getD_row (C := Lets n) (fun x hx => by cases hx) hl s.1
  subst er
  unfold firstOf
  split
  · exact ⟨joined_adj a1 a2, fun x hx => (joined_mem hx).elim (b1 x) (b2 x)⟩
  · exact ⟨joined_adj a2 a1, fun x hx => (joined_mem hx).elim (b2 x) (b1 x)⟩
/-- the way down keeps rows plain and over the same letters -/
theorem Down.rows {n : Nat} {xss last : List (List Int)} {steps : List Step} (h : Down xss steps last) : (∀ xs ∈ xss, adjOk xs = true) → (∀ xs ∈ xss, Lets n xs) → (∀ xs ∈ last, adjOk xs = true) ∧ (∀ xs ∈ last, Lets n xs) := by
  induction h with
  | stop _ => exact fun h1 h2 => ⟨h1, h2⟩
  | step e _ ih =>
    intro h1 h2
    have k := near_row e h1 h2
    refine ih (fun xs hx => ?_) fun xs hx => ?_
    · rcases List.mem_or_eq_of_mem_set hx with hx | rfl
      · exact h1 xs hx
      · exact k.1
    · rcases List.mem_or_eq_of_mem_set hx with hx | rfl
      · exact h2 xs hx
      · exact k.2
/-- the last rows of a generating list: each letter is one row or one row undone -/
theorem Down.single {n : Nat} {xss last : List (List Int)} {steps : List Step} (h : Down xss steps last) (ha : ∀ xs ∈ xss, adjOk xs = true) (hl : ∀ xs ∈ xss, Lets n xs) (hall : All n xss) {x : Int} (h1 : 1 ≤ x) (h2 : x ≤ n) : ∃ y : Int, (0 - (last.length : Int) ≤ y ∧ y ≤ last.length ∧ y ≠ 0) ∧ img last y = [x] :=
  My.single h.end.1 (h.rows ha hl).1 (fun xs hx x hm => ((h.rows ha hl).2 xs hx x hm).2.2) (h.all hall) h1 h2
end My
namespace My
/-! ### plain: a near step shortens the row, or keeps its length and lessens its halves -/
theorem firstOf_len (b : Bool) (x y : List Int) : (firstOf b x y).length + (firstOf b y x).length = x.length + y.length := by
  cases b
  · exact Nat.add_comm _ _
  · rfl
theorem nearer_less {xss : List (List Int)} {p : Nat} {x : Int} {b : Bool} {r : List Int} (h : nearer xss p x b = some r) : r.length < (xss.getD p []).length ∨ (r.length = (xss.getD p []).length ∧ halvesLt (halves r) (halves (xss.getD p [])) = true) := by
  have er := nearer_some h
  have l := joined_length (firstOf b (img xss x) (xss.getD p [])) (firstOf b (xss.getD p []) (img xss x))
  rw [firstOf_len, ← er] at l
  unfold nearer at h
  simp only at h
  split at h
  · cases h
  · rename_i h1
    split at h
    · rename_i h2
      rw [← er] at h2
      rcases Nat.lt_or_ge (img xss x).length (2 * gone (firstOf b (img xss x) (xss.getD p [])) (firstOf b (xss.getD p []) (img xss x))) with h3 | h3
      · exact .inl (by omega)
      · exact .inr ⟨by omega, h2.resolve_left (by omega)⟩
    · cases h
theorem near_less {xss : List (List Int)} {s : Step} {r : List Int} (h : near xss = some (s, r)) : s.1 < xss.length ∧ (r.length < (xss.getD s.1 []).length ∨ (r.length = (xss.getD s.1 []).length ∧ halvesLt (halves r) (halves (xss.getD s.1 [])) = true)) := by
  obtain ⟨o, hp, _, _, _, hn⟩ := near_some h
  exact ⟨hp, nearer_less hn⟩
end My
namespace My
/-! ### plain: rows as numbers -/
def d8 (x : Int) : Nat := (if x < 0 then x + 4 else x + 3).toNat
def val8 : List Int → Nat
  | [] => 0
  | x :: r => d8 x * 8 ^ r.length + val8 r
theorem d8_lt {x : Int} (h : 0 - 4 ≤ x ∧ x ≤ 4 ∧ x ≠ 0) : d8 x < 8 := by
  unfold d8
  split <;> omega
theorem d8_mono {x y : Int} (h : 0 - 4 ≤ x ∧ x ≤ 4 ∧ x ≠ 0) (h' : 0 - 4 ≤ y ∧ y ≤ 4 ∧ y ≠ 0) (hl : x < y) : d8 x < d8 y := by
  unfold d8
  split <;> split <;> omega
theorem val8_lt : ∀ {r : List Int}, Lets 4 r → val8 r < 8 ^ r.length
  | [], _ => by simp [val8]
  | x :: r, h => by
    have h1 := d8_lt (h x (by simp))
    have h2 := val8_lt (r := r) fun y hy => h y (by simp [hy])
    have h3 : (d8 x + 1) * 8 ^ r.length ≤ 8 * 8 ^ r.length := Nat.mul_le_mul_right _ (by omega)
    rw [Nat.add_mul, Nat.one_mul] at h3
    rw [val8, List.length_cons, Nat.pow_succ, Nat.mul_comm (8 ^ r.length) 8]
    omega
theorem val8_mono : ∀ {a b : List Int}, a.length = b.length → Lets 4 a → Lets 4 b → a < b → val8 a < val8 b
  | [], [], _, _, _, h => absurd h (List.lt_irrefl _)
  | [], _ :: _, e, _, _, _ => by simp at e
  | _ :: _, [], e, _, _, _ => by simp at e
  | x :: a, y :: b, e, ha, hb, h => by
    have e' : a.length = b.length := by simpa using e
    rw [val8, val8, e']
    rcases List.cons_lt_cons_iff.mp h with h | ⟨h1, h2⟩
    · have h1 := d8_mono (ha x (by simp)) (hb y (by simp)) h
      have h2 := val8_lt (r := a) fun z hz => ha z (by simp [hz])
      rw [e'] at h2
      have h3 : (d8 x + 1) * 8 ^ b.length ≤ d8 y * 8 ^ b.length := Nat.mul_le_mul_right _ h1
      rw [Nat.add_mul, Nat.one_mul] at h3
      omega
    · subst h1
      have := val8_mono e' (fun z hz => ha z (by simp [hz])) (fun z hz => hb z (by simp [hz])) h2
      omega
end My
namespace My
/-! ### plain: what the halves of a row are -/
theorem sorted2_or (a b : List Int) : sorted2 a b = (a, b) ∨ sorted2 a b = (b, a) := by
  unfold sorted2
  split
  · exact .inr rfl
  · exact .inl rfl
theorem take_lets {n : Int} {r : List Int} (h : Lets n r) (k : Nat) : Lets n (r.take k) := fun x hx => h x (List.mem_of_mem_take hx)
theorem halves_or (r : List Int) : halves r = (r.take ((r.length + 1) / 2), (undone r).take ((r.length + 1) / 2)) ∨ halves r = ((undone r).take ((r.length + 1) / 2), r.take ((r.length + 1) / 2)) := by
  rw [halves_sorted]
  exact sorted2_or _ _
theorem halves_len (r : List Int) : (halves r).1.length = (r.length + 1) / 2 ∧ (halves r).2.length = (r.length + 1) / 2 := by
  rcases halves_or r with e | e <;> rw [e] <;> simp only [List.length_take, undone_length] <;> omega
theorem halves_lets {n : Int} {r : List Int} (h : Lets n r) : Lets n (halves r).1 ∧ Lets n (halves r).2 := by
  rcases halves_or r with e | e <;> rw [e]
  · exact ⟨take_lets h _, take_lets h.undone _⟩
  · exact ⟨take_lets h.undone _, take_lets h _⟩
end My
namespace My
/-! ### plain: the rank of a short row -/
theorem lt_of_app {a b t : List Int} (e : a.length = b.length) (h : a ++ t < b ++ t) : a < b := by
  rcases lt_tot a b with h' | h' | h'
  · exact h'
  · subst h'; exact absurd h (List.lt_irrefl _)
  · exact absurd (List.lt_trans h (lt_app t e.symm h')) (List.lt_irrefl _)
theorem half_tail (r : List Int) : ((undone r).take ((r.length + 1) / 2)).drop (r.length - (r.length + 1) / 2) = undone ((r.take ((r.length + 1) / 2)).drop (r.length - (r.length + 1) / 2)) := by
  have l : (r.take ((r.length + 1) / 2)).length = (r.length + 1) / 2 := by rw [List.length_take]; omega
  have h1 := undone_take (r.take ((r.length + 1) / 2)) (r.length - (r.length + 1) / 2) (by omega)
  have h2 := undone_drop r (r.length - (r.length + 1) / 2) (by omega)
  rw [show r.length - (r.length - (r.length + 1) / 2) = (r.length + 1) / 2 by omega] at h2
  rw [← h1, l, ← h2, List.drop_take]
theorem halves_tail (r : List Int) : (halves r).2.drop (r.length - (r.length + 1) / 2) = undone ((halves r).1.drop (r.length - (r.length + 1) / 2)) := by
  rcases halves_or r with e | e <;> rw [e]
  · exact half_tail r
  · simp only
    rw [half_tail, undone_undone]
end My
namespace My
def rankS (r : List Int) : Nat := val8 (halves r).1 * 8 ^ (r.length - (r.length + 1) / 2) + val8 ((halves r).2.take (r.length - (r.length + 1) / 2))
theorem rankS_less {r q : List Int} (e : r.length = q.length) (hr : Lets 4 r) (hq : Lets 4 q) (h : halvesLt (halves r) (halves q) = true) : rankS r < rankS q := by
  have lr := halves_len r
  have lq := halves_len q
  have sr := halves_lets hr
  have sq := halves_lets hq
  have tr := halves_tail r
  have tq := halves_tail q
  unfold rankS
  rw [e] at lr tr ⊢
  have b1 := val8_lt (take_lets sr.2 (q.length - (q.length + 1) / 2))
  rw [List.length_take, lr.2, Nat.min_eq_left (by omega)] at b1
  unfold halvesLt at h
  split at h
  · rename_i e1
    have h := of_decide_eq_true h
    rw [e1] at tr ⊢
    rw [← List.take_append_drop (q.length - (q.length + 1) / 2) (halves r).2, ← List.take_append_drop (q.length - (q.length + 1) / 2) (halves q).2, tr, ← tq] at h
    have := val8_mono (by rw [List.length_take, List.length_take, lr.2, lq.2]) (take_lets sr.2 _) (take_lets sq.2 _) (lt_of_app (by rw [List.length_take, List.length_take, lr.2, lq.2]) h)
    omega
  · have h := val8_mono (by rw [lr.1, lq.1]) sr.1 sq.1 (of_decide_eq_true h)
    have h3 : (val8 (halves r).1 + 1) * 8 ^ (q.length - (q.length + 1) / 2) ≤ val8 (halves q).1 * 8 ^ (q.length - (q.length + 1) / 2) := Nat.mul_le_mul_right _ h
    rw [Nat.add_mul, Nat.one_mul] at h3
    omega
end My
namespace My
theorem rankS_lt {r : List Int} (hr : Lets 4 r) : rankS r < 8 ^ r.length := by
  have lr := halves_len r
  have sr := halves_lets hr
  have b1 := val8_lt (take_lets sr.2 (r.length - (r.length + 1) / 2))
  rw [List.length_take, lr.2, Nat.min_eq_left (by omega)] at b1
  have b2 := val8_lt sr.1
  rw [lr.1] at b2
  unfold rankS
  have h3 : (val8 (halves r).1 + 1) * 8 ^ (r.length - (r.length + 1) / 2) ≤ 8 ^ ((r.length + 1) / 2) * 8 ^ (r.length - (r.length + 1) / 2) := Nat.mul_le_mul_right _ b2
  rw [Nat.add_mul, Nat.one_mul, ← Nat.pow_add, show (r.length + 1) / 2 + (r.length - (r.length + 1) / 2) = r.length by omega] at h3
  omega
end My
namespace My
/-! ### plain: the rank of a long row -/
theorem halvesLt_asymm {p q : List Int × List Int} (h : halvesLt p q = true) : halvesLt q p = false := by
  unfold halvesLt at h ⊢
  by_cases e : p.1 = q.1
  · rw [if_pos e] at h
    rw [if_pos e.symm]
    exact decide_eq_false fun h' => List.lt_irrefl _ (List.lt_trans h' (of_decide_eq_true h))
  · rw [if_neg e] at h
    rw [if_neg (fun e' => e e'.symm)]
    exact decide_eq_false fun h' => List.lt_irrefl _ (List.lt_trans h' (of_decide_eq_true h))
theorem sorted2_back {a b c : List Int} (h : halvesLt (sorted2 a b) (sorted2 a c) = true) : b < c := by
  rcases lt_tot b c with h' | h' | h'
  · exact h'
  · subst h'
    rw [halvesLt_asymm h] at h
    cases h
  · rw [halvesLt_asymm (sorted2_lt h')] at h
    cases h
end My
namespace My
/-- the outer letters of both ends -/
def rankL (G : Nat) (r : List Int) : Nat := val8 (r.take G) + val8 ((undone r).take G)
theorem rankL_undone (G : Nat) (r : List Int) : rankL G (undone r) = rankL G r := by
  unfold rankL
  rw [undone_undone, Nat.add_comm]
theorem rankL_less {r q : List Int} {G : Nat} (e : r.length = q.length) (hG : G ≤ (q.length + 1) / 2) (hr : Lets 4 r) (hq : Lets 4 q) (h1 : r.take ((q.length + 1) / 2) = q.take ((q.length + 1) / 2)) (h2 : (undone r).drop G = (undone q).drop G) (h : halvesLt (halves r) (halves q) = true) : rankL G r < rankL G q := by
  rw [halves_sorted, halves_sorted, e, h1] at h
  have h := sorted2_back h
  have t1 : r.take G = q.take G := by
    have := congrArg (List.take G) h1
    rwa [List.take_take, List.take_take, Nat.min_eq_left hG] at this
  have key (x : List Int) : x.take ((q.length + 1) / 2) = x.take G ++ (x.drop G).take ((q.length + 1) / 2 - G) := by
    rw [← List.take_add, Nat.add_sub_cancel' hG]
  rw [key (undone r), key (undone q), h2] at h
  have := lt_of_app (by rw [List.length_take, List.length_take, undone_length, undone_length, e]) h
  have := val8_mono (by rw [List.length_take, List.length_take, undone_length, undone_length, e]) (take_lets hr.undone _) (take_lets hq.undone _) this
  unfold rankL
  rw [t1]
  omega
end My
namespace My
/-! ### plain: a step of equal length at a long row -/
theorem joined_lets {n : Int} {a b : List Int} (ha : Lets n a) (hb : Lets n b) : Lets n (joined a b) := fun x hx => (joined_mem hx).elim (ha x) (hb x)
theorem long_step {G : Nat} {row more : List Int} (hG : 2 * G ≤ row.length) (hm : more.length ≤ 2 * G) (hg : 2 * gone row more = more.length) (hr : Lets 4 row) (hq : Lets 4 more) (h : halvesLt (halves (joined row more)) (halves row) = true) : rankL G (joined row more) < rankL G row := by
  have jl := joined_length row more
  have gl := gone_le row more
  refine rankL_less (by omega) (by omega) (joined_lets hr hq) hr ?_ ?_ h
  · unfold joined
    rw [List.take_append_of_le_length (by rw [List.length_take]; omega), List.take_take, Nat.min_eq_left (by omega)]
  · have e1 : undone (joined row more) = undone (more.drop (gone row more)) ++ undone (row.take (row.length - gone row more)) := by
      unfold joined
      rw [undone_app]
    have e2 : undone row = undone (row.drop (row.length - gone row more)) ++ undone (row.take (row.length - gone row more)) := by
      rw [← undone_app, List.take_append_drop]
    have l1 : (undone (more.drop (gone row more))).length = gone row more := by rw [undone_length, List.length_drop]; omega
    have l2 : (undone (row.drop (row.length - gone row more))).length = gone row more := by rw [undone_length, List.length_drop]; omega
    have dr (x y : List Int) (k : Nat) (hx : x.length = gone row more) (hk : gone row more ≤ k) : (x ++ y).drop k = y.drop (k - gone row more) := by
      rw [List.drop_append, List.drop_of_length_le (by omega), List.nil_append, hx]
    rw [e1, dr _ _ _ l1 (by omega)]
    conv => rhs; rw [e2]
    rw [dr _ _ _ l2 (by omega)]
theorem long_step' {G : Nat} {row more : List Int} (hG : 2 * G ≤ row.length) (hm : more.length ≤ 2 * G) (hg : 2 * gone more row = more.length) (hr : Lets 4 row) (hq : Lets 4 more) (h : halvesLt (halves (joined more row)) (halves row) = true) : rankL G (joined more row) < rankL G row := by
  have := long_step (G := G) (row := undone row) (more := undone more) (by rw [undone_length]; exact hG) (by rw [undone_length]; exact hm) (by rw [gone_undone, undone_length]; exact hg) hr.undone hq.undone (by rw [joined_undone, halves_undone, halves_undone]; exact h)
  rw [joined_undone, rankL_undone, rankL_undone] at this
  exact this
/-! ### plain: plain words as numbers to base 7 -/
def c7 (p x : Int) : Nat := if d8 (0 - p) < d8 x then d8 x - 1 else d8 x
def v7 (p : Int) : List Int → Nat
  | [] => 0
  | x :: r => c7 p x * 7 ^ r.length + v7 x r
def val7 : List Int → Nat
  | [] => 0
  | x :: r => d8 x * 7 ^ r.length + v7 x r
theorem d8_inj {x y : Int} (h : 0 - 4 ≤ x ∧ x ≤ 4 ∧ x ≠ 0) (h' : 0 - 4 ≤ y ∧ y ≤ 4 ∧ y ≠ 0) (e : d8 x = d8 y) : x = y := by
  unfold d8 at e
  split at e <;> split at e <;> omega
theorem c7_lt {p x : Int} (hp : 0 - 4 ≤ p ∧ p ≤ 4 ∧ p ≠ 0) (hx : 0 - 4 ≤ x ∧ x ≤ 4 ∧ x ≠ 0) (h : p ≠ 0 - x) : c7 p x < 7 := by
  have h1 := d8_lt hx
  have h2 := d8_lt (x := 0 - p) (by omega)
  have h3 : d8 (0 - p) ≠ d8 x := fun e => h (by have := d8_inj (by omega) hx e; omega)
  unfold c7
  split <;> omega
theorem c7_mono {p x y : Int} (hp : 0 - 4 ≤ p ∧ p ≤ 4 ∧ p ≠ 0) (hx : 0 - 4 ≤ x ∧ x ≤ 4 ∧ x ≠ 0) (hy : 0 - 4 ≤ y ∧ y ≤ 4 ∧ y ≠ 0) (h : p ≠ 0 - x) (h' : p ≠ 0 - y) (hl : x < y) : c7 p x < c7 p y := by
  have h1 := d8_mono hx hy hl
  have h3 : d8 (0 - p) ≠ d8 x := fun e => h (by have := d8_inj (by omega) hx e; omega)
  have h4 : d8 (0 - p) ≠ d8 y := fun e => h' (by have := d8_inj (by omega) hy e; omega)
  unfold c7
  split <;> split <;> omega
theorem v7_lt : ∀ {r : List Int} {p : Int}, Lets 4 (p :: r) → adjOk (p :: r) = true → v7 p r < 7 ^ r.length
  | [], _, _, _ => by simp [v7]
  | x :: r, p, h, ha => by
    have a2 := adj_cons2.mp ha
    have h1 := c7_lt (h p (by simp)) (h x (by simp)) a2.1
    have h2 := v7_lt (r := r) (p := x) (fun y hy => h y (List.mem_cons_of_mem _ hy)) a2.2
    have h3 : (c7 p x + 1) * 7 ^ r.length ≤ 7 * 7 ^ r.length := Nat.mul_le_mul_right _ (by omega)
    rw [Nat.add_mul, Nat.one_mul] at h3
    rw [v7, List.length_cons, Nat.pow_succ, Nat.mul_comm (7 ^ r.length) 7]
    omega
theorem val7_lt {x : Int} {r : List Int} (h : Lets 4 (x :: r)) (ha : adjOk (x :: r) = true) : val7 (x :: r) < 8 * 7 ^ r.length := by
  have h1 := d8_lt (h x (by simp))
  have h2 := v7_lt h ha
  have h3 : (d8 x + 1) * 7 ^ r.length ≤ 8 * 7 ^ r.length := Nat.mul_le_mul_right _ (by omega)
  rw [Nat.add_mul, Nat.one_mul] at h3
  rw [val7]
  omega
theorem v7_mono : ∀ {a b : List Int} {p : Int}, a.length = b.length → Lets 4 (p :: a) → Lets 4 (p :: b) → adjOk (p :: a) = true → adjOk (p :: b) = true → a < b → v7 p a < v7 p b
  | [], [], _, _, _, _, _, _, h => absurd h (List.lt_irrefl _)
  | [], _ :: _, _, e, _, _, _, _, _ => by simp at e
  | _ :: _, [], _, e, _, _, _, _, _ => by simp at e
  | x :: a, y :: b, p, e, ha, hb, aa, ab, h => by
    have e' : a.length = b.length := by simpa using e
    have a2 := adj_cons2.mp aa
    have b2 := adj_cons2.mp ab
    rw [v7, v7, e']
    rcases List.cons_lt_cons_iff.mp h with h | ⟨h1, h2⟩
    · have h1 := c7_mono (ha p (by simp)) (ha x (by simp)) (hb y (by simp)) a2.1 b2.1 h
      have h2 := v7_lt (r := a) (p := x) (fun z hz => ha z (List.mem_cons_of_mem _ hz)) a2.2
      rw [e'] at h2
      have h3 : (c7 p x + 1) * 7 ^ b.length ≤ c7 p y * 7 ^ b.length := Nat.mul_le_mul_right _ h1
      rw [Nat.add_mul, Nat.one_mul] at h3
      omega
    · subst h1
      have := v7_mono e' (fun z hz => ha z (List.mem_cons_of_mem _ hz)) (fun z hz => hb z (List.mem_cons_of_mem _ hz)) a2.2 b2.2 h2
      omega
theorem val7_mono : ∀ {a b : List Int}, a.length = b.length → Lets 4 a → Lets 4 b → adjOk a = true → adjOk b = true → a < b → val7 a < val7 b
  | [], [], _, _, _, _, _, h => absurd h (List.lt_irrefl _)
  | [], _ :: _, e, _, _, _, _, _ => by simp at e
  | _ :: _, [], e, _, _, _, _, _ => by simp at e
  | x :: a, y :: b, e, ha, hb, aa, ab, h => by
    have e' : a.length = b.length := by simpa using e
    rw [val7, val7, e']
    rcases List.cons_lt_cons_iff.mp h with h | ⟨h1, h2⟩
    · have h1 := d8_mono (ha x (by simp)) (hb y (by simp)) h
      have h2 := v7_lt ha aa
      rw [e'] at h2
      have h3 : (d8 x + 1) * 7 ^ b.length ≤ d8 y * 7 ^ b.length := Nat.mul_le_mul_right _ h1
      rw [Nat.add_mul, Nat.one_mul] at h3
      omega
    · subst h1
      have := v7_mono e' ha hb aa ab h2
      omega
end My
namespace My
/-! ### plain: rows of eight letters -/
def triS : Nat → Nat
  | 0 => 0
  | a + 1 => triS a + (2743 - a)
theorem triS_form : ∀ a : Nat, a ≤ 2744 → 2 * triS a + a * a = 5487 * a
  | 0, _ => rfl
  | a + 1, h => by
    have := triS_form a (by omega)
    have e : (a + 1) * (a + 1) = a * a + 2 * a + 1 := by
      rw [Nat.add_mul, Nat.mul_add a a 1]
      omega
    rw [triS, e]
    omega
theorem triS_mono : ∀ {a b : Nat}, a ≤ b → triS a ≤ triS b
  | a, 0, h => by rw [Nat.le_zero.mp h]; exact Nat.le_refl _
  | a, b + 1, h => by
    rcases Nat.lt_or_ge a (b + 1) with h' | h'
    · exact Nat.le_trans (triS_mono (Nat.lt_succ_iff.mp h')) (Nat.le_add_right _ _)
    · rw [show a = b + 1 by omega]; exact Nat.le_refl _
def triR (a b : Nat) : Nat := triS a + (b - a - 1)
theorem triR_lt {a b : Nat} (h : a < b) (hb : b < 2744) : triR a b < triS (a + 1) := by
  unfold triR
  rw [triS]
  omega
theorem triR_less1 {a b c : Nat} (h : a < b) (h' : b < c) : triR a b < triR a c := by
  unfold triR
  omega
theorem triR_less2 {a b c d : Nat} (h : a < b) (hb : b < 2744) (h' : a < c) : triR a b < triR c d := by
  have h1 := triR_lt h hb
  have h2 := triS_mono (show a + 1 ≤ c from h')
  unfold triR at h1 ⊢
  omega
theorem triR_max {a b : Nat} (h : a < b) (hb : b < 2744) : triR a b < 3763396 := by
  have h1 := triR_lt h hb
  have h2 := triS_mono (show a + 1 ≤ 2743 by omega)
  have h3 := triS_form 2743 (by omega)
  omega
theorem adj_take (m : Nat) {xs : List Int} (h : adjOk xs = true) : adjOk (xs.take m) = true := by
  rw [adjO_iff] at h ⊢
  intro k hk
  rw [List.length_take] at hk
  have := h k (by omega)
  rw [List.getD_eq_getElem?_getD, List.getD_eq_getElem?_getD] at this ⊢
  rwa [List.getElem?_take_of_lt (by omega), List.getElem?_take_of_lt (by omega)]
theorem halves_adj {r : List Int} (h : adjOk r = true) : adjOk (halves r).1 = true ∧ adjOk (halves r).2 = true := by
  rcases halves_or r with e | e <;> rw [e]
  · exact ⟨adj_take _ h, adj_take _ (undone_adj h)⟩
  · exact ⟨adj_take _ (undone_adj h), adj_take _ h⟩
theorem half8_ne {r : List Int} (h8 : r.length = 8) (h : adjOk r = true) : r.take 4 ≠ (undone r).take 4 := by
  match r, h8 with
  | [a, b, c, d, e, f, g, i], _ =>
    intro z
    have z : [a, b, c, d] = [0 - i, 0 - g, 0 - f, 0 - e] := z
    have h := adjO_iff.mp h 3 (by simp)
    have h : d ≠ 0 - e := h
    simp only [List.cons.injEq] at z
    exact h z.2.2.2.1
theorem half8_lt {r : List Int} (h8 : r.length = 8) (h : adjOk r = true) : (halves r).1 < (halves r).2 := by
  have hne := half8_ne h8 h
  have e : halves r = sorted2 (r.take 4) ((undone r).take 4) := by rw [halves_sorted, h8]
  rw [e]
  unfold sorted2
  rcases lt_tot (r.take 4) ((undone r).take 4) with h | h | h
  · rw [if_neg (List.not_lt.mpr (List.le_of_lt h))]; exact h
  · exact absurd h hne
  · rw [if_pos h]; exact h
def rank8 (r : List Int) : Nat := triR (val7 (halves r).1) (val7 (halves r).2)
theorem val7_half {a : List Int} (hl : a.length = 4) (h : Lets 4 a) (ha : adjOk a = true) : val7 a < 2744 := by
  cases a with
  | nil => simp at hl
  | cons x r =>
    have := val7_lt h ha
    rw [show r.length = 3 by simpa using hl] at this
    exact this
theorem rank8_facts {r : List Int} (h8 : r.length = 8) (hr : Lets 4 r) (ha : adjOk r = true) : val7 (halves r).1 < val7 (halves r).2 ∧ val7 (halves r).2 < 2744 := by
  have l := halves_len r
  rw [h8] at l
  have s := halves_lets hr
  have a := halves_adj ha
  exact ⟨val7_mono (l.1.trans l.2.symm) s.1 s.2 a.1 a.2 (half8_lt h8 ha), val7_half l.2 s.2 a.2⟩
theorem rank8_lt {r : List Int} (h8 : r.length = 8) (hr : Lets 4 r) (ha : adjOk r = true) : rank8 r < 3763396 := by
  have := rank8_facts h8 hr ha
  exact triR_max this.1 this.2
theorem rank8_less {r q : List Int} (hr8 : r.length = 8) (hq8 : q.length = 8) (hr : Lets 4 r) (hq : Lets 4 q) (ar : adjOk r = true) (aq : adjOk q = true) (h : halvesLt (halves r) (halves q) = true) : rank8 r < rank8 q := by
  have fr := rank8_facts hr8 hr ar
  have fq := rank8_facts hq8 hq aq
  have lr := halves_len r
  have lq := halves_len q
  rw [hr8] at lr
  rw [hq8] at lq
  have sr := halves_lets hr
  have sq := halves_lets hq
  have tr := halves_adj ar
  have tq := halves_adj aq
  unfold halvesLt at h
  unfold rank8
  split at h
  · rename_i e1
    rw [e1] at fr ⊢
    exact triR_less1 fr.1 (val7_mono (lr.2.trans lq.2.symm) sr.2 sq.2 tr.2 tq.2 (of_decide_eq_true h))
  · exact triR_less2 fr.1 fr.2 (val7_mono (lr.1.trans lq.1.symm) sr.1 sq.1 tr.1 tq.1 (of_decide_eq_true h))
end My
namespace My
/-! ### plain: the measure -/
def roomAt (k : Nat) : Nat := if k ≤ 7 then 8 ^ k else if k = 8 then 3763396 else 8192
def levelOf : Nat → Nat
  | 0 => 0
  | k + 1 => levelOf k + roomAt k
def rankOf (r : List Int) : Nat := if r.length ≤ 7 then rankS r else if r.length = 8 then rank8 r else rankL 4 r
def muRow (r : List Int) : Nat := levelOf r.length + rankOf r
theorem levelOf_mono : ∀ {a b : Nat}, a ≤ b → levelOf a ≤ levelOf b
  | a, 0, h => by rw [Nat.le_zero.mp h]; exact Nat.le_refl _
  | a, b + 1, h => by
    rcases Nat.lt_or_ge a (b + 1) with h' | h'
    · exact Nat.le_trans (levelOf_mono (Nat.lt_succ_iff.mp h')) (Nat.le_add_right _ _)
    · rw [show a = b + 1 by omega]; exact Nat.le_refl _
theorem rankOf_lt {r : List Int} (hr : Lets 4 r) (ha : adjOk r = true) : rankOf r < roomAt r.length := by
  unfold rankOf roomAt
  split
  · exact rankS_lt hr
  · split
    · rename_i h
      exact rank8_lt h hr ha
    · unfold rankL
      have h1 := val8_lt (take_lets hr 4)
      have h2 := val8_lt (take_lets hr.undone 4)
      rw [List.length_take, Nat.min_eq_left (by omega)] at h1
      rw [List.length_take, undone_length, Nat.min_eq_left (by omega)] at h2
      omega
theorem muRow_shorter {r q : List Int} (hr : Lets 4 r) (ha : adjOk r = true) (h : r.length < q.length) : muRow r < muRow q := by
  have h1 := rankOf_lt hr ha
  have h2 := levelOf_mono (show r.length + 1 ≤ q.length from h)
  rw [levelOf] at h2
  unfold muRow
  omega
theorem muRow_lt {r : List Int} (hr : Lets 4 r) (ha : adjOk r = true) (h : r.length ≤ 24) : muRow r < 6300000 := by
  have h1 := rankOf_lt hr ha
  have h2 := levelOf_mono (show r.length + 1 ≤ 25 by omega)
  rw [levelOf] at h2
  have h3 : levelOf 25 < 6300000 := by decide
  unfold muRow
  omega
theorem muRow_small {r : List Int} (hr : Lets 4 r) (ha : adjOk r = true) (h : r.length < 7) : muRow r < 300000 := by
  have h1 := rankOf_lt hr ha
  have h2 := levelOf_mono (show r.length + 1 ≤ 7 by omega)
  rw [levelOf] at h2
  have h3 : levelOf 7 < 300000 := by decide
  unfold muRow
  omega
def mu : List (List Int) → Nat
  | [] => 0
  | r :: t => muRow r + mu t
theorem mu_set : ∀ {xss : List (List Int)} {p : Nat} {r : List Int}, p < xss.length → muRow r < muRow (xss.getD p []) → mu (xss.set p r) < mu xss
  | [], p, r, h, _ => by simp at h
  | q :: t, 0, r, _, h => by
    have h : muRow r < muRow q := h
    show muRow r + mu t < muRow q + mu t
    omega
  | q :: t, p + 1, r, h, h' => by
    have := mu_set (xss := t) (p := p) (r := r) (by simpa using h) h'
    show muRow q + mu (t.set p r) < muRow q + mu t
    omega
/-- how many rows are long -/
def bigs : List (List Int) → Nat
  | [] => 0
  | r :: t => (if 7 ≤ r.length then 1 else 0) + bigs t
theorem bigs_set : ∀ {xss : List (List Int)} {p : Nat} {r : List Int}, r.length ≤ (xss.getD p []).length → bigs (xss.set p r) ≤ bigs xss
  | [], p, r, h => Nat.le_refl _
  | q :: t, 0, r, h => by
    have h : r.length ≤ q.length := h
    show (if 7 ≤ r.length then 1 else 0) + bigs t ≤ (if 7 ≤ q.length then 1 else 0) + bigs t
    split <;> split <;> omega
  | q :: t, p + 1, r, h => by
    have := bigs_set (xss := t) (p := p) (r := r) h
    show (if 7 ≤ q.length then 1 else 0) + bigs (t.set p r) ≤ (if 7 ≤ q.length then 1 else 0) + bigs t
    omega
theorem mu_lt : ∀ {xss : List (List Int)}, (∀ xs ∈ xss, Lets 4 xs ∧ adjOk xs = true ∧ xs.length ≤ 24) → mu xss ≤ 300000 * xss.length + 6000000 * bigs xss
  | [], _ => by simp [mu]
  | r :: t, h => by
    obtain ⟨h1, h2, h3⟩ := h r (by simp)
    have h4 := mu_lt (xss := t) fun xs hx => h xs (List.mem_cons_of_mem _ hx)
    rw [mu, bigs, List.length_cons]
    by_cases h5 : 7 ≤ r.length
    · rw [if_pos h5]
      have := muRow_lt h1 h2 h3
      omega
    · rw [if_neg h5]
      have := muRow_small h1 h2 (by omega)
      omega
/-- lists of rows whose way down is short -/
structure GoodG (n : Nat) (xss : List (List Int)) : Prop where
  len : xss.length = n
  n4 : n ≤ 4
  row : ∀ xs ∈ xss, Lets n xs ∧ adjOk xs = true ∧ xs.length ≤ 24
  two : ∀ i j : Nat, i ≠ j → 9 ≤ (xss.getD i []).length → (xss.getD j []).length ≤ 8
  big : bigs xss ≤ 2
theorem Lets.up {n m : Int} {xs : List Int} (h : Lets n xs) (e : n ≤ m) : Lets m xs := fun x hx => by
  have := h x hx
  omega
theorem getD_set_len (xss : List (List Int)) {p : Nat} {r : List Int} (h : r.length ≤ (xss.getD p []).length) (i : Nat) : ((xss.set p r).getD i []).length ≤ (xss.getD i []).length := by
  by_cases e : i = p
  · subst e
    by_cases hi : i < xss.length
    · rw [List.getD_eq_getElem?_getD, List.getElem?_set_self hi]
      exact h
    · rw [List.getD_eq_getElem?_getD, List.getElem?_eq_none (by rw [List.length_set]; omega)]
      exact Nat.zero_le _
  · rw [List.getD_eq_getElem?_getD, List.getElem?_set_ne (by omega), ← List.getD_eq_getElem?_getD]
    exact Nat.le_refl _
theorem img_length' {xss : List (List Int)} {o : Nat} {x : Int} (h : x = (o : Int) + 1 ∨ x = 0 - (o : Int) - 1) : (img xss x).length = (xss.getD o []).length := by
  rcases h with rfl | rfl
  · rw [img_pos]
  · rw [show 0 - (o : Int) - 1 = 0 - ((o : Int) + 1) by omega, img_length (by omega), img_pos]
theorem good_step {n : Nat} {xss : List (List Int)} {s : Step} {r : List Int} (g : GoodG n xss) (h : near xss = some (s, r)) : GoodG n (xss.set s.1 r) ∧ mu (xss.set s.1 r) < mu xss := by
  obtain ⟨gl, g4, gr, g2, gb⟩ := g
  have nr := near_row h (fun xs hx => (gr xs hx).2.1) (fun xs hx => (gr xs hx).1)
  obtain ⟨hp, hless⟩ := near_less h
  have hle : r.length ≤ (xss.getD s.1 []).length := by rcases hless with h | h <;> omega
  have old := getD_row (C := fun xs => Lets n xs ∧ adjOk xs = true ∧ xs.length ≤ 24) ⟨(fun x hx => by cases hx), rfl, Nat.zero_le _⟩ gr s.1
  have r4 : Lets 4 r := nr.2.up (by omega)
  have o4 : Lets 4 (xss.getD s.1 []) := old.1.up (by omega)
  refine ⟨⟨by rw [List.length_set]; exact gl, g4, fun xs hx => ?_, fun i j hij hi => ?_, Nat.le_trans (bigs_set hle) gb⟩, mu_set hp ?_⟩
  · rcases List.mem_or_eq_of_mem_set hx with hx | rfl
    · exact gr xs hx
    · exact ⟨nr.2, nr.1, Nat.le_trans hle old.2.2⟩
  · have h1 := getD_set_len xss hle i
    have h2 := getD_set_len xss hle j
    have h3 := g2 i j hij (by omega)
    omega
  · rcases hless with h1 | ⟨h1, h2⟩
    · exact muRow_shorter r4 nr.1 h1
    · unfold muRow
      rw [h1]
      suffices rankOf r < rankOf (xss.getD s.1 []) by omega
      unfold rankOf
      rw [h1]
      split
      · exact rankS_less h1 r4 o4 h2
      · split
        · rename_i h8
          exact rank8_less (h1.trans h8) h8 r4 o4 nr.1 old.2.1 h2
        · obtain ⟨o, _, ho, hne, hx, hn⟩ := near_some h
          have er := nearer_some hn
          have ml := img_length' (xss := xss) hx
          have m8 := g2 s.1 o (fun e => hne e.symm) (by omega)
          have mr : Lets 4 (img xss s.2.1) := (img_lets (fun xs hx => (gr xs hx).1) _).up (by omega)
          have jl := joined_length (firstOf s.2.2 (img xss s.2.1) (xss.getD s.1 [])) (firstOf s.2.2 (xss.getD s.1 []) (img xss s.2.1))
          rw [firstOf_len, ← er, h1] at jl
          unfold firstOf at er jl
          split at er
          · rename_i hb
            rw [if_pos hb, if_pos hb] at jl
            rw [er] at h2 ⊢
            exact long_step' (G := 4) (by omega) (by omega) (by omega) o4 mr h2
          · rename_i hb
            rw [if_neg hb, if_neg hb] at jl
            rw [er] at h2 ⊢
            exact long_step (G := 4) (by omega) (by omega) (by omega) o4 mr h2
theorem good_falls (n : Nat) : Falls (GoodG n) mu where
  small := fun xss g => by
    have h1 := mu_lt (xss := xss) fun xs hx => ⟨(g.row xs hx).1.up (by have := g.n4; omega), (g.row xs hx).2⟩
    have h2 := g.big
    have h3 := g.len
    have h4 := g.n4
    exact ⟨by omega, fun xs hx => by have := (g.row xs hx).2.2; omega, by omega⟩
  step := fun xss s r g h => good_step g h
end My
namespace My
/-! ### plain: texts of images, piece by piece -/
def rd (n : Nat) (w : List Nat) : List Int := if w = [49] then [] else plain (w.map (letterC n))
def segs : Nat → List (List Nat) → List Nat
  | _, [] => []
  | d, w :: ws => dHead d ++ (w ++ segs (d + 1) ws)
/-- the letters' signs at the front -/
def lw (n : Nat) (l : List Nat) : List Nat := l.takeWhile fun c => !decide (letterC n c = 0)
theorem lettersL_lw (n : Nat) (l : List Nat) : lettersL n l = (lw n l).map (letterC n) := by
  unfold lettersL lw
  rw [List.takeWhile_map]
  rfl
theorem lw_letters {n : Nat} {l : List Nat} : ∀ c ∈ lw n l, letterC n c ≠ 0 := fun c hc => by
  unfold lw at hc
  induction l with
  | nil => cases hc
  | cons x r ih =>
    rw [List.takeWhile_cons] at hc
    split at hc
    · rename_i hx
      rcases List.mem_cons.mp hc with rfl | hc
      · simpa using hx
      · exact ih hc
    · cases hc
theorem lw_drop (n : Nat) (l : List Nat) : l = lw n l ++ l.drop (lw n l).length := by
  unfold lw
  induction l with
  | nil => rfl
  | cons x r ih =>
    rw [List.takeWhile_cons]
    split
    · rw [List.length_cons, List.drop_succ_cons, List.cons_append, ← ih]
    · rfl
theorem lw_app {n : Nat} {w R : List Nat} (h : ∀ c ∈ w, letterC n c ≠ 0) (hR : ∀ c t, R = c :: t → letterC n c = 0) : lw n (w ++ R) = w := by
  unfold lw
  rw [List.takeWhile_append_of_pos (fun c hc => by simpa using h c hc)]
  cases R with
  | nil => simp
  | cons c t => rw [List.takeWhile_cons, if_neg (by simp [hR c t rfl]), List.append_nil]
theorem take1 {l : List Nat} {c : Nat} : l.take 1 = [c] ↔ ∃ r, l = c :: r := by
  cases l with
  | nil => simp
  | cons x r => simp
theorem drop_cons {l r : List Nat} {k c : Nat} (h : l.drop k = c :: r) : l.drop (k + 1) = r := by
  rw [← List.drop_drop, h]
  rfl
theorem headAt_ok {l : List Nat} : ∀ {h : List Nat} {k k1 : Nat}, headAt l k h = .ok k1 → l.drop k = h ++ l.drop k1
  | [], k, k1, e => by
    rw [headAt] at e
    cases e
    rfl
  | c :: r, k, k1, e => by
    rw [headAt] at e
    split at e
    · rename_i h
      obtain ⟨t, ht⟩ := take1.mp h
      have := headAt_ok e
      rw [drop_cons ht] at this
      rw [ht, List.cons_append, ← this]
    · cases e
theorem headAt_of {l : List Nat} : ∀ {h R : List Nat} {k : Nat}, l.drop k = h ++ R → headAt l k h = .ok (k + h.length)
  | [], R, k, _ => rfl
  | c :: r, R, k, e => by
    rw [headAt, if_pos (take1.mpr ⟨_, e⟩), headAt_of (R := R) (drop_cons e), List.length_cons]
    congr 1
    omega
theorem readImgs_segs {n : Nat} {l : List Nat} : ∀ {t d k : Nat} {found xss : List (List Int)} {k' : Nat}, readImgs n l t d k found = .ok (xss, k') →
    ∃ ws : List (List Nat), ws.length = t ∧ (∀ w ∈ ws, Whole n w) ∧ l.drop k = segs d ws ++ l.drop k' ∧ xss = found ++ ws.map (rd n)
  | 0, d, k, found, xss, k', e => by
    rw [readImgs] at e
    cases e
    exact ⟨[], rfl, (fun w hw => by cases hw), rfl, by simp⟩
  | t + 1, d, k, found, xss, k', e => by
    rw [readImgs] at e
    split at e
    · cases e
    · rename_i k1 h1
      have h1 := headAt_ok h1
      split at e
      · rename_i h2
        obtain ⟨r, hr⟩ := take1.mp h2
        obtain ⟨ws, a1, a2, a3, a4⟩ := readImgs_segs e
        refine ⟨[49] :: ws, by rw [List.length_cons, a1], fun w hw => ?_, ?_, ?_⟩
        · rcases List.mem_cons.mp hw with rfl | hw
          · exact .inl rfl
          · exact a2 w hw
        · rw [drop_cons hr] at a3
          rw [h1, hr, segs, List.append_assoc, List.append_assoc, ← a3]
          rfl
        · rw [a4, List.map_cons, List.append_assoc]
          rfl
      · rename_i h2
        split at e
        · cases e
        · rename_i h3
          obtain ⟨ws, a1, a2, a3, a4⟩ := readImgs_segs e
          have hne : lw n (l.drop k1) ≠ [] := fun z => h3 (by rw [lettersL_lw, z]; rfl)
          have hW : Whole n (lw n (l.drop k1)) := .inr ⟨hne, lw_letters⟩
          rw [lettersL_lw, List.length_map] at a3
          rw [lettersL_lw] at a4
          refine ⟨lw n (l.drop k1) :: ws, by rw [List.length_cons, a1], fun w hw => ?_, ?_, ?_⟩
          · rcases List.mem_cons.mp hw with rfl | hw
            · exact hW
            · exact a2 w hw
          · have := lw_drop n (l.drop k1)
            rw [List.drop_drop] at this
            rw [h1, segs, List.append_assoc, List.append_assoc, ← a3, ← this]
          · have n49 : lw n (l.drop k1) ≠ [49] := fun z => h2 (by
              have := lw_drop n (l.drop k1)
              rw [z] at this
              rw [this]
              rfl)
            rw [a4, List.map_cons, List.append_assoc]
            unfold rd
            rw [if_neg n49]
            rfl
/-- a text that is read as images is made of pieces -/
theorem readImages_segs {n : Nat} {l : List Nat} {xss : List (List Int)} (e : readImages n l = .ok xss) : ∃ ws : List (List Nat), ws.length = n ∧ (∀ w ∈ ws, Whole n w) ∧ l = segs 1 ws ∧ xss = ws.map (rd n) := by
  unfold readImages at e
  split at e
  · cases e
  · rename_i found k h
    split at e
    · cases e
    · rename_i hk
      cases e
      obtain ⟨ws, a1, a2, a3, a4⟩ := readImgs_segs h
      rw [List.drop_of_length_le (show l.length ≤ k by omega), List.append_nil] at a3
      exact ⟨ws, a1, a2, a3, a4⟩
theorem segs_head {d : Nat} (hd : 1 ≤ d) {n : Nat} {ws : List (List Nat)} {z : List Nat} (hz : ∀ c t, z = c :: t → letterC n c = 0) : ∀ c t, segs (d + 1) ws ++ z = c :: t → letterC n c = 0 := fun c t e => by
  cases ws with
  | nil => exact hz c t e
  | cons w r =>
    have h32 : dHead (d + 1) = 32 :: ([signC ((d + 1 : Nat) : Int)] ++ [61]) := by
      unfold dHead
      rw [if_pos (by omega)]
      rfl
    rw [segs, h32] at e
    have : 32 = c := by
      simp only [List.cons_append] at e
      exact (List.cons.inj e).1
    subst this
    unfold letterC
    rw [if_neg (by omega), if_neg (by omega)]
theorem readImgs_of {n : Nat} (hn : n ≤ 4) {l z : List Nat} (hz : ∀ c t, z = c :: t → letterC n c = 0) : ∀ {ws : List (List Nat)} {d k : Nat} {found : List (List Int)}, 1 ≤ d → (∀ w ∈ ws, Whole n w) → l.drop k = segs d ws ++ z →
    readImgs n l ws.length d k found = .ok (found ++ ws.map (rd n), k + (segs d ws).length)
  | [], d, k, found, _, _, _ => by
    rw [List.length_nil, readImgs, List.map_nil, List.append_nil, segs]
    rfl
  | w :: ws, d, k, found, hd, hw, e => by
    rw [segs, List.append_assoc, List.append_assoc] at e
    have h1 := headAt_of e
    have e1 : l.drop (k + (dHead d).length) = w ++ (segs (d + 1) ws ++ z) := by
      rw [← List.drop_drop, e, List.drop_left]
    have hw' : ∀ v ∈ ws, Whole n v := fun v hv => hw v (List.mem_cons_of_mem _ hv)
    rw [List.length_cons, readImgs, h1]
    simp only
    rcases hw w (by simp) with rfl | ⟨w1, w2⟩
    · rw [if_pos (take1.mpr ⟨_, e1⟩), readImgs_of hn hz (by omega) hw' (drop_cons e1), segs]
      congr 1
      refine Prod.ext ?_ ?_
      · simp [rd]
      · simp only [List.length_append, List.length_cons, List.length_nil]
        omega
    · have n49 : w ≠ [49] := fun z => w2 49 (by rw [z]; simp) (letterC_49 n hn)
      have el : lettersL n (l.drop (k + (dHead d).length)) = w.map (letterC n) := by
        rw [lettersL_lw, e1, lw_app w2 (segs_head hd hz)]
      have ht : (l.drop (k + (dHead d).length)).take 1 ≠ [49] := fun z => by
        obtain ⟨r, hr⟩ := take1.mp z
        rw [e1] at hr
        cases w with
        | nil => exact w1 rfl
        | cons c t =>
          have : c = 49 := (List.cons.inj hr).1
          exact w2 49 (by rw [this]; simp) (letterC_49 n hn)
      rw [if_neg ht, el, if_neg (by simpa using w1)]
      have e2 : l.drop (k + (dHead d).length + (w.map (letterC n)).length) = segs (d + 1) ws ++ z := by
        rw [List.length_map, ← List.drop_drop, e1, List.drop_left]
      rw [readImgs_of hn hz (by omega) hw' e2, segs]
      congr 1
      refine Prod.ext ?_ ?_
      · simp [rd, n49]
      · simp only [List.length_append, List.length_map]
        omega
/-- the pieces are read back -/
theorem readImages_of {n : Nat} (hn : n ≤ 4) {ws : List (List Nat)} (hl : ws.length = n) (hw : ∀ w ∈ ws, Whole n w) : readImages n (segs 1 ws) = .ok (ws.map (rd n)) := by
  have := readImgs_of (n := n) (l := segs 1 ws) (z := []) hn (fun c t e => by cases e) (ws := ws) (d := 1) (k := 0) (found := []) (Nat.le_refl _) hw (by rw [List.append_nil]; rfl)
  unfold readImages
  rw [hl] at this
  rw [this]
  simp
end My
namespace My
/-! ### plain: the law's reading of images is the program's -/
theorem drop_nil_len {l : List Nat} {k : Nat} (h : l.drop k = []) : l.length ≤ k := by
  have := congrArg List.length h
  rw [List.length_drop, List.length_nil] at this
  omega
theorem drop_lt {l r : List Nat} {k c : Nat} (h : l.drop k = c :: r) : k < l.length := by
  have := congrArg List.length h
  rw [List.length_drop, List.length_cons] at this
  omega
theorem mRun_head {n L : Nat} {l : List Nat} {f : List (List Nat)} : ∀ {w : List Nat} {k : Nat}, w ≠ [] → (∀ c ∈ w, c ≠ 10) →
    mRun n L ⟨f, w, k⟩ (l.drop k ++ [10]) = match headAt l k w with
      | .error e => .error e
      | .ok k1 => mRun n L ⟨f ++ [[]], [], k1⟩ (l.drop k1 ++ [10])
  | [], _, h, _ => absurd rfl h
  | c :: r, k, _, h10 => by
    cases hd : l.drop k with
    | nil =>
      have n10 : ¬ 10 = c := fun e => h10 c (by simp) e.symm
      have : ¬ (l.drop k).take 1 = [c] := by rw [hd]; simp
      rw [headAt, if_neg this, List.nil_append, mRun, mStep]
      simp only
      rw [if_neg n10]
    | cons x t =>
      have hd1 := drop_cons hd
      rw [headAt, List.cons_append, mRun, mStep]
      simp only
      by_cases e : x = c
      · subst e
        rw [if_pos rfl, if_pos (take1.mpr ⟨_, hd⟩)]
        simp only
        rw [← hd1]
        cases r with
        | nil =>
          rw [if_pos rfl, headAt]
        | cons y s =>
          rw [if_neg (by simp)]
          exact mRun_head (by simp) fun d hd => h10 d (List.mem_cons_of_mem _ hd)
      · have : ¬ (l.drop k).take 1 = [c] := by
          rw [hd]
          simpa using e
        rw [if_neg e, if_neg this]
theorem last_snoc (f : List (List Nat)) (w : List Nat) : (f ++ [w]).getD ((f ++ [w]).length - 1) [] = w := by
  rw [List.length_append, List.length_singleton, Nat.add_sub_cancel, List.getD_eq_getElem?_getD, List.getElem?_append_right (Nat.le_refl _)]
  simp
theorem set_snoc (f : List (List Nat)) (w v : List Nat) : (f ++ [w]).set ((f ++ [w]).length - 1) v = f ++ [v] := by
  rw [List.length_append, List.length_singleton, Nat.add_sub_cancel, List.set_append_right _ _ (Nat.le_refl _), Nat.sub_self]
  rfl
theorem lw_cons {n c : Nat} {r : List Nat} (h : letterC n c ≠ 0) : lw n (c :: r) = c :: lw n r := by
  unfold lw
  rw [List.takeWhile_cons, if_pos (by simpa using h)]
theorem lw_stop {n c : Nat} {r : List Nat} (h : letterC n c = 0) : lw n (c :: r) = [] := by
  unfold lw
  rw [List.takeWhile_cons, if_neg (by simpa using h)]
theorem mRun_letters {n L : Nat} (hn : n ≤ 4) {l : List Nat} {f : List (List Nat)} : ∀ {r w : List Nat} {k : Nat}, l.drop k = r → (∀ c ∈ w, letterC n c ≠ 0) →
    mRun n L ⟨f ++ [w], [], k⟩ (r ++ [10]) = mRun n L ⟨f ++ [w ++ lw n r], [], k + (lw n r).length⟩ (l.drop (k + (lw n r).length) ++ [10])
  | [], w, k, hd, hw => by
    have : lw n [] = [] := rfl
    rw [this, List.append_nil, List.length_nil, Nat.add_zero, hd]
  | x :: r, w, k, hd, hw => by
    by_cases hx : letterC n x = 0
    · rw [lw_stop hx, List.append_nil, List.length_nil, Nat.add_zero, hd]
    · have n49 : w ≠ [49] := fun z => hw 49 (by rw [z]; simp) (letterC_49 n hn)
      rw [lw_cons hx, List.cons_append, mRun, mStep]
      simp only
      rw [last_snoc, if_pos ⟨n49, .inl hx⟩, set_snoc]
      simp only
      rw [mRun_letters hn (drop_cons hd) (w := w ++ [x]) fun c hc => by
        rcases List.mem_append.mp hc with hc | hc
        · exact hw c hc
        · rw [List.mem_singleton.mp hc]; exact hx]
      rw [List.append_assoc, List.length_cons, show k + 1 + (lw n r).length = k + ((lw n r).length + 1) by omega]
      rfl
theorem mRun_body {n : Nat} (hn : n ≤ 4) {l : List Nat} {f : List (List Nat)} {k : Nat} : mRun n l.length ⟨f ++ [[]], [], k⟩ (l.drop k ++ [10]) =
    if (l.drop k).take 1 = [49] then mRun n l.length ⟨f ++ [[49]], [], k + 1⟩ (l.drop (k + 1) ++ [10])
    else if lw n (l.drop k) = [] then .error k
    else mRun n l.length ⟨f ++ [lw n (l.drop k)], [], k + (lw n (l.drop k)).length⟩ (l.drop (k + (lw n (l.drop k)).length) ++ [10]) := by
  by_cases h1 : (l.drop k).take 1 = [49]
  · rw [if_pos h1]
    obtain ⟨r, hr⟩ := take1.mp h1
    rw [drop_cons hr, hr, List.cons_append, mRun, mStep]
    simp only
    rw [last_snoc, if_pos ⟨by simp, .inr ⟨by simp, by simp⟩⟩, set_snoc]
    rfl
  · rw [if_neg h1]
    by_cases h2 : lw n (l.drop k) = []
    · rw [if_pos h2]
      have key : ∀ c t, l.drop k ++ [10] = c :: t → letterC n c = 0 ∧ c ≠ 49 := fun c t e => by
        cases hd : l.drop k with
        | nil =>
          rw [hd] at e
          have : 10 = c := (List.cons.inj e).1
          subst this
          exact ⟨letterC_10 n, by omega⟩
        | cons x r =>
          rw [hd] at e h1 h2
          have : x = c := (List.cons.inj e).1
          subst this
          refine ⟨?_, fun z => h1 (by rw [z]; rfl)⟩
          cases hx : decide (letterC n x = 0) with
          | true => exact of_decide_eq_true hx
          | false => rw [lw_cons (of_decide_eq_false hx)] at h2; cases h2
      cases e : l.drop k ++ [10] with
      | nil => simp at e
      | cons c t =>
        obtain ⟨k1, k2⟩ := key c t e
        rw [mRun, mStep]
        simp only
        rw [last_snoc, if_neg (by rintro ⟨_, h | ⟨h, _⟩⟩; exact h k1; exact k2 h), if_neg (by rintro ⟨_, h, _⟩; exact h rfl), if_pos (.inr (.inl rfl))]
    · rw [if_neg h2]
      exact mRun_letters hn rfl fun c hc => by cases hc
/-- an image is read whole: 1, or letters and then no letter -/
def Fin1 (n : Nat) (f : List (List Nat)) (r : List Nat) : Prop := f.getD (f.length - 1) [] ≠ [] ∧ (f.getD (f.length - 1) [] = [49] ∨ ∀ c t, r = c :: t → letterC n c = 0)
theorem mRun_next {n : Nat} {l : List Nat} {f : List (List Nat)} {k : Nat} (hl : f.length < n) (hf : 1 ≤ f.length) (h : Fin1 n f (l.drop k)) : mRun n l.length ⟨f, [], k⟩ (l.drop k ++ [10]) = match headAt l k (dHead (f.length + 1)) with
      | .error e => .error e
      | .ok k1 => mRun n l.length ⟨f ++ [[]], [], k1⟩ (l.drop k1 ++ [10]) := by
  have hh : dHead (f.length + 1) = 32 :: [97 + f.length, 61] := by
    unfold dHead signC
    rw [if_pos (by omega), if_pos (by omega), show 96 + (((f.length + 1 : Nat) : Int)).toNat = 97 + f.length by omega]
    rfl
  have key : ∀ c t, l.drop k ++ [10] = c :: t → ¬ (f.getD (f.length - 1) [] ≠ [49] ∧ (letterC n c ≠ 0 ∨ (c = 49 ∧ f.getD (f.length - 1) [] = []))) := fun c t e => by
    rintro ⟨h1, h2⟩
    rcases h2 with h2 | ⟨_, h2⟩
    · rcases h.2 with h3 | h3
      · exact h1 h3
      · cases hd : l.drop k with
        | nil =>
          rw [hd] at e
          have : 10 = c := (List.cons.inj e).1
          subst this
          exact h2 (letterC_10 n)
        | cons x r =>
          rw [hd] at e
          have : x = c := (List.cons.inj e).1
          subst this
          exact h2 (h3 x r hd)
    · exact h.1 h2
  rw [hh, headAt]
  cases hd : l.drop k with
  | nil =>
    have := key 10 [] (by rw [hd]; rfl)
    rw [List.nil_append, mRun, mStep]
    simp only
    rw [if_neg this, if_neg (by rintro ⟨h, _⟩; omega), if_pos (.inr (.inr hl)), if_neg (by simp)]
  | cons x r =>
    have := key x (r ++ [10]) (by rw [hd]; rfl)
    rw [List.cons_append, mRun, mStep]
    simp only
    rw [if_neg this]
    by_cases e : x = 32
    · subst e
      rw [if_pos ⟨rfl, h.1, hl⟩, if_pos (by simp)]
      simp only
      rw [← drop_cons hd]
      exact mRun_head (by simp) fun c hc => by
        simp at hc
        rcases hc with rfl | rfl <;> omega
    · rw [if_neg (by rintro ⟨h, _⟩; exact e h), if_pos (.inl (drop_lt hd)), if_neg (by simpa using e)]
theorem mRun_end {n : Nat} {l : List Nat} {f : List (List Nat)} {k : Nat} (hl : f.length = n) (h : Fin1 n f (l.drop k)) : mRun n l.length ⟨f, [], k⟩ (l.drop k ++ [10]) = if k < l.length then .error k else .ok ⟨f, [], k + 1⟩ := by
  cases hd : l.drop k with
  | nil =>
    have := drop_nil_len hd
    rw [List.nil_append, mRun, mStep]
    simp only
    rw [if_neg (by rintro ⟨_, h2 | ⟨h2, _⟩⟩; exact h2 (letterC_10 n); omega), if_neg (by rintro ⟨h, _⟩; omega), if_neg (by rintro (h2 | h2 | h2); omega; exact h.1 h2; omega), if_neg (by omega)]
    rfl
  | cons x r =>
    have hlt := drop_lt hd
    rw [List.cons_append, mRun, mStep]
    simp only
    rw [if_neg (by
      rintro ⟨h1, h2 | ⟨_, h2⟩⟩
      · rcases h.2 with h3 | h3
        · exact h1 h3
        · exact h2 (h3 x r hd)
      · exact h.1 h2), if_neg (by rintro ⟨_, _, h⟩; omega), if_pos (.inl hlt), if_pos hlt]
def mOut (n : Nat) : Except Nat Ms → Except Nat (List (List Int))
  | .error e => .error e
  | .ok m => .ok (m.found.map (rd n))
def rOut (l : List Nat) : Except Nat (List (List Int) × Nat) → Except Nat (List (List Int))
  | .error e => .error e
  | .ok (found, k) => if k < l.length then .error k else .ok found
theorem mRun_body2 {n : Nat} (hn : n ≤ 4) {l : List Nat} : ∀ {t : Nat} {f : List (List Nat)} {k : Nat} {found : List (List Int)}, f.length + 1 + t = n → found = f.map (rd n) →
    mOut n (mRun n l.length ⟨f ++ [[]], [], k⟩ (l.drop k ++ [10])) = rOut l (if (l.drop k).take 1 = [49] then readImgs n l t (f.length + 1 + 1) (k + 1) (found ++ [[]])
      else if lettersL n (l.drop k) = [] then .error k
      else readImgs n l t (f.length + 1 + 1) (k + (lettersL n (l.drop k)).length) (found ++ [plain (lettersL n (l.drop k))])) := by
  intro t
  induction t with
  | zero =>
    intro f k found hl hf
    rw [mRun_body hn]
    by_cases h1 : (l.drop k).take 1 = [49]
    · rw [if_pos h1, if_pos h1, mRun_end (by rw [List.length_append, List.length_singleton]; omega) ⟨by rw [last_snoc]; simp, .inl (last_snoc _ _)⟩, readImgs]
      unfold rOut
      simp only
      split
      · rfl
      · show Except.ok ((f ++ [[49]]).map (rd n)) = _
        rw [hf, List.map_append]
        rfl
    · rw [if_neg h1, if_neg h1, lettersL_lw]
      by_cases h2 : lw n (l.drop k) = []
      · rw [if_pos h2, h2, List.map_nil, if_pos rfl]
        rfl
      · have n49 : lw n (l.drop k) ≠ [49] := fun z => lw_letters (n := n) (l := l.drop k) 49 (by rw [z]; simp) (letterC_49 n hn)
        rw [if_neg h2, if_neg (by simpa using h2), List.length_map, mRun_end (by rw [List.length_append, List.length_singleton]; omega) ⟨by rw [last_snoc]; exact h2, .inr fun c t e => ?_⟩, readImgs]
        · unfold rOut
          simp only
          split
          · rfl
          · show Except.ok ((f ++ [lw n (l.drop k)]).map (rd n)) = _
            rw [hf, List.map_append]
            simp only [List.map_cons, List.map_nil, rd, if_neg n49]
        · have := lw_drop n (l.drop k)
          rw [List.drop_drop, e] at this
          cases hx : decide (letterC n c = 0) with
          | true => exact of_decide_eq_true hx
          | false =>
            have h3 := congrArg (lw n) this
            have h4 : lw n (lw n (l.drop k) ++ c :: t) = lw n (l.drop k) ++ lw n (c :: t) := by
              unfold lw
              rw [List.takeWhile_append_of_pos (fun d hd => by simpa using lw_letters d hd)]
            rw [h4, lw_cons (of_decide_eq_false hx)] at h3
            have := congrArg List.length h3
            rw [List.length_append, List.length_cons] at this
            omega
  | succ t ih =>
    intro f k found hl hf
    have key : ∀ (w : List Nat) (k2 : Nat), Fin1 n (f ++ [w]) (l.drop k2) → mOut n (mRun n l.length ⟨f ++ [w], [], k2⟩ (l.drop k2 ++ [10])) = rOut l (readImgs n l (t + 1) (f.length + 1 + 1) k2 (found ++ [rd n w])) := fun w k2 hF => by
      have e1 : (f ++ [w]).length = f.length + 1 := by rw [List.length_append, List.length_singleton]
      rw [mRun_next (by omega) (by omega) hF, readImgs, e1]
      cases headAt l k2 (dHead (f.length + 1 + 1)) with
      | error e => rfl
      | ok k1 =>
        have := ih (f := f ++ [w]) (k := k1) (found := found ++ [rd n w]) (by omega) (by rw [hf, List.map_append]; rfl)
        rw [e1] at this
        exact this
    rw [mRun_body hn]
    by_cases h1 : (l.drop k).take 1 = [49]
    · rw [if_pos h1, if_pos h1, key [49] (k + 1) ⟨by rw [last_snoc]; simp, .inl (last_snoc _ _)⟩]
      rfl
    · rw [if_neg h1, if_neg h1, lettersL_lw]
      by_cases h2 : lw n (l.drop k) = []
      · rw [if_pos h2, h2, List.map_nil, if_pos rfl]
        rfl
      · have n49 : lw n (l.drop k) ≠ [49] := fun z => lw_letters (n := n) (l := l.drop k) 49 (by rw [z]; simp) (letterC_49 n hn)
        rw [if_neg h2, if_neg (by simpa using h2), List.length_map, key _ _ ⟨by rw [last_snoc]; exact h2, .inr fun c t e => ?_⟩]
        · simp only [rd, if_neg n49]
        · have := lw_drop n (l.drop k)
          rw [List.drop_drop, e] at this
          cases hx : decide (letterC n c = 0) with
          | true => exact of_decide_eq_true hx
          | false =>
            have h3 := congrArg (lw n) this
            have h4 : lw n (lw n (l.drop k) ++ c :: t) = lw n (l.drop k) ++ lw n (c :: t) := by
              unfold lw
              rw [List.takeWhile_append_of_pos (fun d hd => by simpa using lw_letters d hd)]
            rw [h4, lw_cons (of_decide_eq_false hx)] at h3
            have := congrArg List.length h3
            rw [List.length_append, List.length_cons] at this
            omega
/-- the law reads what the program reads -/
theorem mImages_read {n : Nat} (h1 : 1 ≤ n) (hn : n ≤ 4) (l : List Nat) : readImages n l = match mImages n l with
      | .error e => .error e
      | .ok f => .ok (f.map (rd n)) := by
  obtain ⟨m, rfl⟩ : ∃ m, n = m + 1 := ⟨n - 1, by omega⟩
  have e0 : readImages (m + 1) l = rOut l (readImgs (m + 1) l (m + 1) 1 0 []) := rfl
  have hd : mRun (m + 1) l.length ⟨[], [97, 61], 0⟩ (l ++ [10]) = _ := mRun_head (n := m + 1) (L := l.length) (l := l) (f := []) (w := [97, 61]) (k := 0) (by simp) fun c hc => by
    simp at hc
    rcases hc with rfl | rfl <;> omega
  unfold mImages
  rw [e0, readImgs, hd]
  have : dHead 1 = [97, 61] := rfl
  rw [this]
  cases headAt l 0 [97, 61] with
  | error e => rfl
  | ok k1 =>
    have := mRun_body2 (n := m + 1) hn (l := l) (t := m) (f := []) (k := k1) (found := []) (by simp; omega) rfl
    rw [List.length_nil] at this
    have key : ∀ z : Except Nat Ms, mOut (m + 1) z = match (match z with
        | .error e => .error e
        | .ok m => .ok m.found : Except Nat (List (List Nat))) with
      | .error e => .error e
      | .ok f => .ok (f.map (rd (m + 1))) := fun z => by cases z <;> rfl
    exact this.symm.trans (key _)
end My
namespace My
/-! ### plain: written texts are made of pieces, and are read back -/
def jn (d : Nat) (ws : List (List Nat)) : List (List Nat) := (List.range ws.length).map fun k => [signC ((d + k : Nat) : Int)] ++ [61] ++ ws.getD k []
theorem jn_cons (d : Nat) (w : List Nat) (ws : List (List Nat)) : jn d (w :: ws) = ([signC (d : Int)] ++ [61] ++ w) :: jn (d + 1) ws := by
  unfold jn
  rw [List.length_cons, List.range_succ_eq_map, List.map_cons, List.map_map]
  congr 1
  refine List.map_congr_left fun k _ => ?_
  show [signC ((d + (k + 1) : Nat) : Int)] ++ [61] ++ ws.getD k [] = _
  rw [show d + (k + 1) = d + 1 + k by omega]
theorem joinL_jn (p : List Nat) (d : Nat) (v : List Nat) (ws : List (List Nat)) : TL.joinL [32] (p :: jn d (v :: ws)) = p ++ ([32] ++ TL.joinL [32] (jn d (v :: ws))) := by
  rw [jn_cons]
  rfl
theorem segs_jn : ∀ (ws : List (List Nat)) (w : List Nat) (d : Nat), 1 ≤ d → segs (d + 1) (w :: ws) = [32] ++ TL.joinL [32] (jn (d + 1) (w :: ws))
  | [], w, d, hd => by
    rw [jn_cons]
    show dHead (d + 1) ++ (w ++ []) = [32] ++ ([signC ((d + 1 : Nat) : Int)] ++ [61] ++ w)
    unfold dHead
    rw [if_pos (by omega)]
    simp
  | v :: ws, w, d, hd => by
    have ih := segs_jn ws v (d + 1) (by omega)
    rw [segs, ih, jn_cons (d + 1) w, joinL_jn]
    unfold dHead
    rw [if_pos (by omega)]
    simp
theorem segs_jn1 (ws : List (List Nat)) (w : List Nat) : segs 1 (w :: ws) = TL.joinL [32] (jn 1 (w :: ws)) := by
  cases ws with
  | nil =>
    rw [jn_cons]
    show dHead 1 ++ (w ++ []) = [signC ((1 : Nat) : Int)] ++ [61] ++ w
    rw [List.append_nil]
    rfl
  | cons v ws =>
    have h := segs_jn ws v 1 (Nat.le_refl _)
    rw [segs, h, jn_cons 1 w, joinL_jn]
    show ([] ++ [signC ((1 : Nat) : Int)] ++ [61]) ++ _ = _
    simp
theorem imgs_segs (xss : List (List Int)) : imgsText xss = segs 1 (xss.map textC) := by
  have e : imgsText xss = TL.joinL [32] (jn 1 (xss.map textC)) := by
    unfold imgsText jn
    rw [List.length_map]
    congr 1
    refine List.map_congr_left fun k hk => ?_
    have hk := List.mem_range.mp hk
    unfold imgText
    rw [List.getD_eq_getElem?_getD, List.getD_eq_getElem?_getD, List.getElem?_map, List.getElem?_eq_getElem hk]
    show _ = [signC ((1 + k : Nat) : Int)] ++ [61] ++ textC xss[k]
    rw [show ((1 + k : Nat) : Int) = (k : Int) + 1 by omega]
    rfl
  rw [e]
  cases xss with
  | nil => rfl
  | cons x r => rw [List.map_cons, segs_jn1]
theorem letter_sign {n : Nat} (hn : n ≤ 4) {x : Int} (h : 0 - (n : Int) ≤ x ∧ x ≤ n ∧ x ≠ 0) : letterC n (signC x) = x := by
  unfold letterC signC
  by_cases hx : 0 < x
  · rw [if_pos hx, if_pos (by omega)]
    omega
  · rw [if_neg hx, if_neg (by omega), if_pos (by omega)]
    omega
theorem text_whole {n : Nat} (hn : n ≤ 4) {xs : List Int} (h : Lets n xs) : Whole n (textC xs) := by
  unfold textC
  split
  · exact .inl rfl
  · rename_i hne
    refine .inr ⟨by simpa using hne, fun c hc => ?_⟩
    obtain ⟨x, hx, rfl⟩ := List.mem_map.mp hc
    rw [letter_sign hn (h x hx)]
    exact (h x hx).2.2
theorem text_letters {n : Nat} (hn : n ≤ 4) : ∀ {xs : List Int}, Lets n xs → (xs.map signC).map (letterC n) = xs
  | [], _ => rfl
  | x :: r, h => by
    rw [List.map_cons, List.map_cons, letter_sign hn (h x (by simp)), text_letters hn fun y hy => h y (List.mem_cons_of_mem _ hy)]
theorem rd_text {n : Nat} (hn : n ≤ 4) {xs : List Int} (h : Lets n xs) : rd n (textC xs) = plain xs := by
  unfold textC
  split
  · rename_i e
    rw [e]
    rfl
  · rename_i hne
    unfold rd
    have n49 : xs.map signC ≠ [49] := fun z => by
      have h1 : (49 : Nat) ∈ xs.map signC := by rw [z]; simp
      obtain ⟨x, hx, e⟩ := List.mem_map.mp h1
      have := letter_sign hn (h x hx)
      rw [e, letterC_49 n hn] at this
      exact (h x hx).2.2 this.symm
    rw [if_neg n49, text_letters hn h]
/-- a written text of images is read back -/
theorem read_written {n : Nat} (hn : n ≤ 4) {xss : List (List Int)} (hl : xss.length = n) (h : ∀ xs ∈ xss, Lets n xs) : readImages n (imgsText xss) = .ok (xss.map plain) := by
  rw [imgs_segs, readImages_of hn (by rw [List.length_map]; exact hl) fun w hw => ?_, List.map_map]
  · congr 1
    exact List.map_congr_left fun xs hx => rd_text hn (h xs hx)
  · obtain ⟨xs, hx, rfl⟩ := List.mem_map.mp hw
    exact text_whole hn (h xs hx)
/-- a written row is read back -/
theorem row_written {n : Nat} (hn : n ≤ 4) {xs : List Int} (h : Lets n xs) (hl : xs.length ≤ 200) : readRow n (textC xs) = .ok xs := by
  have := whole_read hn (text_whole hn h) (by unfold textC; split <;> simp; omega)
  rw [this]
  unfold textC
  split
  · rename_i e
    rw [if_pos rfl, e]
  · rename_i hne
    have n49 : xs.map signC ≠ [49] := fun z => by
      have h1 : (49 : Nat) ∈ xs.map signC := by rw [z]; simp
      obtain ⟨x, hx, e⟩ := List.mem_map.mp h1
      have := letter_sign hn (h x hx)
      rw [e, letterC_49 n hn] at this
      exact (h x hx).2.2 this.symm
    rw [if_neg n49, text_letters hn h]
end My
namespace My
/-! ### plain: how long drawn renamings are -/
def cA (m : Nat) (xs : List Int) : Nat := xs.countP fun y => decide (y.natAbs = m)
theorem cA_app (m : Nat) (a b : List Int) : cA m (a ++ b) = cA m a + cA m b := List.countP_append
theorem cA_cons (m : Nat) (x : Int) (r : List Int) : cA m (x :: r) = cA m r + if x.natAbs = m then 1 else 0 := by
  unfold cA
  rw [List.countP_cons]
  by_cases h : x.natAbs = m
  · rw [if_pos h, if_pos (by simpa using h)]
  · rw [if_neg h, if_neg (by simpa using h)]
theorem cA_nil (m : Nat) : cA m [] = 0 := rfl
theorem plain_sub (xs : List Int) : (plain xs).Sublist xs := by
  have key : ∀ (r acc : List Int), (r.foldl plainStep acc).Sublist (acc ++ r) := by
    intro r
    induction r with
    | nil => intro acc; simp
    | cons x r ih =>
      intro acc
      refine (ih (plainStep acc x)).trans ?_
      have h : (plainStep acc x).Sublist (acc ++ [x]) := by
        unfold plainStep
        split
        · split
          · exact (List.dropLast_sublist acc).trans (List.sublist_append_left acc [x])
          · exact List.Sublist.refl _
        · exact List.Sublist.refl _
      have := h.append (List.Sublist.refl r)
      rwa [List.append_assoc] at this
  exact key xs []
theorem cA_sub {m : Nat} {a b : List Int} (h : a.Sublist b) : cA m a ≤ cA m b := h.countP_le
theorem cA_undone (m : Nat) (xs : List Int) : cA m (undone xs) = cA m xs := by
  unfold cA undone
  rw [List.countP_map, List.countP_reverse]
  refine List.countP_congr fun x _ => ?_
  simp
theorem cA_img {φ : List (List Int)} (m : Nat) {y : Int} (hy : y ≠ 0) : cA m (img φ y) = cA m (φ.getD (y.natAbs - 1) []) := by
  unfold img
  split
  · rw [show (y - 1).toNat = y.natAbs - 1 by omega]
  · rw [cA_undone, show (0 - y - 1).toNat = y.natAbs - 1 by omega]
theorem len_img {φ : List (List Int)} {y : Int} (hy : y ≠ 0) : (img φ y).length = (φ.getD (y.natAbs - 1) []).length := by
  unfold img
  split
  · rw [show (y - 1).toNat = y.natAbs - 1 by omega]
  · rw [undone_length, show (0 - y - 1).toNat = y.natAbs - 1 by omega]
theorem basis_getD {n k : Nat} (h : k < n) : (basis n).getD k [] = [1 + (k : Int)] := by
  rw [List.getD_eq_getElem?_getD, basis_get h]
  rfl
theorem getD_set {α : Type} (xs : List α) (i : Nat) (v d : α) (k : Nat) (h : i < xs.length) : (xs.set i v).getD k d = if k = i then v else xs.getD k d := by
  by_cases e : k = i
  · subst e
    rw [if_pos rfl, List.getD_eq_getElem?_getD, List.getElem?_set_self h]
    rfl
  · rw [if_neg e, List.getD_eq_getElem?_getD, List.getElem?_set_ne (by omega), ← List.getD_eq_getElem?_getD]
theorem cA_one (m : Nat) (x : Int) : cA m [x] = if x.natAbs = m then 1 else 0 := by
  rw [cA_cons, cA_nil, Nat.zero_add]
/-- bounds of a word's letters: of one, two, three kinds, of all -/
structure Bd (b : Nat × Nat × Nat × Nat) (xs : List Int) : Prop where
  one : ∀ a, cA a xs ≤ b.1
  two : ∀ a c, a ≠ c → cA a xs + cA c xs ≤ b.2.1
  three : ∀ a c d, a ≠ c → a ≠ d → c ≠ d → cA a xs + cA c xs + cA d xs ≤ b.2.2.1
  all : xs.length ≤ b.2.2.2
theorem Bd.sub {b : Nat × Nat × Nat × Nat} {xs ys : List Int} (h : Bd b ys) (e : xs.Sublist ys) : Bd b xs where
  one := fun a => Nat.le_trans (cA_sub e) (h.one a)
  two := fun a c n => Nat.le_trans (Nat.add_le_add (cA_sub e) (cA_sub e)) (h.two a c n)
  three := fun a c d n1 n2 n3 => Nat.le_trans (Nat.add_le_add (Nat.add_le_add (cA_sub e) (cA_sub e)) (cA_sub e)) (h.three a c d n1 n2 n3)
  all := Nat.le_trans e.length_le h.all
def nxt (b : Nat × Nat × Nat × Nat) : Nat × Nat × Nat × Nat := (b.2.1, max (b.2.1 + b.1) b.2.2.1, max (b.2.2.1 + b.1) b.2.2.2, b.2.2.2 + b.1)
theorem cA_four {a b c d : Nat} (n1 : a ≠ b) (n2 : a ≠ c) (n3 : a ≠ d) (n4 : b ≠ c) (n5 : b ≠ d) (n6 : c ≠ d) : ∀ xs : List Int, cA a xs + cA b xs + cA c xs + cA d xs ≤ xs.length
  | [] => by simp [cA_nil]
  | x :: r => by
    have := cA_four n1 n2 n3 n4 n5 n6 r
    rw [cA_cons, cA_cons, cA_cons, cA_cons, List.length_cons]
    split <;> split <;> split <;> split <;> omega
/-- the counts stay, or change places -/
theorem Bd.perm {b : Nat × Nat × Nat × Nat} {xs ys : List Int} (h : Bd b xs) (σ : Nat → Nat) (hσ : ∀ a c, a ≠ c → σ a ≠ σ c) (hc : ∀ m, cA m ys = cA (σ m) xs) (hl : ys.length = xs.length) : Bd (nxt b) ys where
  one := fun a => by
    have h1 := h.two (σ a) (σ (a + 1)) (hσ _ _ (by omega))
    rw [hc]
    show _ ≤ b.2.1
    omega
  two := fun a c n => by
    have h1 := h.two (σ a) (σ c) (hσ _ _ n)
    rw [hc, hc]
    show _ ≤ max (b.2.1 + b.1) b.2.2.1
    omega
  three := fun a c d n1 n2 n3 => by
    have h1 := h.three (σ a) (σ c) (σ d) (hσ _ _ n1) (hσ _ _ n2) (hσ _ _ n3)
    rw [hc, hc, hc]
    show _ ≤ max (b.2.2.1 + b.1) b.2.2.2
    omega
  all := by
    have h1 := h.all
    rw [hl]
    show _ ≤ b.2.2.2 + b.1
    omega
theorem Bd.mul {b : Nat × Nat × Nat × Nat} {xs ys : List Int} {i j : Nat} (h : Bd b xs) (hij : i ≠ j) (hc : ∀ m, cA m ys = cA m xs + if m = j then cA i xs else 0) (hl : ys.length = xs.length + cA i xs) : Bd (nxt b) ys where
  one := fun a => by
    rw [hc]
    show _ ≤ b.2.1
    split
    · rename_i e
      subst e
      exact h.two a i (Ne.symm hij)
    · have := h.two a (a + 1) (by omega)
      omega
  two := fun a c n => by
    rw [hc, hc]
    show _ ≤ max (b.2.1 + b.1) b.2.2.1
    have h0 := h.two a c n
    have h1 := h.one i
    split
    · rename_i e
      rw [if_neg (by omega)]
      by_cases e2 : c = i
      · omega
      · have := h.three a i c (by omega) n (by omega)
        omega
    · split
      · rename_i e
        by_cases e2 : a = i
        · omega
        · have := h.three a c i n (by omega) (by omega)
          omega
      · omega
  three := fun a c d n1 n2 n3 => by
    rw [hc, hc, hc]
    show _ ≤ max (b.2.2.1 + b.1) b.2.2.2
    have h0 := h.three a c d n1 n2 n3
    have h1 := h.one i
    have h2 := h.all
    by_cases e : a = i ∨ c = i ∨ d = i
    · split <;> split <;> split <;> omega
    · have := cA_four n1 n2 (show a ≠ i by omega) n3 (show c ≠ i by omega) (show d ≠ i by omega) xs
      split <;> split <;> split <;> omega
  all := by
    have h1 := h.all
    have h2 := h.one i
    rw [hl]
    show _ ≤ b.2.2.2 + b.1
    omega
theorem flat_counts {φ : List (List Int)} {f : Nat → Nat → Nat} {g : Nat → Nat} {n : Nat} (hf : ∀ m k, k < n → cA m (φ.getD k []) = f m (k + 1)) (hg : ∀ k, k < n → (φ.getD k []).length = g (k + 1)) : ∀ {xs : List Int}, Lets n xs →
    (∀ m, cA m (xs.flatMap (img φ)) = (xs.map fun y => f m y.natAbs).sum) ∧ (xs.flatMap (img φ)).length = (xs.map fun y => g y.natAbs).sum
  | [], _ => ⟨fun m => rfl, rfl⟩
  | y :: r, h => by
    have hy := h y (by simp)
    obtain ⟨h1, h2⟩ := flat_counts hf hg (xs := r) fun z hz => h z (List.mem_cons_of_mem _ hz)
    refine ⟨fun m => ?_, ?_⟩
    · rw [List.flatMap_cons, cA_app, h1, cA_img m hy.2.2, hf m _ (by omega), List.map_cons, List.sum_cons, show y.natAbs - 1 + 1 = y.natAbs by omega]
    · rw [List.flatMap_cons, List.length_append, h2, len_img hy.2.2, hg _ (by omega), List.map_cons, List.sum_cons, show y.natAbs - 1 + 1 = y.natAbs by omega]
theorem sum_ind (m : Nat) : ∀ xs : List Int, (xs.map fun y => if y.natAbs = m then 1 else 0).sum = cA m xs
  | [] => rfl
  | x :: r => by
    rw [List.map_cons, List.sum_cons, sum_ind m r, cA_cons, Nat.add_comm]
theorem sum_add (f g : Int → Nat) : ∀ xs : List Int, (xs.map fun y => f y + g y).sum = (xs.map f).sum + (xs.map g).sum
  | [] => rfl
  | x :: r => by
    rw [List.map_cons, List.sum_cons, sum_add f g r, List.map_cons, List.sum_cons, List.map_cons, List.sum_cons]
    omega
theorem sum_ones : ∀ xs : List Int, (xs.map fun _ => 1).sum = xs.length
  | [] => rfl
  | x :: r => by
    rw [List.map_cons, List.sum_cons, sum_ones r, List.length_cons]
    omega
theorem Bd.elem {n : Nat} {φ : List (List Int)} (hφ : Elem n φ) {b : Nat × Nat × Nat × Nat} {xs : List Int} (hx : Lets n xs) (h : Bd b xs) : Bd (nxt b) (xs.flatMap (img φ)) := by
  cases hφ with
  | inv i hi =>
    obtain ⟨h1, h2⟩ := flat_counts (φ := (basis n).set i [0 - (i : Int) - 1]) (f := fun m k => if k = m then 1 else 0) (g := fun _ => 1) (n := n) (fun m k hk => by
      rw [getD_set _ _ _ _ _ (by rw [basis_len]; exact hi)]
      split
      · rename_i e
        rw [cA_one]
        subst e
        rw [show (0 - (k : Int) - 1).natAbs = k + 1 by omega]
      · rw [basis_getD hk, cA_one, show (1 + (k : Int)).natAbs = k + 1 by omega]) (fun k hk => by
      rw [getD_set _ _ _ _ _ (by rw [basis_len]; exact hi)]
      split
      · rfl
      · rw [basis_getD hk]; rfl) hx
    exact h.perm id (fun a c e => e) (fun m => by rw [h1]; exact sum_ind m xs) (by rw [h2]; exact sum_ones xs)
  | swap i j hi hj hij =>
    let σ : Nat → Nat := fun m => if m = i + 1 then j + 1 else if m = j + 1 then i + 1 else m
    have key : ∀ m k : Nat, (if k = i + 1 then (if j + 1 = m then 1 else 0) else if k = j + 1 then (if i + 1 = m then 1 else 0) else if k = m then 1 else 0) = if k = σ m then (1 : Nat) else 0 := fun m k => by
      show _ = if k = (if m = i + 1 then j + 1 else if m = j + 1 then i + 1 else m) then (1 : Nat) else 0
      repeat' split
      all_goals omega
    obtain ⟨h1, h2⟩ := flat_counts (φ := ((basis n).set i [(j : Int) + 1]).set j [(i : Int) + 1]) (f := fun m k => if k = σ m then 1 else 0) (g := fun _ => 1) (n := n) (fun m k hk => by
      rw [← key, getD_set _ _ _ _ _ (by rw [List.length_set, basis_len]; exact hj), getD_set _ _ _ _ _ (by rw [basis_len]; exact hi)]
      by_cases e : k = j
      · rw [if_pos e, if_neg (show ¬ k + 1 = i + 1 by omega), if_pos (show k + 1 = j + 1 by omega), cA_one, show ((i : Int) + 1).natAbs = i + 1 by omega]
      · rw [if_neg e]
        by_cases e' : k = i
        · rw [if_pos e', if_pos (show k + 1 = i + 1 by omega), cA_one, show ((j : Int) + 1).natAbs = j + 1 by omega]
        · rw [if_neg e', if_neg (show ¬ k + 1 = i + 1 by omega), if_neg (show ¬ k + 1 = j + 1 by omega), basis_getD hk, cA_one, show (1 + (k : Int)).natAbs = k + 1 by omega]) (fun k hk => by
      rw [getD_set _ _ _ _ _ (by rw [List.length_set, basis_len]; exact hj), getD_set _ _ _ _ _ (by rw [basis_len]; exact hi)]
      split
      · rfl
      · split
        · rfl
        · rw [basis_getD hk]; rfl) hx
    refine h.perm σ (fun a c e => ?_) (fun m => by rw [h1]; exact sum_ind _ xs) (by rw [h2]; exact sum_ones xs)
    show (if a = i + 1 then j + 1 else if a = j + 1 then i + 1 else a) ≠ (if c = i + 1 then j + 1 else if c = j + 1 then i + 1 else c)
    repeat' split
    all_goals omega
  | mul i j s hi hj hij hs =>
    obtain ⟨h1, h2⟩ := flat_counts (φ := (basis n).set i [(i : Int) + 1, s * ((j : Int) + 1)]) (f := fun m k => (if k = m then 1 else 0) + if k = i + 1 then (if m = j + 1 then 1 else 0) else 0) (g := fun k => 1 + if k = i + 1 then 1 else 0) (n := n) (fun m k hk => by
      have es : (s * ((j : Int) + 1)).natAbs = j + 1 := by rcases hs with rfl | rfl <;> omega
      rw [getD_set _ _ _ _ _ (by rw [basis_len]; exact hi)]
      split
      · rename_i e
        subst e
        rw [cA_cons, cA_one, es, show ((k : Int) + 1).natAbs = k + 1 by omega, if_pos rfl]
        repeat' split
        all_goals omega
      · rename_i e
        rw [basis_getD hk, cA_one, show (1 + (k : Int)).natAbs = k + 1 by omega]
        rw [if_neg (show ¬ k + 1 = i + 1 by omega)]
        rfl) (fun k hk => by
      rw [getD_set _ _ _ _ _ (by rw [basis_len]; exact hi)]
      split
      · rename_i e
        rw [if_pos (by omega)]
        rfl
      · rename_i e
        rw [if_neg (by omega), basis_getD hk]
        rfl) hx
    refine h.mul (i := i + 1) (j := j + 1) (by omega) (fun m => ?_) ?_
    · rw [h1, sum_add (fun y => if y.natAbs = m then 1 else 0) (fun y => if y.natAbs = i + 1 then (if m = j + 1 then 1 else 0) else 0), sum_ind]
      congr 1
      split
      · rename_i e
        have := sum_ind (i + 1) xs
        rw [← this]
      · have : ∀ xs : List Int, (xs.map fun y => if y.natAbs = i + 1 then 0 else 0).sum = 0 := fun xs => by
          induction xs with
          | nil => rfl
          | cons x r ih =>
            rw [List.map_cons, List.sum_cons, ih]
            split <;> rfl
        exact this xs
    · rw [h2, sum_add (fun _ => 1) (fun y => if y.natAbs = i + 1 then 1 else 0), sum_ones, sum_ind]
end My
namespace My
def itn : Nat → Nat × Nat × Nat × Nat → Nat × Nat × Nat × Nat
  | 0, b => b
  | k + 1, b => nxt (itn k b)
def bd0 (z : Nat) : Nat × Nat × Nat × Nat := (1, min z 2, min z 3, z)
theorem cA_distinct (a : Nat) : ∀ {S : List Nat}, S.Nodup → cA a (S.map fun (i : Nat) => 1 + (i : Int)) ≤ 1
  | [], _ => Nat.zero_le _
  | i :: S, h => by
    obtain ⟨h1, h2⟩ := List.nodup_cons.mp h
    rw [List.map_cons, cA_cons]
    split
    · rename_i e
      have : cA a (S.map fun (i : Nat) => 1 + (i : Int)) = 0 := by
        unfold cA
        rw [List.countP_eq_zero]
        intro y hy
        obtain ⟨j, hj, rfl⟩ := List.mem_map.mp hy
        have : j ≠ i := fun z => h1 (by rw [← z]; exact hj)
        simp
        omega
      omega
    · have := cA_distinct a h2
      omega
theorem flat_dis (n : Nat) : ∀ {S : List Nat}, (∀ i ∈ S, i < n) → (S.flatMap fun i => (basis n).getD i []) = S.map fun (i : Nat) => 1 + (i : Int)
  | [], _ => rfl
  | i :: S, h => by
    rw [List.flatMap_cons, List.map_cons, flat_dis n fun j hj => h j (List.mem_cons_of_mem _ hj), basis_getD (h i (by simp))]
    rfl
theorem flat_sub {f g : Nat → List Int} (h : ∀ i, (f i).Sublist (g i)) : ∀ S : List Nat, (S.flatMap f).Sublist (S.flatMap g)
  | [] => List.Sublist.refl _
  | i :: S => by
    rw [List.flatMap_cons, List.flatMap_cons]
    exact (h i).append (flat_sub h S)
theorem Drawn.bd {n k : Nat} {xss : List (List Int)} (h : Drawn n k xss) {S : List Nat} (nd : S.Nodup) (hS : ∀ i ∈ S, i < n) : Bd (itn k (bd0 S.length)) (S.flatMap fun i => xss.getD i []) := by
  induction h with
  | zero =>
    rw [flat_dis n hS]
    have l : (S.map fun (i : Nat) => 1 + (i : Int)).length = S.length := List.length_map _
    have h4 : ∀ {a b c d : Nat}, a ≠ b → a ≠ c → a ≠ d → b ≠ c → b ≠ d → c ≠ d → _ := fun {a b c d} n1 n2 n3 n4 n5 n6 => cA_four (a := a) (b := b) (c := c) (d := d) n1 n2 n3 n4 n5 n6 (S.map fun (i : Nat) => 1 + (i : Int))
    refine ⟨fun a => cA_distinct a nd, fun a c hac => ?_, fun a c d n1 n2 n3 => ?_, Nat.le_of_eq l⟩
    · have h1 := cA_distinct a nd
      have h2 := cA_distinct c nd
      have h3 := h4 (a := a) (b := c) (c := a + c + 1) (d := a + c + 2) hac (by omega) (by omega) (by omega) (by omega) (by omega)
      rw [l] at h3
      show _ ≤ min S.length 2
      omega
    · have h1 := cA_distinct a nd
      have h2 := cA_distinct c nd
      have h2' := cA_distinct d nd
      have h3 := h4 (a := a) (b := c) (c := d) (d := a + c + d + 2) n1 n2 (by omega) n3 (by omega) (by omega)
      rw [l] at h3
      show _ ≤ min S.length 3
      omega
  | @step k φ xss e d ih =>
    refine Bd.sub (ih.elem e fun x hx => ?_) ?_
    · obtain ⟨i, _, hi⟩ := List.mem_flatMap.mp hx
      exact getD_row (C := Lets n) (fun x hx => by cases hx) (fun xs hx => (d.ok xs hx).1) i x hi
    · rw [List.flatMap_assoc]
      refine flat_sub (fun i => ?_) S
      rw [List.getD_eq_getElem?_getD, List.getElem?_map, List.getD_eq_getElem?_getD]
      cases xss[i]? with
      | none => exact List.Sublist.refl _
      | some ys => exact plain_sub _
theorem itn_all : ∀ k, k ≤ 4 → ∀ z, z ≤ 4 → (itn k (bd0 z)).2.2.2 ≤ 11 + z ∧ (z ≤ 1 → (itn k (bd0 z)).2.2.2 ≤ 8) := by decide
theorem Drawn.row8 {n k : Nat} {xss : List (List Int)} (h : Drawn n k xss) (hk : k ≤ 4) (i : Nat) (hi : i < n) : (xss.getD i []).length ≤ 8 := by
  have h1 := (h.bd (S := [i]) (by simp) (by simpa using hi)).all
  have h2 := (itn_all k hk 1 (by omega)).2 (by omega)
  have : ([i].flatMap fun i => xss.getD i []) = xss.getD i [] := by simp
  rw [this] at h1
  exact Nat.le_trans h1 h2
theorem Drawn.pair13 {n k : Nat} {xss : List (List Int)} (h : Drawn n k xss) (hk : k ≤ 4) (i j : Nat) (hi : i < n) (hj : j < n) (hij : i ≠ j) : (xss.getD i []).length + (xss.getD j []).length ≤ 13 := by
  have h1 := (h.bd (S := [i, j]) (by simpa using hij) (by simp; omega)).all
  have h2 := (itn_all k hk 2 (by omega)).1
  have : ([i, j].flatMap fun i => xss.getD i []) = xss.getD i [] ++ xss.getD j [] := by simp
  rw [this, List.length_append] at h1
  exact Nat.le_trans h1 h2
theorem text_len (xs : List Int) : (textC xs).length = if xs = [] then 1 else xs.length := by
  unfold textC
  split <;> simp
theorem text_sum (f : Nat → List Int) : ∀ l : List Nat, (l.map fun i => (textC (f i)).length).sum + (l.filter fun i => !(f i).isEmpty).length = ((l.filter fun i => !(f i).isEmpty).flatMap f).length + l.length
  | [] => rfl
  | i :: l => by
    have := text_sum f l
    rw [List.map_cons, List.sum_cons, List.filter_cons, text_len]
    cases e : f i with
    | nil =>
      rw [if_pos rfl, if_neg (by simp), List.length_cons]
      omega
    | cons x r =>
      rw [if_neg (by simp), if_pos (by simp), List.flatMap_cons, e, List.length_append, List.length_cons, List.length_cons, List.length_cons]
      omega
theorem Drawn.total {n k : Nat} {xss : List (List Int)} (h : Drawn n k xss) (hn : n ≤ 4) (hk : k ≤ 4) : ((xss.map textC).map List.length).sum ≤ 11 + n := by
  have e : (xss.map textC).map List.length = (List.range n).map fun i => (textC (xss.getD i [])).length := by
    rw [List.map_map, ← h.len]
    exact (map_range_getD xss [] fun xs => (textC xs).length).symm
  have h1 := text_sum (fun i => xss.getD i []) (List.range n)
  have h2 := (h.bd (S := (List.range n).filter fun i => !(xss.getD i []).isEmpty) (List.Pairwise.filter _ List.nodup_range) (fun i hi => List.mem_range.mp (List.mem_filter.mp hi).1)).all
  have h3 := List.length_filter_le (fun i => !(xss.getD i []).isEmpty) (List.range n)
  rw [List.length_range] at h3 h1
  have h4 := (itn_all k hk ((List.range n).filter fun i => !(xss.getD i []).isEmpty).length (by omega)).1
  rw [e]
  omega
end My
namespace My
/-! ### plain: what texts near to a text of images are read as -/
def tot (ws : List (List Nat)) : Nat := (ws.map List.length).sum
theorem tot_cons (w : List Nat) (ws : List (List Nat)) : tot (w :: ws) = w.length + tot ws := rfl
theorem segs_tot : ∀ {ws us : List (List Nat)} {d : Nat}, ws.length = us.length → (segs d ws).length + tot us = (segs d us).length + tot ws
  | [], [], _, _ => rfl
  | [], _ :: _, _, h => by simp at h
  | _ :: _, [], _, h => by simp at h
  | w :: ws, u :: us, d, h => by
    have := segs_tot (ws := ws) (us := us) (d := d + 1) (by simpa using h)
    rw [segs, segs, tot_cons, tot_cons]
    simp only [List.length_append]
    omega
theorem no32 (n : Nat) : letterC n 32 = 0 := by
  unfold letterC
  rw [if_neg (by omega), if_neg (by omega)]
theorem no61 (n : Nat) : letterC n 61 = 0 := by
  unfold letterC
  rw [if_neg (by omega), if_neg (by omega)]
theorem whole_no {n : Nat} {w : List Nat} (h : Whole n w) : (32 : Nat) ∉ w ∧ (61 : Nat) ∉ w := by
  rcases h with rfl | ⟨_, h⟩
  · decide
  · exact ⟨fun z => h 32 z (no32 n), fun z => h 61 z (no61 n)⟩
theorem whole_ne {n : Nat} {w : List Nat} (h : Whole n w) : 1 ≤ w.length := by
  rcases h with rfl | ⟨h, _⟩
  · decide
  · exact List.length_pos_iff.mpr h
theorem head_count (d : Nat) (hd : 1 ≤ d) (h4 : d ≤ 4) : (dHead d).count 61 = 1 ∧ (dHead d).count 32 = if 1 < d then 1 else 0 := by
  match d, hd, h4 with
  | 1, _, _ => decide
  | 2, _, _ => decide
  | 3, _, _ => decide
  | 4, _, _ => decide
theorem segs_count {n : Nat} : ∀ {ws : List (List Nat)} {d : Nat}, 1 ≤ d → d + ws.length ≤ 5 → (∀ w ∈ ws, Whole n w) → (segs d ws).count 61 = ws.length ∧ (segs d ws).count 32 = if 1 < d then ws.length else ws.length - 1
  | [], d, _, _, _ => ⟨rfl, by split <;> rfl⟩
  | w :: ws, d, hd, h5, hw => by
    obtain ⟨h1, h2⟩ := segs_count (ws := ws) (d := d + 1) (by omega) (by simp at h5; omega) fun v hv => hw v (List.mem_cons_of_mem _ hv)
    obtain ⟨h3, h4⟩ := head_count d hd (by simp at h5; omega)
    obtain ⟨h6, h7⟩ := whole_no (hw w (by simp))
    rw [if_pos (by omega)] at h2
    rw [segs, List.count_append, List.count_append, List.count_append, List.count_append, h1, h2, h3, h4, List.count_eq_zero.mpr h6, List.count_eq_zero.mpr h7, List.length_cons]
    refine ⟨by omega, ?_⟩
    split <;> omega
theorem segs_32 {ws : List (List Nat)} {d : Nat} (hd : 1 ≤ d) : segs (d + 1) ws = [] ∨ ∃ r, segs (d + 1) ws = 32 :: r := by
  cases ws with
  | nil => exact .inl rfl
  | cons w ws =>
    refine .inr ⟨[signC ((d + 1 : Nat) : Int)] ++ [61] ++ (w ++ segs (d + 1 + 1) ws), ?_⟩
    rw [segs]
    unfold dHead
    rw [if_pos (by omega)]
    rfl
/-- a= stands only in front -/
theorem pat_word {R : List Nat} (hR : R = [] ∨ ∃ r, R = 32 :: r) (hN : ∀ A B, R ≠ A ++ 97 :: 61 :: B) : ∀ {w A B : List Nat}, (61 : Nat) ∉ w → w ++ R ≠ A ++ 97 :: 61 :: B
  | [], A, B, _ => hN A B
  | c :: w, A, B, hw => fun e => by
    cases A with
    | nil =>
      have e2 : w ++ R = 61 :: B := (List.cons.inj e).2
      cases w with
      | nil =>
        rcases hR with rfl | ⟨r, rfl⟩
        · cases e2
        · have : (32 : Nat) = 61 := (List.cons.inj e2).1
          omega
      | cons x w =>
        have : x = 61 := (List.cons.inj e2).1
        exact hw (by rw [this]; simp)
    | cons a A => exact pat_word hR hN (fun z => hw (List.mem_cons_of_mem _ z)) (List.cons.inj e).2
theorem pat_none {n : Nat} : ∀ {ws : List (List Nat)} {d : Nat}, 1 ≤ d → d + ws.length ≤ 4 → (∀ w ∈ ws, Whole n w) → ∀ A B, segs (d + 1) ws ≠ A ++ 97 :: 61 :: B
  | [], d, _, _, _, A, B => by
    rw [segs]
    cases A <;> simp
  | w :: ws, d, hd, h4, hw, A, B => fun e => by
    have ih := pat_none (ws := ws) (d := d + 1) (by omega) (by simp at h4; omega) fun v hv => hw v (List.mem_cons_of_mem _ hv)
    have hs : signC ((d + 1 : Nat) : Int) = 97 + d := by
      unfold signC
      rw [if_pos (by omega)]
      omega
    rw [segs] at e
    unfold dHead at e
    rw [if_pos (by omega), hs] at e
    have e : 32 :: (97 + d) :: 61 :: (w ++ segs (d + 1 + 1) ws) = A ++ 97 :: 61 :: B := e
    cases A with
    | nil =>
      have : (32 : Nat) = 97 := (List.cons.inj e).1
      omega
    | cons a A =>
      have e := (List.cons.inj e).2
      cases A with
      | nil =>
        have : 97 + d = 97 := (List.cons.inj e).1
        omega
      | cons a A =>
        have e := (List.cons.inj e).2
        cases A with
        | nil =>
          have : (61 : Nat) = 97 := (List.cons.inj e).1
          omega
        | cons a A =>
          have e := (List.cons.inj e).2
          exact pat_word (segs_32 (by omega)) ih (whole_no (hw w (by simp))).2 e
theorem pat_front {n : Nat} {ws : List (List Nat)} (h4 : ws.length ≤ 4) (hw : ∀ w ∈ ws, Whole n w) {A B : List Nat} (e : segs 1 ws = A ++ 97 :: 61 :: B) : A = [] := by
  cases ws with
  | nil =>
    rw [segs] at e
    cases A <;> simp at e
  | cons w ws =>
    have e : 97 :: 61 :: (w ++ segs (1 + 1) ws) = A ++ 97 :: 61 :: B := e
    cases A with
    | nil => rfl
    | cons a A =>
      have e := (List.cons.inj e).2
      cases A with
      | nil =>
        have : (61 : Nat) = 97 := (List.cons.inj e).1
        omega
      | cons a A =>
        have e := (List.cons.inj e).2
        exact absurd e (pat_word (segs_32 (Nat.le_refl 1)) (pat_none (Nat.le_refl 1) (by simp at h4; omega) fun v hv => hw v (List.mem_cons_of_mem _ hv)) (whole_no (hw w (by simp))).2)
theorem front_of {ws : List (List Nat)} (h : 1 ≤ ws.length) : ∃ r, segs 1 ws = 97 :: 61 :: r := by
  cases ws with
  | nil => simp at h
  | cons w ws => exact ⟨w ++ segs (1 + 1) ws, rfl⟩
theorem split32 : ∀ {w u A B : List Nat}, (32 : Nat) ∉ w → (32 : Nat) ∉ u → w ++ 32 :: A = u ++ 32 :: B → w = u ∧ A = B
  | [], [], A, B, _, _, e => ⟨rfl, (List.cons.inj e).2⟩
  | [], x :: u, A, B, _, h, e => absurd (show (32 : Nat) ∈ x :: u by rw [(List.cons.inj e).1]; simp) h
  | x :: w, [], A, B, h, _, e => absurd (show (32 : Nat) ∈ x :: w by rw [← (List.cons.inj e).1]; simp) h
  | x :: w, y :: u, A, B, h, h', e => by
    obtain ⟨e1, e2⟩ := List.cons.inj e
    obtain ⟨e3, e4⟩ := split32 (fun z => h (List.mem_cons_of_mem _ z)) (fun z => h' (List.mem_cons_of_mem _ z)) e2
    exact ⟨by rw [e1, e3], e4⟩
/-- what stands behind the last piece is of the last piece -/
theorem segs_tail : ∀ {ws us : List (List Nat)} {d : Nat} {z : List Nat}, 1 ≤ d → ws.length = us.length → 1 ≤ us.length → (∀ w ∈ ws, (32 : Nat) ∉ w) → (∀ w ∈ us, (32 : Nat) ∉ w) → segs d ws = segs d us ++ z → ∃ a b, us = a ++ [b] ∧ ws = a ++ [b ++ z]
  | [], _, _, _, _, h, h', _, _, _ => by simp at h; simp [← h] at h'
  | _ :: _, [], _, _, _, _, h', _, _, _ => by simp at h'
  | [w], [u], d, z, hd, _, _, _, _, e => by
    rw [segs, segs, segs, segs, List.append_nil, List.append_nil, List.append_assoc] at e
    exact ⟨[], u, rfl, by rw [List.append_cancel_left e]; rfl⟩
  | [_], _ :: _ :: _, _, _, _, h, _, _, _, _ => by simp at h
  | _ :: _ :: _, [_], _, _, _, h, _, _, _, _ => by simp at h
  | w :: w' :: ws, u :: u' :: us, d, z, hd, h, _, hw, hu, e => by
    have e : dHead d ++ (w ++ segs (d + 1) (w' :: ws)) = (dHead d ++ (u ++ segs (d + 1) (u' :: us))) ++ z := e
    rw [List.append_assoc, List.append_assoc] at e
    have e := List.append_cancel_left e
    have k1 : ∃ r, segs (d + 1) (w' :: ws) = 32 :: r := (segs_32 hd).resolve_left fun z => by rw [segs] at z; unfold dHead at z; simp at z
    have k2 : ∃ r, segs (d + 1) (u' :: us) = 32 :: r := (segs_32 hd).resolve_left fun z => by rw [segs] at z; unfold dHead at z; simp at z
    obtain ⟨r1, e1⟩ := k1
    obtain ⟨r2, e2⟩ := k2
    rw [e1, e2, List.cons_append] at e
    obtain ⟨e3, e4⟩ := split32 (hw w (by simp)) (hu u (by simp)) e
    have e5 : segs (d + 1) (w' :: ws) = segs (d + 1) (u' :: us) ++ z := by rw [e1, e2, e4]; rfl
    obtain ⟨a, b, f1, f2⟩ := segs_tail (by omega) (by simpa using h) (by simp) (fun v hv => hw v (List.mem_cons_of_mem _ hv)) (fun v hv => hu v (List.mem_cons_of_mem _ hv)) e5
    exact ⟨u :: a, b, by rw [f1]; rfl, by rw [f2, e3]; rfl⟩
end My
namespace My
theorem take2 {x r : List Nat} (h : x = 97 :: 61 :: r) {k : Nat} (hk : 2 ≤ k) : x.take k = 97 :: 61 :: r.take (k - 2) := by
  obtain ⟨j, rfl⟩ : ∃ j, k = j + 2 := ⟨k - 2, by omega⟩
  rw [h]
  rfl
/-- a text put once more behind itself is cut short -/
theorem dbl {m x r sg R : List Nat} {k : Nat} (pf : ∀ A B, m = A ++ 97 :: 61 :: B → A = []) (hx : x = 97 :: 61 :: r) (e : m = x ++ sg ++ x.take k ++ R) : k ≤ 1 := by
  rcases Nat.lt_or_ge 1 k with h | h
  · rw [take2 hx h] at e
    have := pf (x ++ sg) (r.take (k - 2) ++ R) (by rw [e]; simp)
    rw [hx] at this
    simp at this
  · exact h
theorem lap_len {l m : List Nat} {k : Nat} {sg : List Nat} (h1 : k ≤ l.length) (h2 : sg.length ≤ 1) (h : m = l.take k ++ sg ++ l.drop k ∨ m = l.take k ++ sg ++ l.drop (k + 1) ∨ m = l.take k) : m.length ≤ l.length + 1 := by
  rcases h with rfl | rfl | rfl
  · simp only [List.length_append, List.length_take, List.length_drop]; omega
  · simp only [List.length_append, List.length_take, List.length_drop]; omega
  · simp only [List.length_take]; omega
theorem dbl_len {x sg : List Nat} {k : Nat} (h2 : sg.length ≤ 1) (hk : k ≤ 1) : (x ++ sg ++ x.take k).length ≤ x.length + 2 := by
  simp only [List.length_append, List.length_take]
  omega
/-- the deep case: the text stood twice, and the second = is gone -/
theorem deep {n : Nat} (h1 : 1 ≤ n) (h4 : n ≤ 4) {us ws : List (List Nat)} (lu : us.length = n) (lw : ws.length = n) (hu : ∀ w ∈ us, Whole n w) (hw : ∀ w ∈ ws, Whole n w) {sg1 sg Z r : List Nat} {q : Nat} (hT : segs 1 us = 97 :: 61 :: r) (hZ : Z = r.take q) (l1 : sg1.length ≤ 1) (l2 : sg.length ≤ 1)
    (e : segs 1 ws = segs 1 us ++ (sg1 ++ [97] ++ sg ++ Z)) : ∃ a b z, us = a ++ [b] ∧ ws = a ++ [b ++ z] ∧ z.length ≤ 3 + (us.getD 0 []).length := by
  have c1 := (segs_count (ws := ws) (d := 1) (Nat.le_refl _) (by omega) hw).2
  have c2 := (segs_count (ws := us) (d := 1) (Nat.le_refl _) (by omega) hu).2
  rw [if_neg (by omega)] at c1 c2
  have c3 := congrArg (List.count 32) e
  rw [List.count_append, c1, c2, lu, lw] at c3
  have n32 : (sg1 ++ [97] ++ sg ++ Z).count 32 = 0 := by omega
  have n32 := List.count_eq_zero.mp n32
  obtain ⟨a, b, e1, e2⟩ := segs_tail (Nat.le_refl 1) (lw.trans lu.symm) (by omega) (fun w h => (whole_no (hw w h)).1) (fun w h => (whole_no (hu w h)).1) e
  refine ⟨a, b, _, e1, e2, ?_⟩
  have nZ : (32 : Nat) ∉ Z := fun z => n32 (List.mem_append_right _ z)
  have lZ : Z.length ≤ (us.getD 0 []).length := by
    cases us with
    | nil => simp at lu; omega
    | cons u us =>
      have hr : u ++ segs (1 + 1) us = r := by
        have hT : 97 :: 61 :: (u ++ segs (1 + 1) us) = 97 :: 61 :: r := hT
        exact (List.cons.inj (List.cons.inj hT).2).2
      show Z.length ≤ u.length
      rw [← hr] at hZ
      rcases segs_32 (ws := us) (Nat.le_refl 1) with h | ⟨s, h⟩
      · rw [h, List.append_nil] at hZ
        rw [hZ, List.length_take]
        omega
      · rcases Nat.lt_or_ge u.length Z.length with h5 | h5
        · exfalso
          apply nZ
          have h6 : u.length < q := by
            rw [hZ, List.length_take] at h5
            omega
          rw [hZ, h]
          have : (u ++ 32 :: s).take q = u ++ (32 :: s).take (q - u.length) := by rw [List.take_append, List.take_of_length_le (by omega)]
          rw [this]
          obtain ⟨j, hj⟩ : ∃ j, q - u.length = j + 1 := ⟨q - u.length - 1, by omega⟩
          rw [hj]
          simp
        · exact h5
  simp only [List.length_append, List.length_cons, List.length_nil]
  omega
theorem near_shape {n : Nat} (h1 : 1 ≤ n) (h4 : n ≤ 4) {us ws : List (List Nat)} (lu : us.length = n) (lw : ws.length = n) (hu : ∀ w ∈ us, Whole n w) (hw : ∀ w ∈ ws, Whole n w) (hN : NearT (segs 1 us) (segs 1 ws)) :
    (segs 1 ws).length ≤ (segs 1 us).length + 4 ∨ ∃ a b z, us = a ++ [b] ∧ ws = a ++ [b ++ z] ∧ z.length ≤ 3 + (us.getD 0 []).length := by
  have pf : ∀ A B, segs 1 ws = A ++ 97 :: 61 :: B → A = [] := fun A B e => pat_front (by omega) hw e
  have cm := (segs_count (ws := ws) (d := 1) (Nat.le_refl _) (by omega) hw).1
  have cT := (segs_count (ws := us) (d := 1) (Nat.le_refl _) (by omega) hu).1
  obtain ⟨rT, hT⟩ := front_of (ws := us) (by omega)
  obtain ⟨rm, hm⟩ := front_of (ws := ws) (by omega)
  generalize em : segs 1 ws = m at *
  obtain ⟨x, ⟨k, sg, k1, k2, hx⟩, hN⟩ := hN
  -- x by itself
  have hx' : x.length ≤ (segs 1 us).length + 1 ∨ x = segs 1 us ++ sg ++ (segs 1 us).take k := by
    rcases hx with h | h | h | h
    · exact .inl (lap_len k1 k2 (.inl h))
    · exact .inl (lap_len k1 k2 (.inr (.inl h)))
    · exact .inl (lap_len k1 k2 (.inr (.inr h)))
    · exact .inr h
  rcases hN with rfl | ⟨j, sg2, j1, j2, hN⟩
  · rcases hx' with h | h
    · exact .inl (by omega)
    · have := dbl (R := []) pf hT (by rw [List.append_nil]; exact h)
      have h2 := dbl_len (x := segs 1 us) k2 this
      rw [← h] at h2
      exact .inl (by omega)
  · have hN' : m.length ≤ x.length + 1 ∧ (m = x.take j ++ sg2 ++ x.drop j ∨ m = x.take j ++ sg2 ++ x.drop (j + 1) ∨ m = x.take j) ∨ m = x ++ sg2 ++ x.take j := by
      rcases hN with h | h | h | h
      · exact .inl ⟨lap_len j1 j2 (.inl h), .inl h⟩
      · exact .inl ⟨lap_len j1 j2 (.inr (.inl h)), .inr (.inl h)⟩
      · exact .inl ⟨lap_len j1 j2 (.inr (.inr h)), .inr (.inr h)⟩
      · exact .inr h
    rcases hN' with ⟨hl, hN⟩ | hN
    · rcases hx' with h | h
      · exact .inl (by omega)
      · by_cases hk : k ≤ 1
        · have h2 := dbl_len (x := segs 1 us) k2 hk
          rw [← h] at h2
          exact .inl (by omega)
        · -- deep
          rw [take2 hT (by omega)] at h
          generalize hP : segs 1 us ++ sg = P at h
          have lP : 2 ≤ P.length := by rw [← hP, hT]; simp
          have ne : ∀ {A B : List Nat}, 1 ≤ A.length → m = A ++ 97 :: 61 :: B → False := fun {A B} hA e => by
            have := pf A B e
            rw [this] at hA
            simp at hA
          have cnt : ∀ {A B : List Nat}, m = P ++ A ++ 61 :: B → False := fun {A B} e => by
            have := congrArg (List.count 61) e
            rw [← hP, List.count_append, List.count_append, List.count_append, List.count_cons_self, cm, cT, lu, lw] at this
            omega
          generalize hZ : rT.take (k - 2) = Z at h
          have tk : ∀ i, i ≤ P.length → x.take i = P.take i := fun i hi => by rw [h, List.take_append_of_le_length hi]
          have dr : ∀ i, i ≤ P.length → x.drop i = P.drop i ++ 97 :: 61 :: Z := fun i hi => by rw [h, List.drop_append_of_le_length hi]
          have tk2 : ∀ i, P.length + 2 ≤ i → x.take i = P ++ 97 :: 61 :: Z.take (i - P.length - 2) := fun i hi => by
            rw [h, List.take_append, List.take_of_length_le (by omega)]
            obtain ⟨q, hq⟩ : ∃ q, i - P.length = q + 2 := ⟨i - P.length - 2, by omega⟩
            rw [show i - P.length - 2 = q by omega, hq]
            rfl
          have tk1 : x.take (P.length + 1) = P ++ [97] := by
            rw [h, List.take_append, List.take_of_length_le (by omega), show P.length + 1 - P.length = 1 by omega]
            rfl
          have dr1 : x.drop (P.length + 1) = 61 :: Z := by
            rw [h, List.drop_append, List.drop_of_length_le (by omega), show P.length + 1 - P.length = 1 by omega]
            rfl
          have dr2 : x.drop (P.length + 2) = Z := by
            rw [h, List.drop_append, List.drop_of_length_le (by omega), show P.length + 2 - P.length = 2 by omega]
            rfl
          rcases hN with e | e | e
          · -- put in
            exfalso
            rcases Nat.lt_or_ge P.length j with hj | hj
            · rcases Nat.lt_or_ge (P.length + 1) j with hj2 | hj2
              · rw [tk2 j (by omega)] at e
                exact ne (A := P) (by omega) (by rw [e]; simp; rfl)
              · obtain rfl : j = P.length + 1 := by omega
                rw [tk1, dr1] at e
                exact cnt (A := [97] ++ sg2) (B := Z) (by rw [e]; simp)
            · rw [tk j hj, dr j hj] at e
              exact ne (A := P.take j ++ sg2 ++ P.drop j) (by simp only [List.length_append, List.length_take, List.length_drop]; omega) (by rw [e]; simp; rfl)
          · -- exchanged
            rcases Nat.lt_or_ge j P.length with hj | hj
            · exfalso
              rw [tk j (by omega), dr (j + 1) (by omega)] at e
              exact ne (A := P.take j ++ sg2 ++ P.drop (j + 1)) (by simp only [List.length_append, List.length_take, List.length_drop]; omega) (by rw [e]; simp; rfl)
            · rcases Nat.lt_or_ge (P.length + 1) j with hj2 | hj2
              · exfalso
                rw [tk2 j (by omega)] at e
                exact ne (A := P) (by omega) (by rw [e]; simp; rfl)
              · by_cases hj3 : j = P.length
                · exfalso
                  subst hj3
                  rw [tk _ (Nat.le_refl _), List.take_of_length_le (Nat.le_refl _), dr1] at e
                  exact cnt (A := sg2) (B := Z) e
                · obtain rfl : j = P.length + 1 := by omega
                  rw [tk1, dr2, ← hP] at e
                  refine .inr (deep h1 h4 lu lw hu hw hT hZ.symm k2 j2 ?_)
                  rw [em, e]
                  simp
          · -- cut
            rcases Nat.lt_or_ge (P.length + 1) j with hj2 | hj2
            · exfalso
              rw [tk2 j (by omega)] at e
              exact ne (A := P) (by omega) e
            · refine .inl ?_
              rw [e, List.length_take]
              have : P.length ≤ (segs 1 us).length + 1 := by rw [← hP, List.length_append]; omega
              omega
    · -- put behind itself at the end
      have hxl : x.length ≤ (segs 1 us).length + 2 := by
        rcases hx' with h | h
        · omega
        · have : k ≤ 1 := dbl (sg := sg) (R := sg2 ++ x.take j) pf hT (by rw [hN]; conv => { lhs; lhs; rw [h] }; simp only [List.append_assoc])
          have h2 := dbl_len (x := segs 1 us) k2 this
          rw [← h] at h2
          exact h2
      refine .inl ?_
      match x, hN, hxl with
      | [], hN, hxl =>
        rw [hN]
        simp
        omega
      | [a], hN, hxl =>
        rw [hN]
        simp only [List.length_append, List.length_take, List.length_cons, List.length_nil] at hxl ⊢
        omega
      | a :: b :: r, hN, hxl =>
        have e : 97 :: 61 :: rm = a :: b :: (r ++ sg2 ++ (a :: b :: r).take j) := by
          rw [← hm, hN]
          simp
        obtain ⟨rfl, e⟩ := List.cons.inj e
        obtain ⟨rfl, e⟩ := List.cons.inj e
        have : j ≤ 1 := dbl (sg := sg2) (R := []) pf (x := 97 :: 61 :: r) rfl (by rw [List.append_nil]; exact hN)
        have h2 := dbl_len (x := 97 :: 61 :: r) j2 this
        rw [← hN] at h2
        omega
end My
namespace My
theorem letterC_in {n c : Nat} (h : letterC n c ≠ 0) : 0 - (n : Int) ≤ letterC n c ∧ letterC n c ≤ n ∧ letterC n c ≠ 0 := by
  refine ⟨?_, ?_, h⟩
  · unfold letterC
    split
    · omega
    · split <;> omega
  · unfold letterC
    split
    · omega
    · split <;> omega
theorem rd_ok {n : Nat} {w : List Nat} (h : Whole n w) : Lets n (rd n w) ∧ adjOk (rd n w) = true ∧ (rd n w).length ≤ w.length := by
  unfold rd
  split
  · exact ⟨(fun x hx => by cases hx), rfl, Nat.zero_le _⟩
  · rename_i hne
    refine ⟨fun x hx => ?_, plain_adj _, ?_⟩
    · obtain ⟨c, hc, rfl⟩ := List.mem_map.mp (plain_mem hx)
      rcases h with h | ⟨_, h⟩
      · exact absurd h hne
      · exact letterC_in (h c hc)
    · have := plain_len (w.map (letterC n))
      rw [List.length_map] at this
      exact this
theorem rd_getD {n : Nat} : ∀ {ws : List (List Nat)} (i : Nat), (∀ w ∈ ws, Whole n w) → ((ws.map (rd n)).getD i []).length ≤ (ws.getD i []).length
  | [], i, _ => by simp
  | w :: ws, 0, h => (rd_ok (h w (by simp))).2.2
  | w :: ws, i + 1, h => rd_getD (ws := ws) i fun v hv => h v (List.mem_cons_of_mem _ hv)
theorem tot_one : ∀ {ws : List (List Nat)} {i : Nat}, (∀ w ∈ ws, 1 ≤ w.length) → i < ws.length → (ws.getD i []).length + ws.length ≤ tot ws + 1
  | [], i, _, h => absurd h (by simp)
  | w :: ws, 0, h, _ => by
    have key : ∀ {ws : List (List Nat)}, (∀ w ∈ ws, 1 ≤ w.length) → ws.length ≤ tot ws := by
      intro ws
      induction ws with
      | nil => intro _; exact Nat.zero_le _
      | cons v r ih =>
        intro h
        have h1 := h v (by simp)
        have h2 := ih fun x hx => h x (List.mem_cons_of_mem _ hx)
        rw [tot_cons, List.length_cons]
        omega
    have := key (ws := ws) fun v hv => h v (List.mem_cons_of_mem _ hv)
    rw [tot_cons, List.length_cons]
    show w.length + _ ≤ _
    omega
  | w :: ws, i + 1, h, hi => by
    have h1 := h w (by simp)
    have h2 := tot_one (ws := ws) (i := i) (fun v hv => h v (List.mem_cons_of_mem _ hv)) (by simpa using hi)
    rw [tot_cons, List.length_cons]
    show (ws.getD i []).length + _ ≤ _
    omega
theorem tot_two : ∀ {ws : List (List Nat)} {i j : Nat}, (∀ w ∈ ws, 1 ≤ w.length) → i < j → j < ws.length → (ws.getD i []).length + (ws.getD j []).length + ws.length ≤ tot ws + 2
  | [], i, _, _, _, h => absurd h (by simp)
  | w :: ws, 0, j + 1, h, _, hj => by
    have h2 := tot_one (ws := ws) (i := j) (fun v hv => h v (List.mem_cons_of_mem _ hv)) (by simpa using hj)
    rw [tot_cons, List.length_cons]
    show w.length + (ws.getD j []).length + _ ≤ _
    omega
  | w :: ws, i + 1, j + 1, h, hij, hj => by
    have h1 := h w (by simp)
    have h2 := tot_two (ws := ws) (i := i) (j := j) (fun v hv => h v (List.mem_cons_of_mem _ hv)) (by omega) (by simpa using hj)
    rw [tot_cons, List.length_cons]
    show (ws.getD i []).length + (ws.getD j []).length + _ ≤ _
    omega
  | _ :: _, _ + 1, 0, _, h, _ => absurd h (by omega)
theorem tot_bigs {n : Nat} : ∀ {ws : List (List Nat)}, (∀ w ∈ ws, Whole n w) → 6 * bigs (ws.map (rd n)) + ws.length ≤ tot ws
  | [], _ => Nat.zero_le _
  | w :: ws, h => by
    have h1 := whole_ne (h w (by simp))
    have h2 := (rd_ok (h w (by simp))).2.2
    have h3 := tot_bigs (ws := ws) fun v hv => h v (List.mem_cons_of_mem _ hv)
    rw [tot_cons, List.length_cons, List.map_cons, bigs]
    split <;> omega
theorem rows_ok {n : Nat} {ws : List (List Nat)} (hw : ∀ w ∈ ws, Whole n w) {m : Nat} (hm : ∀ i, i < ws.length → (ws.getD i []).length ≤ m) : ∀ xs ∈ ws.map (rd n), Lets n xs ∧ adjOk xs = true ∧ xs.length ≤ m := by
  intro xs hx
  obtain ⟨w, h, rfl⟩ := List.mem_map.mp hx
  obtain ⟨i, hi, rfl⟩ := List.mem_iff_getElem.mp h
  have h1 := rd_ok (hw _ h)
  have h2 := hm i hi
  rw [List.getD_eq_getElem?_getD, List.getElem?_eq_getElem hi] at h2
  exact ⟨h1.1, h1.2.1, Nat.le_trans h1.2.2 h2⟩
theorem getD_out {ws : List (List Nat)} {i : Nat} (h : ¬ i < ws.length) : (ws.getD i []).length = 0 := by
  rw [List.getD_eq_getElem?_getD, List.getElem?_eq_none (by omega)]
  rfl
theorem good_small {n : Nat} (h4 : n ≤ 4) {ws : List (List Nat)} (lw : ws.length = n) (hw : ∀ w ∈ ws, Whole n w) (ht : tot ws ≤ 15 + n) : GoodG n (ws.map (rd n)) where
  len := by rw [List.length_map]; exact lw
  n4 := h4
  row := rows_ok hw fun i hi => by
    have := tot_one (fun w h => whole_ne (hw w h)) hi
    omega
  two := fun i j hij hi => by
    have h1 := rd_getD (n := n) i hw
    have h2 := rd_getD (n := n) j hw
    by_cases hi2 : i < ws.length
    · by_cases hj2 : j < ws.length
      · rcases Nat.lt_or_gt_of_ne hij with h | h
        · have := tot_two (fun w h => whole_ne (hw w h)) h hj2
          omega
        · have := tot_two (fun w h => whole_ne (hw w h)) h hi2
          omega
      · have := getD_out hj2
        omega
    · have := getD_out hi2
      omega
  big := by
    have := tot_bigs (n := n) hw
    omega
theorem bigs_app : ∀ (a b : List (List Int)), bigs (a ++ b) = bigs a + bigs b
  | [], b => by rw [List.nil_append]; show bigs b = 0 + bigs b; omega
  | x :: a, b => by
    rw [List.cons_append, bigs, bigs, bigs_app a b]
    omega
theorem bigs_none : ∀ {xss : List (List Int)}, (∀ i, i < xss.length → (xss.getD i []).length ≤ 6) → bigs xss = 0
  | [], _ => rfl
  | x :: r, h => by
    have h1 : x.length ≤ 6 := h 0 (by simp)
    rw [bigs, if_neg (by omega), bigs_none (xss := r) fun i hi => h (i + 1) (by simpa using hi)]
theorem bigs_pair : ∀ {xss : List (List Int)}, (∀ i j, i < j → j < xss.length → (xss.getD i []).length + (xss.getD j []).length ≤ 13) → bigs xss ≤ 1
  | [], _ => Nat.zero_le _
  | x :: r, h => by
    rw [bigs]
    split
    · rename_i h7
      rw [bigs_none (xss := r) fun i hi => by
        have h2 := h 0 (i + 1) (by omega) (by simpa using hi)
        have h2 : x.length + (r.getD i []).length ≤ 13 := h2
        omega]
      exact Nat.le_refl _
    · have := bigs_pair (xss := r) fun i j hij hj => h (i + 1) (j + 1) (by omega) (by simpa using hj)
      omega
theorem snoc_getD (a : List (List Nat)) (c : List Nat) (i : Nat) : (a ++ [c]).getD i [] = if i < a.length then a.getD i [] else if i = a.length then c else [] := by
  rw [List.getD_eq_getElem?_getD]
  split
  · rename_i h
    rw [List.getElem?_append_left h, ← List.getD_eq_getElem?_getD]
  · rename_i h
    rw [List.getElem?_append_right (by omega)]
    split
    · rename_i e
      rw [e, Nat.sub_self]
      rfl
    · rw [List.getElem?_eq_none (by simp; omega)]
      rfl
theorem good_deep {n : Nat} (h4 : n ≤ 4) {us ws : List (List Nat)} (lu : us.length = n) (hw : ∀ w ∈ ws, Whole n w) (h8 : ∀ i, i < n → (us.getD i []).length ≤ 8) (h13 : ∀ i j, i < n → j < n → i ≠ j → (us.getD i []).length + (us.getD j []).length ≤ 13)
    {a : List (List Nat)} {b z : List Nat} (eu : us = a ++ [b]) (ew : ws = a ++ [b ++ z]) (hz : z.length ≤ 3 + (us.getD 0 []).length) : GoodG n (ws.map (rd n)) := by
  have la : a.length + 1 = n := by rw [← lu, eu, List.length_append, List.length_singleton]
  have ga : ∀ i, i < a.length → a.getD i [] = us.getD i [] := fun i hi => by rw [eu, snoc_getD, if_pos hi]
  have gb : b = us.getD a.length [] := by rw [eu, snoc_getD, if_neg (by omega), if_pos rfl]
  have g0 := h8 0 (by omega)
  have gb8 := h8 a.length (by omega)
  rw [← gb] at gb8
  have wl : ∀ i, (ws.getD i []).length ≤ if i < a.length then 8 else if i = a.length then 19 else 0 := fun i => by
    rw [ew, snoc_getD]
    split
    · rename_i h
      rw [ga i h]
      exact h8 i (by omega)
    · split
      · rw [List.length_append]
        omega
      · exact Nat.le_refl _
  refine ⟨by rw [List.length_map, ew, List.length_append, List.length_singleton]; exact la, h4, rows_ok hw fun i hi => ?_, fun i j hij hi => ?_, ?_⟩
  · have := wl i
    split at this
    · omega
    · split at this <;> omega
  · have h1 := rd_getD (n := n) i hw
    have h2 := rd_getD (n := n) j hw
    have h3 := wl i
    have h5 := wl j
    split at h3
    · omega
    · split at h3
      · split at h5
        · omega
        · split at h5 <;> omega
      · omega
  · have ha : ∀ w ∈ a, Whole n w := fun w h => hw w (by rw [ew]; exact List.mem_append_left _ h)
    rw [ew, List.map_append, bigs_app]
    have h1 : bigs (a.map (rd n)) ≤ 1 := bigs_pair fun i j hij hj => by
      rw [List.length_map] at hj
      have e1 := rd_getD (n := n) i ha
      have e2 := rd_getD (n := n) j ha
      have e3 := h13 i j (by omega) (by omega) (by omega)
      rw [ga i (by omega)] at e1
      rw [ga j hj] at e2
      omega
    have h2 : bigs ([b ++ z].map (rd n)) ≤ 1 := by
      show (if 7 ≤ (rd n (b ++ z)).length then 1 else 0) + 0 ≤ 1
      split <;> omega
    omega
theorem text_getD {n : Nat} {xss : List (List Int)} (hl : xss.length = n) {i : Nat} (hi : i < n) : (xss.map textC).getD i [] = textC (xss.getD i []) := by
  rw [List.getD_eq_getElem?_getD, List.getElem?_map, List.getElem?_eq_getElem (by omega), List.getD_eq_getElem?_getD, List.getElem?_eq_getElem (by omega)]
  rfl
/-- what is read of a text near to a drawn renaming's has a short way down -/
theorem near_good {n k : Nat} (h1 : 1 ≤ n) (h4 : n ≤ 4) (hk : k ≤ 4) {xss : List (List Int)} (d : Drawn n k xss) {m : List Nat} {yss : List (List Int)} (hN : NearT (imgsText xss) m) (hr : readImages n m = .ok yss) : GoodG n yss := by
  obtain ⟨ws, lw, hw, rfl, rfl⟩ := readImages_segs hr
  rw [imgs_segs] at hN
  have lu : (xss.map textC).length = n := by rw [List.length_map]; exact d.len
  have hu : ∀ w ∈ xss.map textC, Whole n w := fun w h => by
    obtain ⟨xs, hx, rfl⟩ := List.mem_map.mp h
    exact text_whole h4 (d.ok xs hx).1
  rcases near_shape h1 h4 lu lw hu hw hN with h | ⟨a, b, z, e1, e2, e3⟩
  · have h2 := segs_tot (d := 1) (lw.trans lu.symm)
    have h3 := d.total h4 hk
    have h3 : tot (xss.map textC) ≤ 11 + n := h3
    exact good_small h4 lw hw (by omega)
  · refine good_deep h4 lu hw (fun i hi => ?_) (fun i j hi hj hij => ?_) e1 e2 e3
    · rw [text_getD d.len hi, text_len]
      have := d.row8 hk i hi
      split <;> omega
    · rw [text_getD d.len hi, text_getD d.len hj, text_len, text_len]
      have h1 := d.row8 hk i hi
      have h2 := d.row8 hk j hj
      have h3 := d.pair13 hk i j hi hj hij
      split <;> split <;> omega
/-- drawn renamings have a short way down -/
theorem drawn_plain {n k : Nat} {xss : List (List Int)} (d : Drawn n k xss) : ∀ xs ∈ xss, adjOk xs = true := by
  cases d with
  | zero =>
    intro xs hx
    have := (basis_ok hx).2
    rw [adjO_iff]
    intro j hj
    omega
  | step e d =>
    intro xs hx
    obtain ⟨ys, _, rfl⟩ := List.mem_map.mp hx
    exact plain_adj _
theorem drawn_good {n k : Nat} (h4 : n ≤ 4) (hk : k ≤ 4) {xss : List (List Int)} (d : Drawn n k xss) : GoodG n xss := by
  have h8 : ∀ i, (xss.getD i []).length ≤ 8 := fun i => by
    by_cases hi : i < n
    · exact d.row8 hk i hi
    · rw [List.getD_eq_getElem?_getD, List.getElem?_eq_none (by rw [d.len]; omega)]
      exact Nat.zero_le _
  refine ⟨d.len, h4, fun xs hx => ⟨(d.ok xs hx).1, drawn_plain d xs hx, ?_⟩, fun i j _ _ => h8 j, ?_⟩
  · obtain ⟨i, hi, rfl⟩ := List.mem_iff_getElem.mp hx
    have := h8 i
    rw [List.getD_eq_getElem?_getD, List.getElem?_eq_getElem hi] at this
    exact Nat.le_trans this (by omega)
  · have := bigs_pair (xss := xss) fun i j hij hj => d.pair13 hk i j (by rw [← d.len]; omega) (by rw [← d.len]; omega) (by omega)
    omega
end My
namespace My
/-! ### plain: drawn renamings end in all letters -/
theorem perm_of_sub {α : Type} [BEq α] [LawfulBEq α] : ∀ {a b : List α}, a.Nodup → (∀ x ∈ a, x ∈ b) → b.length ≤ a.length → a.Perm b
  | [], b, _, _, h => by
    have : b = [] := List.length_eq_zero_iff.mp (by simpa using h)
    rw [this]
  | x :: a, b, nd, hs, hl => by
    obtain ⟨n1, n2⟩ := List.nodup_cons.mp nd
    have hx := hs x (by simp)
    have h1 := List.perm_cons_erase hx
    have h2 := List.length_erase_of_mem hx
    have hp : 0 < b.length := List.length_pos_of_mem hx
    have ih := perm_of_sub (a := a) (b := b.erase x) n2 (fun y hy => by
      have hne : y ≠ x := fun e => n1 (by rw [← e]; exact hy)
      exact (List.mem_erase_of_ne hne).mpr (hs y (List.mem_cons_of_mem _ hy))) (by rw [h2]; simp at hl; omega)
    exact (ih.cons x).trans h1.symm
theorem upTo_nat (n : Nat) : upTo n = (List.range n).map fun (i : Nat) => 1 + (i : Int) := by
  unfold upTo
  rw [show ((n : Int) + 1 - 1).toNat = n by omega]
theorem upTo_mem {n : Nat} {x : Int} : x ∈ upTo n ↔ 1 ≤ x ∧ x ≤ n := by
  rw [upTo_nat, List.mem_map]
  constructor
  · rintro ⟨i, hi, rfl⟩
    have := List.mem_range.mp hi
    omega
  · rintro ⟨h1, h2⟩
    exact ⟨(x - 1).toNat, List.mem_range.mpr (by omega), by omega⟩
theorem upTo_sorted (n : Nat) : (upTo n).Pairwise (· < ·) := by
  rw [upTo_nat, List.pairwise_map]
  exact List.pairwise_lt_range.imp fun h => by omega
theorem last_ok {n : Nat} {last : List (List Int)} (hl : last.length = n) (h : ∀ x : Int, 1 ≤ x → x ≤ n → ∃ y : Int, (0 - (last.length : Int) ≤ y ∧ y ≤ last.length ∧ y ≠ 0) ∧ img last y = [x]) : renLast n last = true := by
  have at_ : ∀ x : Int, 1 ≤ x → x ≤ n → ∃ i : Nat, i < n ∧ (last.getD i [] = [x] ∨ last.getD i [] = [0 - x]) := fun x h1 h2 => by
    obtain ⟨y, hy, e⟩ := h x h1 h2
    unfold img at e
    split at e
    · exact ⟨_, by omega, .inl e⟩
    · refine ⟨(0 - y - 1).toNat, by omega, .inr ?_⟩
      rw [← undone_undone (last.getD _ []), e]
      rfl
  have hh : (heads last).length = n := by unfold heads; rw [List.length_map]; exact hl
  have hget : ∀ i, i < n → (heads last)[i]? = some (absI ((last.getD i []).getD 0 0)) := fun i hi => by
    have e : last.getD i [] = last[i] := by
      rw [List.getD_eq_getElem?_getD, List.getElem?_eq_getElem (by omega)]
      rfl
    unfold heads
    rw [e, List.getElem?_map, List.getElem?_eq_getElem (by omega)]
    rfl
  have hx : ∀ (x : Int) (i : Nat), 1 ≤ x → i < n → (last.getD i [] = [x] ∨ last.getD i [] = [0 - x]) → (heads last)[i]? = some x := fun x i h1 hi h => by
    rw [hget i hi]
    rcases h with h | h <;> rw [h]
    · show some (absI x) = _
      unfold absI
      rw [if_neg (by omega)]
    · show some (absI (0 - x)) = _
      unfold absI
      rw [if_pos (by omega)]
      congr 1
      omega
  have nd : (upTo n).Nodup := (upTo_sorted n).imp fun h => by omega
  have p : (upTo n).Perm (heads last) := perm_of_sub nd (fun x hm => by
    obtain ⟨h1, h2⟩ := upTo_mem.mp hm
    obtain ⟨i, hi, e⟩ := at_ x h1 h2
    exact List.mem_of_getElem? (hx x i h1 hi e)) (by rw [hh, upTo_nat, List.length_map, List.length_range]; exact Nat.le_refl _)
  have ndh : (heads last).Nodup := p.nodup_iff.mp nd
  unfold renLast
  rw [Bool.and_eq_true, List.all_eq_true]
  constructor
  · intro xs hm
    obtain ⟨i, hi, rfl⟩ := List.mem_iff_getElem.mp hm
    have hi' : i < n := by omega
    have m1 := List.mem_of_getElem? (hget i hi')
    obtain ⟨h1, h2⟩ := upTo_mem.mp (p.symm.subset m1)
    obtain ⟨j, hj, e⟩ := at_ _ h1 h2
    have e2 := hx _ j h1 hj e
    have eij : i = j := by
      have g1 := hget i hi'
      obtain ⟨k1, q1⟩ := List.getElem?_eq_some_iff.mp g1
      obtain ⟨k2, q2⟩ := List.getElem?_eq_some_iff.mp e2
      have pw := List.pairwise_iff_getElem.mp ndh
      rcases Nat.lt_trichotomy i j with h | h | h
      · exact absurd (q1.trans q2.symm) (pw i j k1 k2 h)
      · exact h
      · exact absurd (q2.trans q1.symm) (pw j i k2 k1 h)
    subst eij
    rw [List.getD_eq_getElem?_getD, List.getElem?_eq_getElem hi] at e
    have e : last[i] = _ ∨ last[i] = _ := e
    rcases e with e | e <;> rw [e] <;> rfl
  · rw [decide_eq_true_eq]
    exact (sorted_eq p ((upTo_sorted n).imp fun h => by omega)).symm
/-- drawn renamings are renamings -/
theorem drawn_last {n k : Nat} {xss last : List (List Int)} {steps : List Step} (d : Drawn n k xss) (h : Down xss steps last) : renLast n last = true :=
  last_ok (h.end.2.trans d.len) fun _ h1 h2 => h.single (drawn_plain d) (fun xs hx => (d.ok xs hx).1) d.all h1 h2
theorem Down.det {xss last last' : List (List Int)} {steps steps' : List Step} (h : Down xss steps last) (h' : Down xss steps' last') : last = last' := by
  induction h generalizing last' steps' with
  | stop e =>
    cases h' with
    | stop _ => rfl
    | step e' _ => rw [e] at e'; cases e'
  | step e _ ih =>
    cases h' with
    | stop e' => rw [e] at e'; cases e'
    | step e' d' =>
      rw [e] at e'
      cases e'
      exact ih d'
/-! ### plain: the lists that are no renamings -/
def flatR (n : Nat) : List (List Int) := if 1 < n then List.replicate n [1] else [[1, 1]]
theorem flat_good {n : Nat} (h1 : 1 ≤ n) (h4 : n ≤ 4) : GoodG n (flatR n) := by
  have hl : (flatR n).length = n := by
    unfold flatR
    split
    · rw [List.length_replicate]
    · rw [show n = 1 by omega]; rfl
  have hr : ∀ xs ∈ flatR n, Lets n xs ∧ adjOk xs = true ∧ xs.length ≤ 2 := by
    intro xs hx
    unfold flatR at hx
    split at hx
    · obtain ⟨_, rfl⟩ := List.mem_replicate.mp hx
      exact ⟨fun x hx => by rw [List.mem_singleton.mp hx]; omega, rfl, by decide⟩
    · rw [List.mem_singleton.mp hx]
      refine ⟨fun x hx => ?_, by decide, by decide⟩
      have : x = 1 := by simpa using hx
      omega
  have h2 : ∀ i, ((flatR n).getD i []).length ≤ 2 := fun i => (getD_row (C := fun xs => Lets n xs ∧ adjOk xs = true ∧ xs.length ≤ 2) ⟨(fun x hx => by cases hx), rfl, by decide⟩ hr i).2.2
  refine ⟨hl, h4, fun xs hx => ⟨(hr xs hx).1, (hr xs hx).2.1, by have := (hr xs hx).2.2; omega⟩, fun i j _ hi => by have := h2 i; omega, ?_⟩
  rw [bigs_none fun i _ => by have := h2 i; omega]
  omega
theorem flat_last {n : Nat} (h1 : 1 ≤ n) (h4 : n ≤ 4) {last : List (List Int)} {steps : List Step} (h : Down (flatR n) steps last) : renLast n last = false := by
  match n, h1, h4 with
  | 1, _, _ =>
    have := h.det (.stop (xss := [[1, 1]]) (by decide +kernel))
    subst this
    decide +kernel
  | 2, _, _ =>
    have := h.det (.step (xss := [[1], [1]]) (s := (0, -2, false)) (r := []) (by decide +kernel) (.stop (by decide +kernel)))
    subst this
    rfl
  | 3, _, _ =>
    have := h.det (.step (xss := [[1], [1], [1]]) (s := (0, -2, false)) (r := []) (by decide +kernel) (.step (s := (1, -3, false)) (r := []) (by decide +kernel) (.stop (by decide +kernel))))
    subst this
    rfl
  | 4, _, _ =>
    have := h.det (.step (xss := [[1], [1], [1], [1]]) (s := (0, -2, false)) (r := []) (by decide +kernel) (.step (s := (1, -3, false)) (r := []) (by decide +kernel) (.step (s := (2, -4, false)) (r := []) (by decide +kernel) (.stop (by decide +kernel)))))
    subst this
    rfl
end My
namespace My
open PySem PySem.Spec PyProof.Rows L2 SX LamX
/-! ### what is known of the error classes -/
structure EFacts (K : PySem.W.Frag) (mg : Str → Option Value) (CD CR CN CT CS : Addr) : Prop where
  gS : mg "KeepError" = some (.ref CS)
  gD : mg "BadDeeds" = some (.ref CD)
  gR : mg "BadRow" = some (.ref CR)
  gN : mg "BadRenaming" = some (.ref CN)
  gT : mg "BadText" = some (.ref CT)
  mD : PySem.W.exmOne K (.ref CD) (.ref CS) = some true
  mR : PySem.W.exmOne K (.ref CR) (.ref CS) = some true
  mN : PySem.W.exmOne K (.ref CN) (.ref CS) = some true
  mT : PySem.W.exmOne K (.ref CT) (.ref CS) = some true
  eD : ExcC K CD
  eR : ExcC K CR
  eN : ExcC K CN
  eT : ExcC K CT
  kDD : PySem.W.kitOne K (.ref CD) (.ref CD) = some true
  kRR : PySem.W.kitOne K (.ref CR) (.ref CR) = some true
  kNN : PySem.W.kitOne K (.ref CN) (.ref CN) = some true
  kTT : PySem.W.kitOne K (.ref CT) (.ref CT) = some true
  kNT : PySem.W.kitOne K (.ref CN) (.ref CT) = some false
  kTN : PySem.W.kitOne K (.ref CT) (.ref CN) = some false
  k0T : PySem.W.kitOne K (.type "NoneType") (.ref CT) = some false
  k0N : PySem.W.kitOne K (.type "NoneType") (.ref CN) = some false
  xT : XfC K CT
  aT : PySem.W.findIn K (.ref CT) "at" = some none
/-- a held error with its place; a held error without fields -/
def ErrH (H : Hp) (a C : Addr) (k : Int) : Prop := ∃ d : Addr, H a = some (XO (.ref C) (some d) a) ∧ H d = some (.xd [("at", .int k)])
def ErrP (H : Hp) (a C : Addr) : Prop := H a = some (XO (.ref C) none a)
theorem isA_T {K : PySem.W.Frag} {H : Hp} {a C C' : Addr} {k : Int} {b : Bool} {Q : VK} (h : ErrH H a C k) (e : ExcC K C) (kt : PySem.W.kitOne K (.ref C) (.ref C') = some b) (q : Q (.bl b) H) : rIsA K [.ref a, .ref C'] H Q := by
  obtain ⟨d, h1, h2⟩ := h
  exact .inl ⟨a, C, _, _, _, b, rfl, .inr ⟨d, h1, h2⟩, e, fun u r => r, kt, q⟩
theorem isA_P {K : PySem.W.Frag} {H : Hp} {a C C' : Addr} {b : Bool} {Q : VK} (h : ErrP H a C) (e : ExcC K C) (kt : PySem.W.kitOne K (.ref C) (.ref C') = some b) (q : Q (.bl b) H) : rIsA K [.ref a, .ref C'] H Q :=
  .inl ⟨a, C, _, _, _, b, rfl, .inl ⟨h, rfl⟩, e, fun u r => r, kt, q⟩
theorem isA_0 {K : PySem.W.Frag} {H : Hp} {C' : Addr} {b : Bool} {Q : VK} (kt : PySem.W.kitOne K (.type "NoneType") (.ref C') = some b) (q : Q (.bl b) H) : rIsA K [.non, .ref C'] H Q :=
  .inr ⟨.non, .ref C', _, _, b, rfl, .own _, .base .non, kt, q⟩
theorem xv_at {K : PySem.W.Frag} {H : Hp} {a C : Addr} {k : Int} {Q : VK} (h : ErrH H a C k) (x : XfC K C) (n : PySem.W.findIn K (.ref C) "at" = some none) (q : Q (.int k) H) :
    ∃ (a' C dd : Addr) (fs : List (Str × V)) (v : V), (V.ref a) = .ref a' ∧ H a' = some (XO (.ref C) (some dd) a') ∧ H dd = some (.xd fs) ∧ XfC K C ∧ PySem.W.findIn K (.ref C) ("at" : Str) = some none ∧ fs.lookup ("at" : Str) = some v ∧ Q v H := by
  obtain ⟨d, h1, h2⟩ := h
  exact ⟨a, C, d, _, _, rfl, h1, h2, x, n, rfl, q⟩
theorem xvar_i {K : PySem.W.Frag} {H : Hp} {a C : Addr} {k : Int} {i : Nat} {σ : L2.St} {Q : VK} (hi : σ[i]? = some (some (V.ref a))) (h : ErrH H a C k) (x : XfC K C) (n : PySem.W.findIn K (.ref C) "at" = some none) (q : Q (.int k) H) : tXv K "at" (tVar i) σ H Q := by
  obtain ⟨d, h1, h2⟩ := h
  exact ⟨_, hi, a, C, d, _, _, rfl, h1, h2, x, n, rfl, q⟩
theorem tOr_i {t u : TT} {σ : L2.St} {H : Hp} {Q : Bool → Hp → Prop} (h : t σ H fun c H1 => if c = true then Q true H1 else u σ H1 Q) : tOr t u σ H Q := h
theorem tAnd_i {t u : TT} {σ : L2.St} {H : Hp} {Q : Bool → Hp → Prop} (h : t σ H fun c H1 => if c = true then u σ H1 Q else Q false H1) : tAnd t u σ H Q := h
theorem tTest_i {t : TE} {σ : L2.St} {H : Hp} {Q : Bool → Hp → Prop} (h : t σ H fun x H' => ∃ k, x = .bl k ∧ Q k H') : tTest t σ H Q := h
theorem tNot_i {t : TT} {σ : L2.St} {H : Hp} {Q : Bool → Hp → Prop} (h : t σ H fun c H1 => Q (!c) H1) : tNot t σ H Q := h
theorem tB_i {t : TE} {σ : L2.St} {H : Hp} {Q : Bool → Hp → Prop} (h : t σ H fun x H1 => ∃ c, x = .bl c ∧ Q c H1) : tB t σ H Q := h
theorem neI {i : Int} {H : Hp} {Q : VK} (q : Q (.bl false) H) : rNe (.int i) (.int i) H Q := ⟨rfl, by rw [decide_eq_true rfl]; exact q⟩
/-! ### all but the state and the tables stays -/
def KpT (u : Sd) (H H' : Hp) : Prop := ∀ a o, a ≠ u.s → a ≠ u.g → (∀ ps, o ≠ .tbl ps) → H a = some o → H' a = some o
theorem KpT.refl (u : Sd) (H : Hp) : KpT u H H := fun _ _ _ _ _ h => h
theorem KpT.trans {u : Sd} {H H1 H2 : Hp} (a : KpT u H H1) (b : KpT u H1 H2) : KpT u H H2 := fun c o h1 h2 n h => b c o h1 h2 n (a c o h1 h2 n h)
theorem KpT.of {u : Sd} {H H' : Hp} (e : Kp u H H') : KpT u H H' := fun a o h1 h2 _ h => e a o h1 h2 h
theorem KpT.ofS {u : Sd} {H H' : Hp} (e : Same H H') : KpT u H H' := fun a o _ _ _ h => e a o h
theorem KpT.ofE {u : Sd} {H H' : Hp} (e : ExtN H H') : KpT u H H' := fun a o _ _ n h => e a o h n
theorem extS {H H' : Hp} (e : Same H H') : ExtN H H' := fun b o h _ => e b o h
theorem Dst.ext {H H' : Hp} {u : Sd} {k : Nat} (e : ExtN H H') (d : Dst H u k) : Dst H' u k := by
  obtain ⟨r, t, gs, cs, h1, h2, h3, h4⟩ := d
  exact ⟨r, t, gs, cs, e _ _ h1 (fun _ z => by cases z), e _ _ h2 (fun _ z => by cases z), e _ _ h3 (fun _ z => by cases z), h4⟩
theorem KpT.tst {u : Sd} {H H' : Hp} {k : Nat} (e : KpT u H H') (d : Dst H u k) : Tst H H' := fun b xs h => by
  obtain ⟨r, t, gs, cs, h1, h2, _⟩ := d
  refine e b _ (fun z => ?_) (fun z => ?_) (fun _ z => by cases z) h
  · rw [z, h1] at h; cases h
  · rw [z, h2] at h; cases h
theorem tabs_same {T : List (Addr × Str)} {H H' : Hp} (t : Tabs T H) (e : Same H H') : Tabs T H' := t.ext e
/-- the tables are not the state's -/
theorem tabs_kp {T : List (Addr × Str)} {u : Sd} {k : Nat} {H H' : Hp} (t : Tabs T H) (d : Dst H u k) (e : Kp u H H') : Tabs T H' := fun p hp => by
  obtain ⟨r, tt, gs, cs, h1, h2, _⟩ := d
  obtain ⟨ps, a1, a2, a3⟩ := t p hp
  have off : ∀ (b : Addr) (o : HO), H b = some o → (∀ ks, o ≠ .dK ks) → (∀ xs, o ≠ .lst xs) → H' b = some o := fun b o hb n1 n2 => e b o (fun z => by
    rw [z, h1] at hb
    exact n1 _ (Option.some.inj hb).symm) (fun z => by
    rw [z, h2] at hb
    exact n2 _ (Option.some.inj hb).symm) hb
  refine ⟨ps, off _ _ a1 (fun _ z => by cases z) (fun _ z => by cases z), a2, fun pos cv hc => ?_⟩
  obtain ⟨c, e1, e2⟩ := a3 pos cv hc
  exact ⟨c, e1, off _ _ e2 (fun _ z => by unfold CodeO at z; cases z) (fun _ z => by unfold CodeO at z; cases z)⟩
/-! ### rows that fit -/
theorem rowD_of {n : Int} {xs : List Int} (h : Lets n xs) (hl : xs.length ≤ 200) : rowD n (.tup (xs.map Dt.int)) = true := by
  show (decide ((xs.map Dt.int).length ≤ 200) && (xs.map Dt.int).all (letterD n)) = true
  rw [Bool.and_eq_true, List.length_map]
  refine ⟨decide_eq_true hl, ?_⟩
  rw [List.all_eq_true]
  intro d hd
  obtain ⟨x, hx, rfl⟩ := List.mem_map.mp hd
  have := h x hx
  show ((decide (0 - n ≤ x) && decide (x ≤ n)) && !decide (x = 0)) = true
  simp
  omega
theorem between_ok {n : Nat} (h1 : 1 ≤ n) (h4 : n ≤ 4) : betweenD (.int n) 1 4 ≠ false := by
  show (decide ((1 : Int) ≤ n) && decide ((n : Int) ≤ 4)) ≠ false
  rw [decide_eq_true (by omega), decide_eq_true (by omega)]
  decide
theorem map_int_inj {xs ys : List Int} (h : Dt.tup (xs.map Dt.int) = .tup (ys.map Dt.int)) : xs = ys := by
  have := congrArg (List.map intD) (Dt.tup.inj h)
  rwa [intD_map, intD_map] at this
theorem tIf_to {c : TT} {t u : TS} {D : Ends} {σ : L2.St} {H : Hp} (C : Hp → Prop) (k : Bool) (hc : ∀ R : Bool → Hp → Prop, (∀ H', C H' → R k H') → c σ H R) (q : ∀ H', C H' → if k = true then t D σ H' else u D σ H') : tIfS c t u D σ H := hc _ q
theorem seqIf_to {c : TT} {t u rest : TS} {D : Ends} {σ : L2.St} {H : Hp} (C : Hp → Prop) (k : Bool) (hc : ∀ R : Bool → Hp → Prop, (∀ H', C H' → R k H') → c σ H R) (q : ∀ H', C H' → if k = true then t { D with nx := rest D } σ H' else u { D with nx := rest D } σ H') : tSeq (tIfS c t u) rest D σ H := hc _ q
theorem nx_i {t r' b' : L2.St → Hp → Prop} {r : VK} {σ : L2.St} {H : Hp} (h : t σ H) : ({ nx := t, rt := r, bk := r', ct := b' } : Ends).nx σ H := h
theorem seqIfF {c : TT} {t rest : TS} {D : Ends} {σ : L2.St} {H : Hp} (C : Hp → Prop) (hc : ∀ R : Bool → Hp → Prop, (∀ H', C H' → R false H') → c σ H R) (q : ∀ H', C H' → rest D σ H') : tSeq (tIfS c t tNext) rest D σ H := hc _ fun H' h => iteF (q H' h)
theorem ifF {c : TT} {t : TS} {D : Ends} {σ : L2.St} {H : Hp} (C : Hp → Prop) (hc : ∀ R : Bool → Hp → Prop, (∀ H', C H' → R false H') → c σ H R) (q : ∀ H', C H' → D.nx σ H') : tIfS c t tNext D σ H := hc _ fun H' h => iteF (q H' h)
theorem caught_i {K : PySem.W.Frag} {CS : Addr} {tl : XK → Hp → VK → Prop} {H : Hp} {Q : VK} (h : tl (fun cls d H' => PySem.W.exmOne K cls (.ref CS) = some true ∧ ∀ a, H' a = none → Q (.ref a) (upd H' a (XO cls d a))) H (fun _ H' => ∃ v : V, (some (some V.non) : Option (Option V)) = some (some v) ∧ Q v H')) : TTcaught K CS tl H Q := h
theorem tCons_i {te : TE} {ta : TA} {σ : L2.St} {H : Hp} {Q : List V → Hp → Prop} (h : te σ H fun x H1 => ta σ H1 fun xs H2 => Q (x :: xs) H2) : tCons te ta σ H Q := h
theorem tC_i {v : V} {σ : L2.St} {H : Hp} {Q : VK} (h : Q v H) : tC v σ H Q := h
theorem neS {l : List Nat} {H : Hp} {Q : VK} (q : Q (.bl false) H) : rNe (.str (S l)) (.str (S l)) H Q := ⟨rfl, by rw [decide_eq_true rfl]; exact q⟩
abbrev lamQ (x : Str) : Str := x ++ ".<locals>." ++ "<lambda>"
section
variable {P : Program} {w : World} {K : PySem.W.Frag} {mg : Str → Option Value} {base : Heap}
theorem readRow_use {CD CT : Addr} {n : Nat} {l : List Nat} {ys : List Int} {H : Hp} {Q : VK} {E : XK} (h1 : 1 ≤ n) (h4 : n ≤ 4) (hl : l.length < 1000000) (e : readRow n l = .ok ys) (q : ∀ v' H', Same H H' → Row H' v' (plain ys) → Q v' H') : spReadRow CD CT [.int n, .str (S l)] H Q E :=
  spReadRow_i (.int _) (.str _) (fun e => absurd e (between_ok h1 h4)) fun n' en _ _ => by
    have en : n = n' := by have := Dt.int.inj en; omega
    subst en
    refine ⟨fun h => absurd rfl (h _), fun l' el => ?_⟩
    obtain rfl := S_inj (Dt.str.inj el)
    refine ⟨hl, fun k ek => (by rw [e] at ek; cases ek), fun xs ex => ?_⟩
    rw [e] at ex
    cases ex
    exact q
theorem readRow_err {CD CT : Addr} {n : Nat} {l : List Nat} {k : Int} {H : Hp} {Q : VK} {E : XK} (h1 : 1 ≤ n) (h4 : n ≤ 4) (hl : l.length < 1000000) (e : readRow n l = .error k) (er : ErrAt H E CT k) : spReadRow CD CT [.int n, .str (S l)] H Q E :=
  spReadRow_i (.int _) (.str _) (fun e => absurd e (between_ok h1 h4)) fun n' en _ _ => by
    have en : n = n' := by have := Dt.int.inj en; omega
    subst en
    refine ⟨fun h => absurd rfl (h _), fun l' el => ?_⟩
    obtain rfl := S_inj (Dt.str.inj el)
    refine ⟨hl, fun k' ek => ?_, fun xs ex => by rw [e] at ex; cases ex⟩
    rw [e] at ek
    cases ek
    exact er
theorem kit_list (d : Dt) : kitB d.cls "list" = some (match d with | .lst _ => true | _ => false) := match d with
  | .non => (by decide +kernel : kitB "NoneType" "list" = some false)
  | .bl _ => (by decide +kernel : kitB "bool" "list" = some false)
  | .int _ => (by decide +kernel : kitB "int" "list" = some false)
  | .str _ => (by decide +kernel : kitB "str" "list" = some false)
  | .tup _ => (by decide +kernel : kitB "tuple" "list" = some false)
  | .lst _ => (by decide +kernel : kitB "list" "list" = some true)
  | .dic => (by decide +kernel : kitB "dict" "list" = some false)
theorem str_1a : (PySem.Str.ofString "a") = S [97] := by decide +kernel
theorem str_aAa : (PySem.Str.ofString "aAa") = S [97, 65, 97] := by decide +kernel
theorem rep_flat (l : List Nat) : ∀ m : Nat, (List.replicate m l).flatten.length = m * l.length
  | 0 => by simp
  | m + 1 => by rw [List.replicate_succ, List.flatten_cons, List.length_append, rep_flat l m, Nat.add_mul, Nat.one_mul, Nat.add_comm]
theorem repS_i {z : Str} {l : List Nat} {k : Int} {H : Hp} {Q : VK} (e : z = S l) (k0 : 0 ≤ k) (k1 : k ≤ 1000) (hl : l.length ≤ 1000) (q : Q (.str (S (List.replicate k.toNat l).flatten)) H) : rRepS (.str z) (.int k) H Q := ⟨l, k, by rw [e], rfl, k0, k1, hl, q⟩
theorem ErrH.new {H : Hp} {a d C : Addr} {k : Int} (h : H d = some (.xd [("at", .int k)])) (ha : H a = none) : ErrH (upd H a (XO (.ref C) (some d) a)) a C k :=
  ⟨d, upd_same, by rw [upd_ne (ne_of_none h ha)]; exact h⟩
@[irreducible] def spRowTexts (T : List (Addr × Str)) : Sp := fun vs H Q _ => ∃ (u : Sd) (k n : Nat), vs = [.ref u.s, .int n] ∧ 1 ≤ n ∧ n ≤ 4 ∧ Dst H u (k + 500) ∧ Tabs T H ∧ ∀ H', KpT u H H' → Dst H' u k → Tabs T H' → Q (.bl true) H'
theorem spRowTexts_i {T : List (Addr × Str)} {H : Hp} {u : Sd} {k n : Nat} {Q : VK} {E : XK} (h1 : 1 ≤ n) (h4 : n ≤ 4) (h : Dst H u (k + 500)) (hT : Tabs T H) (q : ∀ H', KpT u H H' → Dst H' u k → Tabs T H' → Q (.bl true) H') : spRowTexts T [.ref u.s, .int n] H Q E := by
  unfold spRowTexts
  exact ⟨u, k, n, rfl, h1, h4, h, hT, q⟩
theorem ok_row_texts {CD CR CN CT CS c P1 : Addr} {T : List (Addr × Str)} (B : Bt mg) (EF : EFacts K mg CD CR CN CT CS) (F : Fdc K mg "_law_mr_row_texts" s_l_mr_row_texts c) (FC : Fd K mg "_law_caught" s_l_caught) (TB : TabB base mg c P1) (hM : (P1, lamQ "_law_mr_row_texts") ∈ T) (hU : ∀ p ∈ T, p.1 = P1 → p.2 = lamQ "_law_mr_row_texts")
    (F_row_text : Fd K mg "row_text" s_row_text) (F_read_row : Fd K mg "read_row" s_read_row) (D_row_text : Df P w K mg base (L2.CX P w) 6 "row_text" ["deeds", "row"] (spRowText CD CR)) (D_read_row : Df P w K mg base (L2.CX P w) 4 "read_row" ["deeds", "text"] (spReadRow CD CT))
    (D_l_mr_row : Df P w K mg base CX0 5 "_law_mr_row" ["_law_state", "_law_deeds"] spLRow) (D_l_mr_text : Df P w K mg base CX0 1 "_law_mr_text" ["_law_row"] spText) (D_l_mk_plain : Df P w K mg base CX0 1 "_law_mk_plain" ["_law_letters"] (spPlain K)) (D_l_mr_same : Df P w K mg base CX0 2 "_law_mr_same" ["_law_found", "_law_due"] spSame)
    (D_l_mr_near_text : Df P w K mg base CX0 4 "_law_mr_near_text" ["_law_state", "_law_text"] spNearText) (D_l_draw : Df P w K mg base CX0 2 "_law_draw" ["_law_state", "_law_room"] spDraw) (D_l_mr_read_row : Df P w K mg base CX0 2 "_law_mr_read_row" ["_law_deeds", "_law_text"] spLRead) (D_l_mr_whole : Df P w K mg base CX0 1 "_law_mr_whole" ["_law_thing"] spWhole) :
    Df P w K mg base (L2.CX P w) 12 "_law_mr_row_texts" ["_law_state", "_law_deeds"] (spRowTexts T) := by
  refine .mkC F sc_l_mr_row_texts (fun _ _ _ _ _ _ us hl => match us, hl with | [_, _], _ => rfl) (fun vs H Q E h => ?_) (fun f A outer s H vs Q E hr h => ?_)
  · unfold spRowTexts at h
    obtain ⟨u, k, n, rfl, _⟩ := h
    rfl
  · unfold spRowTexts at h
    obtain ⟨u, k, n, rfl, h1, h4, hd, hT, q⟩ := h
    have nd := sc_l_mr_row_texts.nd
    refine ⟨_, pss_cons (ps_set (i := 2) nd rfl (Or.inl rfl) (pe_df (D_l_mr_row.mono (by decide)) hr rfl pass0 (pa_cons (pv 0) (pa_cons (pv 1) pa_nil))))
      (pss_cons (ps_set (i := 3) nd rfl (Or.inl rfl) (pe_dfK D_row_text F_row_text (fun _ _ _ _ _ _ ws hl => match ws, hl with | [_, _], _ => rfl) (hr.mono (by decide)) rfl (passR (takes_of rfl rfl rfl rfl)) (pk_cons (pv 1) (pk_cons (pv 2) pk_nil))))
      (pss_cons (ps_if (PW.pt (pw_or (pt_not (pt_val (pe_callB call_is (by rfl) B.isinstance boot_isinstance (pa_cons (pv 3) (pa_cons (pe_cls (n := "str") rfl B.str (by decide +kernel)) pa_nil))))) (pw_or1 (pt_cmpR op_ne (pv 3) (pe_df (D_l_mr_text.mono (by decide)) hr rfl pass0 (pa_cons (pe_df (D_l_mk_plain.mono (by decide)) hr rfl pass0 (pa_cons (pv 2) pa_nil)) pa_nil)) (nomark _)))))
      (pss_one (ps_ret (pe_bl))) (pss_nil))
      (pss_cons (ps_if (pt_not (pt_val (pe_df (D_l_mr_same.mono (by decide)) hr rfl pass0 (pa_cons (pe_dfK D_read_row F_read_row (fun _ _ _ _ _ _ ws hl => match ws, hl with | [_, _], _ => rfl) (hr.mono (by decide)) rfl (passR (takes_of rfl rfl rfl rfl)) (pk_cons (pv 1) (pk_cons (pv 3) pk_nil))) (pa_cons (pe_df (D_l_mk_plain.mono (by decide)) hr rfl pass0 (pa_cons (pv 2) pa_nil)) pa_nil)))))
      (pss_one (ps_ret (pe_bl))) (pss_nil))
      (pss_cons (ps_if (PW.pt (pw_and (pt_cmpR (op_neD hr.units) (pv 2) (pe_tup (pa_nil)) (nomark _)) (pw_and1 (pt_not (pt_val (pe_df (D_l_mr_same.mono (by decide)) hr rfl pass0 (pa_cons (pe_df (D_read_row.mono (by decide)) hr rfl (passR (takes_of rfl rfl rfl rfl)) (pa_cons (pv 1) (pa_cons (pe_df (D_l_mr_text.mono (by decide)) hr rfl pass0 (pa_cons (pv 2) pa_nil)) pa_nil))) (pa_cons (pe_df (D_l_mk_plain.mono (by decide)) hr rfl pass0 (pa_cons (pv 2) pa_nil)) pa_nil))))))))
      (pss_one (ps_ret (pe_bl))) (pss_nil))
      (pss_cons (ps_for (passes_of rfl) rfl (pi_list (pe_lst (pa_cons (pe_df (D_l_mr_near_text.mono (by decide)) hr rfl pass0 (pa_cons (pv 0) (pa_cons (pv 3) pa_nil))) (pa_cons (pe_op op_add_str (pe_op op_repS (pe_str) (pe_int)) (pe_op op_repS (pe_str) (pe_df (D_l_draw.mono (by decide)) hr rfl pass0 (pa_cons (pv 0) (pa_cons (pe_int) pa_nil))))) (pa_cons (pe_str) (pa_cons (pe_op op_repS (pe_str) (pe_df (D_l_draw.mono (by decide)) hr rfl pass0 (pa_cons (pv 0) (pa_cons (pe_int) pa_nil)))) pa_nil)))))) (pg_name (i := 6) nd rfl (Or.inr rfl))
      (pss_cons (ps_set (i := 4) nd rfl (Or.inl rfl) (pe_df (D_l_mr_read_row.mono (by decide)) hr rfl pass0 (pa_cons (pv 1) (pa_cons (pv 6) pa_nil))))
      (pss_one (ps_if (pt_val (pe_callB call_is (by rfl) B.isinstance boot_isinstance (pa_cons (pv 4) (pa_cons (pe_cls (n := "list") rfl B.list (by decide +kernel)) pa_nil))))
      (pss_one (ps_if (pt_not (pt_val (pe_df (D_l_mr_same.mono (by decide)) hr rfl pass0 (pa_cons (pe_df (D_read_row.mono (by decide)) hr rfl (passR (takes_of rfl rfl rfl rfl)) (pa_cons (pv 1) (pa_cons (pv 6) pa_nil))) (pa_cons (pe_df (D_l_mk_plain.mono (by decide)) hr rfl pass0 (pa_cons (pv 4) pa_nil)) pa_nil)))))
      (pss_one (ps_ret (pe_bl))) (pss_nil))) (pss_cons (ps_set (i := 5) nd rfl (Or.inl rfl) (pe_caught (k := 8) FC EF.gS rfl TB rfl hM hU (hr.mono (by decide)) (fun _ _ _ _ _ _ _ hr2 => pe_df (D_read_row.mono (by decide)) hr2 rfl (passR (takes_of rfl rfl rfl rfl)) (pa_cons (pv 1) (pa_cons (pv 6) pa_nil)))))
      (pss_one (ps_if (PW.pt (pw_or (pt_not (pt_val (pe_callB call_isA (by rfl) B.isinstance boot_isinstance (pa_cons (pv 5) (pa_cons (pe_glob (v := .ref CT) rfl EF.gT rfl) pa_nil))))) (pw_or (pt_cmpR op_ne (pe_xv (pv 5)) (pv 4) (nomark _)) (pw_or1 (pt_not (pt_val (pe_df (D_l_mr_whole.mono (by decide)) hr rfl pass0 (pa_cons (pe_xv (pv 5)) pa_nil))))))))
      (pss_one (ps_ret (pe_bl))) (pss_nil))))))))
      (pss_one (ps_ret (pe_bl)))))))), ?_⟩
    refine ⟨_, rfl, _, rfl, spLRow_i (k := k + 100) (by omega) (by omega) hd fun xs v H1 kp1 ds1 r1 lx hl => ?_⟩
    have hT1 := tabs_kp hT hd kp1
    refine ⟨_, rfl, _, rfl, rfl, spRowText_i (.int _) r1.dv (fun e => absurd e (between_ok h1 h4)) fun n' en _ _ => ?_⟩
    obtain rfl : (n : Int) = n' := Dt.int.inj en
    have lp : Lets n (plain xs) := fun x hx => lx x (plain_mem hx)
    have pl := plain_len xs
    refine ⟨(fun rf => by rw [rowD_of lx (by omega)] at rf; cases rf), fun xs' rt ed H2 s2 => ?_⟩
    obtain rfl := map_int_inj ed
    have rr2 := r1.same s2
    have lt : ∀ x ∈ plain xs, x ≠ 0 ∧ -4 ≤ x ∧ x ≤ 4 := fun x hx => by have := lp x hx; omega
    refine gName_i (nx_i ?_)
    refine seqIfF (fun H' => Same H2 H') (fun R r => ⟨_, rfl, isi_dv (.str _) (kit_str _) ⟨_, rfl, iteF ⟨_, rfl, _, rfl, spPlain_row rr2 (by omega) fun v3 H3 s3 r3 => spText_i r3 lt (by omega) fun H4 s4 => neS ⟨_, rfl, r _ (s3.trans s4)⟩⟩⟩⟩) fun H3 s3 => ?_
    have rr3 := rr2.same s3
    have wl : (textC (plain xs)).length ≤ 101 := by have := textC_len (plain xs); omega
    refine seqIfF (fun H' => Same H3 H') (fun R r => ⟨_, rfl, _, rfl, rfl, readRow_use h1 h4 (by omega) (row_written h4 lp (by omega)) fun v4 H4 s4 r4 => ⟨_, rfl, spPlain_row (rr3.same s4) (by omega) fun v5 H5 s5 r5 => spSame_i (r4.same s5) r5 (by have := plain_len (plain xs); omega) fun H6 s6 => ⟨_, rfl, by rw [plain_plain, decide_eq_true rfl]; exact r _ ((s4.trans s5).trans s6)⟩⟩⟩) fun H4 s4 => ?_
    have s24 := s3.trans s4
    have rr4 := rr3.same s4
    refine seqIfF (fun H' => Same H4 H') (fun R r => ?_) fun H5 s5 => ?_
    · refine ⟨_, rfl, Nat.zero_le _, fun p hp => ?_⟩
      have s5 : Same H4 (upd H4 p (.tup [])) := Same.new hp
      refine neD_int (t := true) (xs := xs) (ys := []) (rr4.same s5).intD (.tup (.inl (.inl upd_same))) ⟨_, rfl, ?_⟩
      refine ite_of (fun h => ?_) (fun h => r _ s5)
      have h : xs ≠ [] := by simpa using h
      refine ⟨_, rfl, _, rfl, spText_i (rr4.same s5) (fun x hx => by have := lx x hx; omega) (by omega) fun H6 s6 => ?_⟩
      refine readRow_use h1 h4 (by have := textC_len xs; omega) (row_written h4 lx (by omega)) fun v7 H7 s7 r7 => ⟨_, rfl, spPlain_row (rr4.same ((s5.trans s6).trans s7)) (by omega) fun v8 H8 s8 r8 => spSame_i (r7.same s8) r8 (by omega) fun H9 s9 => ⟨_, rfl, ?_⟩⟩
      rw [decide_eq_true rfl]
      exact r _ ((((s5.trans s6).trans s7).trans s8).trans s9)
    have s15 := (s2.trans s24).trans s5
    have ds5 := ds1.same s15
    refine ⟨_, rfl, _, rfl, spNearText_i (k := k + 80) (by omega) (ds5.le (by omega)) fun m H6 kp6 ds6 hN => ?_⟩
    have ml := hN.len
    refine tCons_i (tOp_i (tOp_i (tC_i (tC_i ?_))))
    refine repS_i str_aAa (by omega) (by omega) (by decide) ?_
    refine ⟨_, rfl, spDraw_i (k := k + 70) (by omega) (by omega) (ds6.le (by omega)) fun d5 H7 d50 d51 kp7 ds7 => ?_⟩
    refine repS_i str_1a d50 (by omega) (by decide) ?_
    refine ⟨_, _, rfl, rfl, by rw [S_len, S_len, rep_flat, rep_flat, PySem.sizeLine_eq]; simp; omega, ?_⟩
    rw [S_cat, str_empty]
    refine tCons_i (tC_i (tCons_i (tOp_i (tC_i ?_))))
    refine ⟨_, rfl, spDraw_i (k := k + 60) (by omega) (by omega) (ds7.le (by omega)) fun d8 H8 d80 d81 kp8 ds8 => ?_⟩
    refine repS_i str_one d80 (by omega) (by decide) ?_
    have lt2 : ((List.replicate (Int.toNat 66) [97, 65, 97]).flatten ++ (List.replicate d5.toNat [97]).flatten).length < 1000 := by
      rw [List.length_append, rep_flat, rep_flat]
      simp
      omega
    have lt4 : ((List.replicate d8.toNat [49]).flatten).length < 1000 := by
      rw [rep_flat]
      simp
      omega
    generalize (List.replicate (Int.toNat 66) [97, 65, 97]).flatten ++ (List.replicate d5.toNat [97]).flatten = l2 at lt2
    generalize (List.replicate d8.toNat [49]).flatten = l4 at lt4
    refine ⟨by rw [PySem.sizeLine_eq]; simp, fun L hL => ⟨L, rfl, ⟨_, SqL.of upd_same⟩, ?_⟩⟩
    have s9 : Same H8 (upd H8 L (.lst [.str (S m), .str (S l2), .str (S []), .str (S l4)])) := Same.new hL
    have ds9 := ds8.same s9
    have kp59 := ((kp6.trans kp7).trans kp8).trans (Kp.of s9)
    have hT9 : Tabs T (upd H8 L (.lst [.str (S m), .str (S l2), .str (S []), .str (S l4)])) := tabs_kp (tabs_same hT1 s15) ds5 kp59
    have kpt := ((KpT.of kp1).trans (KpT.ofS s15)).trans (KpT.of kp59)
    have oL := ds8.off hL
    have eL : upd H8 L (.lst [.str (S m), .str (S l2), .str (S []), .str (S l4)]) L = some (.lst [.str (S m), .str (S l2), .str (S []), .str (S l4)]) := upd_same
    generalize upd H8 L (.lst [.str (S m), .str (S l2), .str (S []), .str (S l4)]) = H9 at ds9 hT9 kpt eL ⊢
    refine for_lst (fun i σ H' => ∃ x4 x5 x6 : Option V, σ = [some (.ref u.s), some (.int n), some v, some (.str (S (textC (plain xs)))), x4, x5, x6] ∧ H' L = some (.lst [.str (S m), .str (S l2), .str (S []), .str (S l4)]) ∧ Dst H' u k ∧ Tabs T H' ∧ KpT u H H') (fun i σ H' h => by obtain ⟨_, _, _, _, h, _⟩ := h; exact SqL.of h) ⟨_, _, _, rfl, eL, ds9.le (by omega), hT9, kpt⟩ ?_ ?_
    · rintro i σ H10 hi ⟨x4, x5, x6, rfl, eL10, ds10, hT10, kpt10⟩
      obtain ⟨l, el, ll⟩ : ∃ l, ([.str (S m), .str (S l2), .str (S []), .str (S l4)] : List V).getD i .non = .str (S l) ∧ l.length < 100000 := by
        have hi : i < 4 := hi
        match i, hi with
        | 0, _ => exact ⟨m, rfl, by omega⟩
        | 1, _ => exact ⟨l2, rfl, by omega⟩
        | 2, _ => exact ⟨[], rfl, by decide⟩
        | 3, _ => exact ⟨l4, rfl, by omega⟩
      rw [el]
      refine gName_i ?_
      refine seqAsg ⟨_, rfl, _, rfl, spLRead_i h4 (by omega) (fun kk ek H11 s11 => ?_) (fun ys ey p H11 s11 hp e11 => ?_)⟩
      · refine tIf_to (fun H' => Same H11 H') false (fun R r => ⟨_, rfl, isi_dv (.int _) (kit_list _) ⟨_, rfl, r _ (Same.refl _)⟩⟩) fun H12 s12 => iteF ?_
        have s112 := s11.trans s12
        refine seqAsg ⟨tabs_same hT10 s112, fun H13 e13 T13 => caught_i ⟨_, rfl, _, rfl, readRow_err h1 h4 (by omega) ek fun d H14 s14 hd h14 => ⟨EF.mT, fun a ha => ?_⟩⟩⟩
        have eh : ErrH (upd H14 a (XO (.ref CT) (some d) a)) a CT kk := ErrH.new h14 ha
        have s15 : Same H14 (upd H14 a (XO (.ref CT) (some d) a)) := Same.new ha
        have e1015 : ExtN H10 (upd H14 a (XO (.ref CT) (some d) a)) := ((extS s112).trans e13).trans (extS (s14.trans s15))
        have T15 := tabs_same (tabs_same T13 s14) s15
        have d15 := ds10.ext e1015
        have l15 := e1015 _ _ eL10 (fun _ z => by cases z)
        have k15 := kpt10.trans (KpT.ofE e1015)
        generalize upd H14 a (XO (.ref CT) (some d) a) = H15 at eh T15 d15 l15 k15
        refine gName_i ?_
        refine ifF (fun H' => Same H15 H') (fun R r => ⟨_, rfl, isA_T eh EF.eT EF.kTT ⟨_, rfl, iteF (tOr_i (tTest_i (tOp_i (xvar_i rfl eh EF.xT EF.aT ⟨_, rfl, neI ⟨_, rfl, iteF (tNot_i (tB_i (xvar_i rfl eh EF.xT EF.aT (spWhole_i (.int _) ⟨_, rfl, r _ (Same.refl _)⟩))))⟩⟩))))⟩⟩) fun H16 s16 => ?_
        · exact ⟨_, _, _, rfl, s16 _ _ l15, d15.same s16, tabs_same T15 s16, k15.trans (KpT.ofS s16)⟩
      · refine tIf_to (fun H' => Same H11 H') true (fun R r => ⟨_, rfl, isi_dv (.lst e11 (dvs_iV ys)) (kit_list _) ⟨_, rfl, r _ (Same.refl _)⟩⟩) fun H12 s12 => iteT ?_
        have yl : ys.length ≤ 200 := (ok_len ey).1
        refine ifF (fun H' => Same H12 H') (fun R r => ⟨_, rfl, _, rfl, readRow_use h1 h4 (by omega) ey fun v13 H13 s13 r13 => ⟨_, rfl, spPlain_i (.inl (SqL.of (s13 _ _ (s12 _ _ e11)))) (by omega) fun v14 H14 s14 r14 => spSame_i (r13.same s14) r14 (by have := plain_len ys; omega) fun H15 s15 => ⟨_, rfl, ?_⟩⟩⟩) fun H13 s13 => ?_
        · rw [decide_eq_true rfl]
          exact r _ ((s13.trans s14).trans s15)
        · have s1013 := (s11.trans s12).trans s13
          exact ⟨_, _, _, rfl, s1013 _ _ eL10, ds10.same s1013, tabs_same hT10 s1013, kpt10.trans (KpT.ofS s1013)⟩
    · rintro σ H10 ⟨x4, x5, x6, rfl, eL10, ds10, hT10, kpt10⟩
      exact q H10 kpt10 ds10 hT10
end
end My
namespace My
open PySem PySem.Spec PyProof.Rows L2 SX LamX
section
variable {K : PySem.W.Frag}
theorem readRen_use {CD CT CN : Addr} {n : Nat} {l : List Nat} {yss : List (List Int)} {H : Hp} {Q : VK} {E : XK} (h1 : 1 ≤ n) (h4 : n ≤ 4) (hl : l.length < 1000000) (e : readImages n l = .ok yss) (g : GoodG n yss)
    (q : ∀ steps last, Down yss steps last → (renLast n last = false → ∀ H', Same H H' → E (.ref CN) none H') ∧ (renLast n last = true → ∀ (t : Addr) (vs : List V) H', Same H H' → H' t = some (.tup vs) → Rws H' vs yss → Q (.ref t) H')) : spReadRen K CD CT CN [.int n, .str (S l)] H Q E :=
  spReadRen_i (.int _) (.str _) (fun e => absurd e (between_ok h1 h4)) fun n' en _ _ => by
    have en : n = n' := by have := Dt.int.inj en; omega
    subst en
    refine ⟨fun h => absurd rfl (h _), fun l' el => ?_⟩
    obtain rfl := S_inj (Dt.str.inj el)
    refine ⟨hl, fun k ek => (by rw [e] at ek; cases ek), fun xss ex => ?_⟩
    rw [e] at ex
    cases ex
    exact ⟨GoodG n, mu, good_falls n, g, q⟩
theorem readRen_err {CD CT CN : Addr} {n : Nat} {l : List Nat} {k : Nat} {H : Hp} {Q : VK} {E : XK} (h1 : 1 ≤ n) (h4 : n ≤ 4) (hl : l.length < 1000000) (e : readImages n l = .error k) (er : ErrAt H E CT k) : spReadRen K CD CT CN [.int n, .str (S l)] H Q E :=
  spReadRen_i (.int _) (.str _) (fun e => absurd e (between_ok h1 h4)) fun n' en _ _ => by
    have en : n = n' := by have := Dt.int.inj en; omega
    subst en
    refine ⟨fun h => absurd rfl (h _), fun l' el => ?_⟩
    obtain rfl := S_inj (Dt.str.inj el)
    refine ⟨hl, fun k' ek => ?_, fun xs ex => by rw [e] at ex; cases ex⟩
    rw [e] at ek
    cases ek
    exact er
end
theorem tSl_i {r : V → Option Int → Option Int → Hp → VK → Prop} {te : TE} {tl th : TO} {σ : L2.St} {H : Hp} {Q : VK} (h : te σ H fun x H1 => tl σ H1 fun l H2 => th σ H2 fun u H3 => r x l u H3 Q) : L2.tSl r te tl th σ H Q := h
theorem tPart_i {t : TE} {σ : L2.St} {H : Hp} {Q : Option Int → Hp → Prop} (h : t σ H fun x H1 => ∃ i, x = .int i ∧ Q (some i) H1) : tPart t σ H Q := h
theorem tRet_i {te : TE} {D : Ends} {σ : L2.St} {H : Hp} (h : te σ H D.rt) : tRet te D σ H := h
theorem tCB_i {r : List V → Hp → VK → Prop} {ta : TA} {σ : L2.St} {H : Hp} {Q : VK} (h : ta σ H fun vs H1 => r vs H1 Q) : tCB r ta σ H Q := h
theorem tNil_i {σ : L2.St} {H : Hp} {Q : List V → Hp → Prop} (h : Q [] H) : tNil σ H Q := h
/-- the reading of a renaming, caught: read, or no renaming -/
theorem caught_ren_ok {K : PySem.W.Frag} {mg : Str → Option Value} {CD CR CN CT CS : Addr} {T : List (Addr × Str)} {n : Nat} {l : List Nat} {yss : List (List Int)} {ta tb : TE} {σ : L2.St} {H : Hp} {Q : VK} (EF : EFacts K mg CD CR CN CT CS) (h1 : 1 ≤ n) (h4 : n ≤ 4) (hl : l.length < 1000000) (e : readImages n l = .ok yss) (g : GoodG n yss) (hT : Tabs T H)
    (ha : ∀ H Q, Q (.int n) H → ta σ H Q) (hb : ∀ H Q, Q (.str (S l)) H → tb σ H Q)
    (q : ∀ fv Hx steps last, Down yss steps last → ExtN H Hx → Tabs T Hx → ((fv = .non ∧ renLast n last = true) ∨ ∃ a, fv = .ref a ∧ ErrP Hx a CN ∧ renLast n last = false) → Q fv Hx) :
    tLam T (TTcaught K CS) (fun E => tCall (spReadRen K CD CT CN) [] E (tCons ta (tCons tb tNil))) σ H Q := by
  refine ⟨hT, fun H1 e1 T1 => caught_i ?_⟩
  show tCons ta (tCons tb tNil) σ H1 _
  refine tCons_i (ha _ _ (tCons_i (hb _ _ (tNil_i ?_))))
  refine readRen_use h1 h4 hl e g fun steps last dn => ⟨fun rf H2 s2 => ⟨EF.mN, fun a ha => ?_⟩, fun rt t vs H2 s2 _ _ => ⟨.non, rfl, ?_⟩⟩
  · have s3 : Same H2 (upd H2 a (XO (.ref CN) none a)) := Same.new ha
    exact q _ _ steps last dn (e1.trans (extS (s2.trans s3))) (tabs_same T1 (s2.trans s3)) (.inr ⟨a, rfl, upd_same, rf⟩)
  · exact q _ _ steps last dn (e1.trans (extS s2)) (tabs_same T1 s2) (.inl ⟨rfl, rt⟩)
theorem caught_ren_err {K : PySem.W.Frag} {mg : Str → Option Value} {CD CR CN CT CS : Addr} {T : List (Addr × Str)} {n : Nat} {l : List Nat} {k : Nat} {ta tb : TE} {σ : L2.St} {H : Hp} {Q : VK} (EF : EFacts K mg CD CR CN CT CS) (h1 : 1 ≤ n) (h4 : n ≤ 4) (hl : l.length < 1000000) (e : readImages n l = .error k) (hT : Tabs T H)
    (ha : ∀ H Q, Q (.int n) H → ta σ H Q) (hb : ∀ H Q, Q (.str (S l)) H → tb σ H Q) (q : ∀ a Hx, ExtN H Hx → Tabs T Hx → ErrH Hx a CT k → Q (.ref a) Hx) :
    tLam T (TTcaught K CS) (fun E => tCall (spReadRen K CD CT CN) [] E (tCons ta (tCons tb tNil))) σ H Q := by
  refine ⟨hT, fun H1 e1 T1 => caught_i ?_⟩
  show tCons ta (tCons tb tNil) σ H1 _
  refine tCons_i (ha _ _ (tCons_i (hb _ _ (tNil_i ?_))))
  refine readRen_err h1 h4 hl e fun d H2 s2 hd h2 => ⟨EF.mT, fun a ha => ?_⟩
  have s3 : Same H2 (upd H2 a (XO (.ref CT) (some d) a)) := Same.new ha
  exact q _ _ (e1.trans (extS (s2.trans s3))) (tabs_same T1 (s2.trans s3)) (ErrH.new h2 ha)
theorem spLImgs_i {n : Nat} {l : List Nat} {H : Hp} {Q : VK} {E : XK} (h1 : 1 ≤ n) (h4 : n ≤ 4) (hl : l.length < 150) (q1 : ∀ k, mImages n l = .error k → ∀ H', Same H H' → Q (.int k) H')
    (q2 : ∀ found, mImages n l = .ok found → (∀ t ∈ found, ∃ xs, readRow n t = .ok xs) ∧ ∀ p vs' xss H', Same H H' → H p = none → H' p = some (.lst vs') → xss = found.map (fun t => (readRow n t).toOption.getD []) → LstsAt p H' vs' xss → Q (.ref p) H') : spLImgs [.int n, .str (S l)] H Q E := by
  unfold spLImgs
  exact ⟨n, l, rfl, h1, h4, hl, q1, q2⟩
/-- what is found is no longer than what was read -/
theorem tot_snoc (f : List (List Nat)) (w : List Nat) : tot (f ++ [w]) = tot f + w.length := by
  unfold tot
  simp
theorem tot_set : ∀ (f : List (List Nat)) (i : Nat) (v : List Nat), tot (f.set i v) ≤ tot f + (v.length - (f.getD i []).length)
  | [], _, _ => Nat.zero_le _
  | w :: f, 0, v => by
    rw [List.set_cons_zero, tot_cons, tot_cons]
    show _ ≤ _ + (v.length - w.length)
    omega
  | w :: f, i + 1, v => by
    have := tot_set f i v
    rw [List.set_cons_succ, tot_cons, tot_cons]
    show _ ≤ _ + (v.length - (f.getD i []).length)
    omega
theorem mStep_tot {n L : Nat} {m m' : Ms} {c : Nat} (e : mStep n L m c = .ok m') : tot m'.found ≤ tot m.found + 1 := by
  obtain ⟨found, want, at'⟩ := m
  cases want with
  | cons x r =>
    have e : (if c = x then Except.ok (⟨if r = [] then found ++ [[]] else found, r, at' + 1⟩ : Ms) else .error at') = .ok m' := e
    split at e
    · cases e
      show tot (if r = [] then found ++ [[]] else found) ≤ tot found + 1
      split
      · rw [tot_snoc]
        simp
      · omega
    · cases e
  | nil =>
    rw [mStep] at e
    simp only at e
    split at e
    · cases e
      have := tot_set found (found.length - 1) (found.getD (found.length - 1) [] ++ [c])
      rw [List.length_append, List.length_singleton, Nat.add_sub_cancel_left] at this
      exact this
    · split at e
      · cases e
        exact Nat.le_succ _
      · split at e
        · cases e
        · cases e
          exact Nat.le_succ _
theorem mRun_tot {n L : Nat} : ∀ {l : List Nat} {m m' : Ms}, mRun n L m l = .ok m' → tot m'.found ≤ tot m.found + l.length
  | [], m, m', e => by
    rw [mRun] at e
    cases e
    exact Nat.le_refl _
  | d :: r, m, m', e => by
    rw [mRun] at e
    split at e
    · cases e
    · rename_i m2 h
      have h1 := mRun_tot e
      have h2 := mStep_tot h
      rw [List.length_cons]
      omega
theorem tot_mem : ∀ {f : List (List Nat)} {t : List Nat}, t ∈ f → t.length ≤ tot f
  | w :: f, t, h => by
    rw [tot_cons]
    rcases List.mem_cons.mp h with rfl | h
    · omega
    · have := tot_mem h
      omega
theorem mImages_len {n : Nat} {l : List Nat} {found : List (List Nat)} (e : mImages n l = .ok found) : ∀ t ∈ found, t.length ≤ l.length + 1 := by
  unfold mImages at e
  split at e
  · cases e
  · rename_i m h
    cases e
    have := mRun_tot h
    intro t ht
    have h2 := tot_mem ht
    rw [List.length_append] at this
    have h3 : tot ([] : List (List Nat)) = 0 := rfl
    simp only [List.length_singleton] at this
    have this : tot m.found ≤ tot ([] : List (List Nat)) + (l.length + 1) := this
    omega
theorem lsts_dv {H : Hp} : ∀ {vs : List V} {xss : List (List Int)}, vs.length = xss.length → (∀ (k : Nat) (v : V), vs[k]? = some v → ∃ p, v = .ref p ∧ H p = some (.lst (iV (xss.getD k [])))) → DVs H vs (xss.map fun xs => Dt.lst (xs.map Dt.int))
  | [], [], _, _ => .nil
  | [], _ :: _, h, _ => by simp at h
  | _ :: _, [], h, _ => by simp at h
  | v :: vs, xs :: xss, h, g => by
    obtain ⟨p, rfl, hp⟩ := g 0 v rfl
    exact .cons (.lst hp (dvs_iV xs)) (lsts_dv (by simpa using h) fun k w hk => g (k + 1) w (by simpa using hk))
theorem drawn_rows {n m : Nat} {xss : List (List Int)} (d : Drawn n m xss) : GoodRows n xss := fun xs hx => ⟨(d.ok xs hx).1, drawn_plain d xs hx⟩
theorem renText_use {CD CN : Addr} {n m : Nat} {xss : List (List Int)} {t : Addr} {ws : List V} {H : Hp} {Q : VK} {E : XK} (h1 : 1 ≤ n) (h4 : n ≤ 4) (hm : m ≤ 4) (d : Drawn n m xss) (ht : H t = some (.tup ws)) (hr : Rws H ws xss) (q : ∀ H', Same H H' → Q (.str (S (imgsText xss))) H') : spRenText CD CN [.int n, .ref t] H Q E := by
  refine spRenText_i (d := rowsD xss) (.int _) (.tup ht (dvs_rows hr)) (fun e => absurd e (between_ok h1 h4)) (fun ds ed e he => ?_) fun n' en _ _ => ?_
  · obtain rfl : xss.map rowD' = ds := Dt.tup.inj ed
    obtain ⟨xs, hx, rfl⟩ := List.mem_map.mp he
    show (xs.map Dt.int).length < 1000000
    have := ((drawn_good h4 hm d).row xs hx).2.2
    rw [List.length_map]
    omega
  · have en : n = n' := by have := Dt.int.inj en; omega
    subst en
    have pt := rowsD_plain (drawn_rows d) d.len
    refine ⟨(fun pf => by rw [pt] at pf; cases pf), fun yss _ ey => ?_⟩
    obtain rfl := rowsD_inj ey
    exact ⟨GoodG n, mu, good_falls n, drawn_good h4 hm d, fun steps last dn => ⟨fun rf => (by rw [drawn_last d dn] at rf; cases rf), fun _ => q⟩⟩
theorem plain_all {n m : Nat} {xss : List (List Int)} (d : Drawn n m xss) : xss.map plain = xss := by
  have : xss.map plain = xss.map id := List.map_congr_left fun xs hx => plain_id (drawn_plain d xs hx)
  rw [this, List.map_id]
theorem drawn_text {n m : Nat} {xss : List (List Int)} (h1 : 1 ≤ n) (h4 : n ≤ 4) (hm : m ≤ 4) (d : Drawn n m xss) : (imgsText xss).length ≤ 26 := by
  have h := segs_tot (ws := xss.map textC) (us := List.replicate n [49]) (d := 1) (by rw [List.length_map, List.length_replicate]; exact d.len)
  have e2 : tot (xss.map textC) ≤ 11 + n := d.total h4 hm
  have e3 : ∀ n, 1 ≤ n → n ≤ 4 → (segs 1 (List.replicate n [49])).length ≤ 15 ∧ tot (List.replicate n [49]) = n := by
    intro n h1 h4
    match n, h1, h4 with
    | 1, _, _ => decide +kernel
    | 2, _, _ => decide +kernel
    | 3, _, _ => decide +kernel
    | 4, _, _ => decide +kernel
  have := e3 n h1 h4
  rw [imgs_segs]
  omega
theorem segs_le : ∀ (ws : List (List Nat)) (d : Nat), (segs d ws).length ≤ 3 * ws.length + tot ws
  | [], _ => Nat.zero_le _
  | w :: ws, d => by
    have h := segs_le ws (d + 1)
    have h2 : (dHead d).length ≤ 3 := by
      unfold dHead
      split <;> simp
    rw [segs, tot_cons]
    simp only [List.length_append, List.length_cons]
    omega
theorem texts_le : ∀ {rss : List (List Int)}, (∀ rs ∈ rss, rs.length ≤ 30) → tot (rss.map textC) ≤ 31 * rss.length
  | [], _ => Nat.zero_le _
  | r :: rss, h => by
    have h1 := texts_le (rss := rss) fun rs hr => h rs (List.mem_cons_of_mem _ hr)
    have h2 := h r (by simp)
    have h3 := textC_len r
    rw [List.map_cons, tot_cons, List.length_cons]
    omega
def flatL : List Nat := [97, 61, 97, 32, 98, 61, 97, 32, 99, 61, 97, 32, 100, 61, 97, 32, 97, 61, 97]
theorem str_flat : (PySem.Str.ofString "a=a b=a c=a d=a a=a") = S flatL := by decide +kernel
theorem str_flat1 : (PySem.Str.ofString "a=aa") = S (imgsText (flatR 1)) := by decide +kernel
theorem flat_take {n : Nat} (h1 : 1 < n) (h4 : n ≤ 4) : flatL.take (4 * n - 1) = imgsText (flatR n) := by
  match n, h1, h4 with
  | 2, _, _ => decide +kernel
  | 3, _, _ => decide +kernel
  | 4, _, _ => decide +kernel
theorem flat_read {n : Nat} (h1 : 1 ≤ n) (h4 : n ≤ 4) : readImages n (imgsText (flatR n)) = .ok (flatR n) := by
  have g := flat_good h1 h4
  rw [read_written h4 g.len fun xs hx => (g.row xs hx).1]
  congr 1
  have : (flatR n).map plain = (flatR n).map id := List.map_congr_left fun xs hx => plain_id (g.row xs hx).2.1
  rw [this, List.map_id]
/-- what the law's reading of images tells, as rows -/
theorem read_due {n : Nat} (hn : n ≤ 4) {t : List Nat} {xs : List Int} (h : readRow n t = .ok xs) (hw : Whole n t) (hl : t.length ≤ 200) : plain ((readRow n t).toOption.getD []) = rd n t := by
  rw [whole_read hn hw hl]
  show plain (if t = [49] then [] else t.map (letterC n)) = _
  unfold rd
  split <;> rfl
section
variable {P : Program} {w : World} {K : PySem.W.Frag} {mg : Str → Option Value} {base : Heap}
@[irreducible] def spRenTexts (T : List (Addr × Str)) : Sp := fun vs H Q _ => ∃ (u : Sd) (k n : Nat), vs = [.ref u.s, .int n] ∧ 1 ≤ n ∧ n ≤ 4 ∧ Dst H u (k + 500) ∧ Tabs T H ∧ ∀ H', KpT u H H' → Dst H' u k → Tabs T H' → Q (.bl true) H'
theorem spRenTexts_i {T : List (Addr × Str)} {H : Hp} {u : Sd} {k n : Nat} {Q : VK} {E : XK} (h1 : 1 ≤ n) (h4 : n ≤ 4) (h : Dst H u (k + 500)) (hT : Tabs T H) (q : ∀ H', KpT u H H' → Dst H' u k → Tabs T H' → Q (.bl true) H') : spRenTexts T [.ref u.s, .int n] H Q E := by
  unfold spRenTexts
  exact ⟨u, k, n, rfl, h1, h4, h, hT, q⟩
theorem ok_ren_texts {CD CR CN CT CS c P2 : Addr} {T : List (Addr × Str)} (B : Bt mg) (EF : EFacts K mg CD CR CN CT CS) (F : Fdc K mg "_law_mr_renaming_texts" s_l_mr_renaming_texts c) (FC : Fd K mg "_law_caught" s_l_caught) (TB : TabB base mg c P2) (hM : (P2, lamQ "_law_mr_renaming_texts") ∈ T) (hU : ∀ p ∈ T, p.1 = P2 → p.2 = lamQ "_law_mr_renaming_texts")
    (F_ren_text : Fd K mg "renaming_text" s_renaming_text) (F_read_ren : Fd K mg "read_renaming" s_read_renaming) (D_ren_text : Df P w K mg base (L2.CX P w) 8 "renaming_text" ["deeds", "renaming"] (spRenText CD CN)) (D_read_ren : Df P w K mg base (L2.CX P w) 8 "read_renaming" ["deeds", "text"] (spReadRen K CD CT CN))
    (D_l_mk_renaming : Df P w K mg base CX0 3 "_law_mk_renaming" ["_law_state", "_law_deeds", "_law_steps"] spMkRen) (D_l_draw : Df P w K mg base CX0 2 "_law_draw" ["_law_state", "_law_room"] spDraw) (D_l_mr_images_text : Df P w K mg base CX0 2 "_law_mr_images_text" ["_law_images"] (spImgsText K)) (D_l_mr_same : Df P w K mg base CX0 2 "_law_mr_same" ["_law_found", "_law_due"] spSame)
    (D_l_mk_raw : Df P w K mg base CX0 4 "_law_mk_raw" ["_law_state", "_law_deeds", "_law_row"] spRaw) (D_l_mr_near_text : Df P w K mg base CX0 4 "_law_mr_near_text" ["_law_state", "_law_text"] spNearText) (D_l_mr_read_images : Df P w K mg base CX0 3 "_law_mr_read_images" ["_law_deeds", "_law_text"] spLImgs) (D_l_mk_plain : Df P w K mg base CX0 1 "_law_mk_plain" ["_law_letters"] (spPlain K)) :
    Df P w K mg base (L2.CX P w) 12 "_law_mr_renaming_texts" ["_law_state", "_law_deeds"] (spRenTexts T) := by
  refine .mkC F sc_l_mr_renaming_texts (fun _ _ _ _ _ _ us hl => match us, hl with | [_, _], _ => rfl) (fun vs H Q E h => ?_) (fun f A outer s H vs Q E hr h => ?_)
  · unfold spRenTexts at h
    obtain ⟨u, k, n, rfl, _⟩ := h
    rfl
  · unfold spRenTexts at h
    obtain ⟨u, k, n, rfl, h1, h4, hd, hT, q⟩ := h
    have nd := sc_l_mr_renaming_texts.nd
    refine ⟨_, pss_cons (ps_set (i := 2) nd rfl (Or.inl rfl) (pe_callTy call_tuple_of (by rfl) B.tuple (by decide +kernel) (pa_cons (pe_ix ix_tup (pe_df (D_l_mk_renaming.mono (by decide)) hr rfl pass0 (pa_cons (pv 0) (pa_cons (pv 1) (pa_cons (pe_df (D_l_draw.mono (by decide)) hr rfl pass0 (pa_cons (pv 0) (pa_cons (pe_int) pa_nil))) pa_nil)))) (pe_int) (fun _ _ => rfl)) pa_nil)))
      (pss_cons (ps_set (i := 3) nd rfl (Or.inl rfl) (pe_dfK D_ren_text F_ren_text (fun _ _ _ _ _ _ ws hl => match ws, hl with | [_, _], _ => rfl) (hr.mono (by decide)) rfl (passR (takes_of rfl rfl rfl rfl)) (pk_cons (pv 1) (pk_cons (pv 2) pk_nil))))
      (pss_cons (ps_if (PW.pt (pw_or (pt_not (pt_val (pe_callB call_is (by rfl) B.isinstance boot_isinstance (pa_cons (pv 3) (pa_cons (pe_cls (n := "str") rfl B.str (by decide +kernel)) pa_nil))))) (pw_or1 (pt_cmpR op_ne (pv 3) (pe_df (D_l_mr_images_text.mono (by decide)) hr rfl pass0 (pa_cons (pv 2) pa_nil)) (nomark _)))))
      (pss_one (ps_ret (pe_bl))) (pss_nil))
      (pss_cons (ps_set (i := 4) nd rfl (Or.inl rfl) (pe_dfK D_read_ren F_read_ren (fun _ _ _ _ _ _ ws hl => match ws, hl with | [_, _], _ => rfl) (hr.mono (by decide)) rfl (passR (takes_of rfl rfl rfl rfl)) (pk_cons (pv 1) (pk_cons (pv 3) pk_nil))))
      (pss_cons (ps_if (PW.pt (pw_or (pt_cmpR (op_neD hr.units) (pv 4) (pv 2) (nomark _)) (pw_or (pt_not (pt_val (pe_callB call_is (by rfl) B.isinstance boot_isinstance (pa_cons (pv 4) (pa_cons (pe_cls (n := "tuple") rfl B.tuple (by decide +kernel)) pa_nil))))) (pw_or1 (pt_cmpR (op_neD hr.units) (pe_lc (own := [("_law_image", 11)]) (g := gName 11) rfl nd (pi_tup (pv 4)) (blkOk_by (own := [("_law_image", 11)]) (N := ["_law_state", "_law_deeds", "_law_images", "_law_text", "_law_back", "_law_raw", "_law_due", "_law_found", "_law_rows", "_law_flat", "_law_near", "_law_image"]) (sc := defScope s_l_mr_renaming_texts) (by decide +kernel))
        (fun _ _ _ _ _ => pg_name (i := 11) nd rfl (Or.inl rfl)) (fun _ _ _ _ _ => pts_one (pt_not (pt_val (pe_df (D_l_mr_same.mono (by decide)) hr rfl pass0 (pa_cons (pv 11) (pa_cons (pv 11) pa_nil)))))) (fun _ _ _ _ _ => pe_int)) (pe_lst pa_nil) (nomark _))))))
      (pss_one (ps_ret (pe_bl))) (pss_nil))
      (pss_cons (ps_setLc (i := 5) (own := [("_law_image", 11)]) (g := gName 11) rfl nd rfl rfl (sw_true rfl rfl rfl (by decide +kernel)) (pi_tup (pv 2)) (blkOk_by (own := [("_law_image", 11)]) (N := ["_law_state", "_law_deeds", "_law_images", "_law_text", "_law_back", "_law_raw", "_law_due", "_law_found", "_law_rows", "_law_flat", "_law_near", "_law_image"]) (sc := defScope s_l_mr_renaming_texts) (by decide +kernel))
        (fun _ _ _ _ _ => pg_name (i := 11) nd rfl (Or.inl rfl)) (fun _ _ _ _ _ => pts_nil) (fun _ _ _ _ _ => pe_df (D_l_mk_raw.mono (by decide)) hr rfl pass0 (pa_cons (pv 0) (pa_cons (pv 1) (pa_cons (pv 11) pa_nil)))))
      (pss_cons (ps_if (pt_cmpR (op_neD hr.units) (pe_df (D_read_ren.mono (by decide)) hr rfl (passR (takes_of rfl rfl rfl rfl)) (pa_cons (pv 1) (pa_cons (pe_df (D_l_mr_images_text.mono (by decide)) hr rfl pass0 (pa_cons (pv 5) pa_nil)) pa_nil))) (pv 2) (nomark _))
      (pss_one (ps_ret (pe_bl))) (pss_nil))
      (pss_cons (ps_set (i := 9) nd rfl (Or.inr rfl) (pe_slice sl_str (pe_str) po_none (po_some (pe_op op_sub (pe_op op_mul (pe_int) (pv 1)) (pe_int)))))
      (pss_cons (ps_for (passes_of rfl) rfl (pi_list (pe_lst (pa_cons (pe_df (D_l_mr_near_text.mono (by decide)) hr rfl pass0 (pa_cons (pv 0) (pa_cons (pv 3) pa_nil))) (pa_cons (pe_ifExp (pt_cmpR op_gt (pv 1) (pe_int) (nomark _)) (pv 9) (pe_str)) (pa_cons (pe_op op_add_str (pv 3) (pe_str)) (pa_cons (pe_slice sl_str (pv 3) po_none (po_some (pe_int))) (pa_cons (pe_str) pa_nil))))))) (pg_name (i := 10) nd rfl (Or.inr rfl))
      (pss_cons (ps_set (i := 6) nd rfl (Or.inl rfl) (pe_df (D_l_mr_read_images.mono (by decide)) hr rfl pass0 (pa_cons (pv 1) (pa_cons (pv 10) pa_nil))))
      (pss_cons (ps_set (i := 7) nd rfl (Or.inl rfl) (pe_caught (k := 8) FC EF.gS rfl TB rfl hM hU (hr.mono (by decide)) (fun _ _ _ _ _ _ _ hr2 => pe_df (D_read_ren.mono (by decide)) hr2 rfl (passR (takes_of rfl rfl rfl rfl)) (pa_cons (pv 1) (pa_cons (pv 10) pa_nil)))))
      (pss_one (ps_if (pt_val (pe_callB call_is (by rfl) B.isinstance boot_isinstance (pa_cons (pv 6) (pa_cons (pe_cls (n := "list") rfl B.list (by decide +kernel)) pa_nil))))
      (pss_cons (ps_set (i := 8) nd rfl (Or.inl rfl) (pe_callTy call_tuple_of (by rfl) B.tuple (by decide +kernel) (pa_cons (pe_lc (own := [("_law_image", 11)]) (g := gName 11) rfl nd (pi_list (pv 6)) (blkOk_by (own := [("_law_image", 11)]) (N := ["_law_state", "_law_deeds", "_law_images", "_law_text", "_law_back", "_law_raw", "_law_due", "_law_found", "_law_rows", "_law_flat", "_law_near", "_law_image"]) (sc := defScope s_l_mr_renaming_texts) (by decide +kernel))
        (fun _ _ _ _ _ => pg_name (i := 11) nd rfl (Or.inl rfl)) (fun _ _ _ _ _ => pts_nil) (fun _ _ _ _ _ => pe_df (D_l_mk_plain.mono (by decide)) hr rfl pass0 (pa_cons (pv 11) pa_nil))) pa_nil)))
      (pss_cons (ps_if (PW.pt (pw_or (pt_val (pe_callB call_isA (by rfl) B.isinstance boot_isinstance (pa_cons (pv 7) (pa_cons (pe_glob (v := .ref CT) rfl EF.gT rfl) pa_nil)))) (pw_or1 (PW.pt (pw_and (pt_cmpR op_isN (pv 7) (pe_non) (nomark _)) (pw_and1 (pt_cmpR (op_neD hr.units) (pe_df (D_read_ren.mono (by decide)) hr rfl (passR (takes_of rfl rfl rfl rfl)) (pa_cons (pv 1) (pa_cons (pv 10) pa_nil))) (pv 8) (nomark _))))))))
      (pss_one (ps_ret (pe_bl))) (pss_nil))
      (pss_one (ps_if (PW.pt (pw_and (pt_val (pe_callB call_isA (by rfl) B.isinstance boot_isinstance (pa_cons (pv 7) (pa_cons (pe_glob (v := .ref CN) rfl EF.gN rfl) pa_nil)))) (pw_and1 (pt_cmpR (op_eqD hr.units) (pv 8) (pv 2) (nomark _)))))
      (pss_one (ps_ret (pe_bl))) (pss_nil))))) (pss_one (ps_if (PW.pt (pw_or (pt_not (pt_val (pe_callB call_isA (by rfl) B.isinstance boot_isinstance (pa_cons (pv 7) (pa_cons (pe_glob (v := .ref CT) rfl EF.gT rfl) pa_nil))))) (pw_or1 (pt_cmpR op_ne (pe_xv (pv 7)) (pv 6) (nomark _)))))
      (pss_one (ps_ret (pe_bl))) (pss_nil))))))))
      (pss_one (ps_ret (pe_callB call_isA (by rfl) B.isinstance boot_isinstance (pa_cons (pe_caught (k := 8) FC EF.gS rfl TB rfl hM hU (hr.mono (by decide)) (fun _ _ _ _ _ _ _ hr2 => pe_df (D_read_ren.mono (by decide)) hr2 rfl (passR (takes_of rfl rfl rfl rfl)) (pa_cons (pv 1) (pa_cons (pe_ifExp (pt_cmpR op_gt (pv 1) (pe_int) (nomark _)) (pv 9) (pe_str)) pa_nil)))) (pa_cons (pe_glob (v := .ref CN) rfl EF.gN rfl) pa_nil))))))))))))), ?_⟩
    refine ⟨_, rfl, _, rfl, _, rfl, spDraw_i (k := k + 490) (by omega) (by omega) (hd.le (by omega)) fun d5 H1 d50 d51 kp1 ds1 => ?_⟩
    obtain ⟨m, rfl⟩ : ∃ m : Nat, d5 = m := ⟨d5.toNat, by omega⟩
    have hm : m ≤ 4 := by omega
    refine spMkRen_i (k := k + 460) h1 h4 hm (ds1.le (by omega)) fun t a b ws xss H2 kp2 ds2 et na1 na2 ea rws dr => ?_
    refine ⟨t, _, _, _, rfl, rfl, .inl (.inl et), atI_nat (j := 0) rfl, a, ws, rfl, .inl ⟨SqL.of ea, fun I hI => ?_⟩⟩
    have s3 : Same H2 (upd H2 I (.tup ws)) := Same.new hI
    have eI : upd H2 I (.tup ws) I = some (.tup ws) := upd_same
    have rI := rws.same s3
    have ds3 := ds2.same s3
    have kp3 := (kp1.trans kp2).trans (Kp.of s3)
    have hT3 := tabs_kp hT hd kp3
    generalize upd H2 I (.tup ws) = H3 at s3 eI rI ds3 kp3 hT3 ⊢
    refine ⟨_, rfl, _, rfl, rfl, renText_use h1 h4 hm dr eI rI fun H4 s4 => ?_⟩
    have good := drawn_good h4 hm dr
    have xl := dr.len
    have tl := drawn_text h1 h4 hm dr
    have lx : ∀ xs ∈ xss, Lets 4 xs ∧ xs.length < 1000000 := fun xs hx => ⟨(good.row xs hx).1.up (by omega), by have := (good.row xs hx).2.2; omega⟩
    refine gName_i (nx_i ?_)
    refine seqIfF (fun H' => Same H4 H') (fun R r => ⟨_, rfl, isi_dv (.str _) (kit_str _) ⟨_, rfl, iteF ⟨_, rfl, _, rfl, spImgsText_i (.inr (.inl (.inl (s4 _ _ eI)))) (rI.same s4) (by omega) lx fun H5 s5 => neS ⟨_, rfl, r _ s5⟩⟩⟩⟩) fun H5 s5 => ?_
    have s45 := s4.trans s5
    have er : readImages n (imgsText xss) = .ok xss := by rw [read_written h4 xl fun xs hx => (good.row xs hx).1, plain_all dr]
    refine seqAsg ⟨_, rfl, _, rfl, rfl, readRen_use h1 h4 (by omega) er good fun steps last dn => ⟨(fun rf => by rw [drawn_last dr dn] at rf; cases rf), fun _ b bs H6 s6 eb rb => ?_⟩⟩
    have s46 := s45.trans s6
    have eI6 := s46 _ _ eI
    have rI6 := rI.same s46
    refine gName_i ?_
    refine seqIfF (fun H' => Same H6 H') (fun R r => ?_) fun H7 s7 => ?_
    · refine ⟨_, rfl, _, rfl, neD_rows (t := true) ⟨b, bs, rfl, .inl (.inl eb), rb⟩ ⟨I, ws, rfl, .inl (.inl eI6), rI6⟩ ⟨_, rfl, ?_⟩⟩
      rw [decide_eq_true rfl]
      refine iteF ⟨_, rfl, isi_dv (.tup eb (dvs_rows rb)) (kit_tuple _) ⟨_, rfl, iteF ?_⟩⟩
      refine ⟨_, rfl, b, rfl, ⟨bs, .inl (.inl eb)⟩, fun D hD => ?_⟩
      refine lc_sel (fun _ => false) (fun _ _ _ => True) (wk_tup (K := K) (.inl (.inl eb))) hD (by rw [PySem.sizeLine_eq, rb.len]; omega) (fun _ => rfl) (fun _ _ _ _ _ h => h) (fun i H8 hi s8 Q' q' => ?_) (fun i H8 hi hk s8 Q' q' => by cases hk) (fun H8 zs s8 g1 g2 g3 => ?_)
      · obtain ⟨z, e1, rz⟩ := rb.get (i := i) (by rw [← rb.len]; exact hi)
        have ez : bs.getD i .non = z := by rw [List.getD_eq_getElem?_getD, e1]; rfl
        rw [ez]
        have lz := (getD_row (C := fun xs => Lets n xs ∧ adjOk xs = true ∧ xs.length ≤ 24) ⟨(fun x hx => by cases hx), rfl, Nat.zero_le _⟩ good.row i).2.2
        refine ⟨_, rfl, _, rfl, spSame_i (rz.same s8) (rz.same s8) (by omega) fun H9 s9 => ⟨_, rfl, ?_⟩⟩
        rw [decide_eq_true rfl]
        exact q' _ s9
      · have ez : zs = [] := List.length_eq_zero_iff.mp (by rw [g2]; simp [sel])
        subst ez
        refine ⟨Nat.zero_le _, fun l hl2 => neD_int (t := false) (xs := []) (ys := []) (.lst (SqL.of (by rw [upd_ne (ne_of_none g1 hl2)]; exact g1))) (.lst (SqL.of upd_same)) ⟨_, rfl, ?_⟩⟩
        rw [decide_eq_true rfl]
        exact r _ (s8.trans (Same.new hl2))
    have s47 := s46.trans s7
    have ds7 := ds3.same s47
    have eI7 := s47 _ _ eI
    have rI7 := rI.same s47
    refine seqAsg ⟨_, rfl, I, rfl, ⟨ws, .inl (.inl eI7)⟩, fun D hD => ?_⟩
    have oD := ds7.off hD
    refine lc_st (fun i ys H' => H' D = some (.lst ys) ∧ ys.length = i ∧ ∃ rss : List (List Int), Rws H' ys rss ∧ rss.map plain = xss.take i ∧ (∀ rs ∈ rss, Lets n rs ∧ rs.length ≤ 30) ∧ Kp u H7 H' ∧ Dst H' u (k + 460 - 10 * i)) (n := ws.length) (Xv := fun i => ws.getD i .non) (by rw [PySem.sizeLine_eq, rI.len]; omega) ?_ ?_ ?_ (fun _ => rfl) ?_ ?_ ?_ ?_
    · rintro i ys H8 ⟨_, _, _, _, _, _, kp8, _⟩ hi
      exact (wk_tup (K := K) (.inl (.inl ((kp8.tst ds7) _ _ eI7)))).go i H8 (Same.refl _) hi
    · rintro ys H8 ⟨_, _, _, _, _, _, kp8, _⟩
      exact (wk_tup (K := K) (.inl (.inl ((kp8.tst ds7) _ _ eI7)))).stop _ H8 (Same.refl _) (Nat.le_refl _)
    · rintro i ys H8 x H9 ⟨_, _, _, _, _, _, kp8, _⟩ hi y
      exact (wk_tup (K := K) (.inl (.inl ((kp8.tst ds7) _ _ eI7)))).yld i H8 x H9 (Same.refl _) hi y
    · exact ⟨upd_same, rfl, [], .nil, rfl, (fun rs h => by cases h), Kp.mut (Kp.refl u H7) hD, (ds7.le (by omega)).mut oD⟩
    · rintro i ys H8 ⟨h, h', _⟩
      exact ⟨h, h'⟩
    · rintro i ys H8 hi ⟨eD8, ly, rss, rr8, em, lr, kp8, ds8⟩ Q' q'
      have hi2 : i < xss.length := by rw [← rI.len]; exact hi
      obtain ⟨z, e1, rz⟩ := rI7.get hi2
      have ez : ws.getD i .non = z := by rw [List.getD_eq_getElem?_getD, e1]; rfl
      rw [ez]
      have gx := getD_row (C := fun xs => Lets n xs ∧ adjOk xs = true ∧ xs.length ≤ 24) ⟨(fun x hx => by cases hx), rfl, Nat.zero_le _⟩ good.row i
      have hi3 : i < 4 := by omega
      refine ⟨_, rfl, _, rfl, _, rfl, spRaw_i (k := k + 460 - 10 * (i + 1)) (by omega) (by omega) (rz.tst (kp8.tst ds7)) gx.1 (by omega) (by rw [show k + 460 - 10 * (i + 1) + 10 = k + 460 - 10 * i by omega]; exact ds8) fun rs v9 H9 kp9 ds9 r9 ep lrs ll _ => q' v9 H9 (kp9 _ _ oD.1 oD.2.1 eD8) ?_⟩
      have t9 : Tst H9 (upd H9 D (.lst (ys ++ [v9]))) := (Tst.refl _).upd (kp9 _ _ oD.1 oD.2.1 eD8) fun xs z => by cases z
      refine ⟨upd_same, by rw [List.length_append, ly]; rfl, rss ++ [rs], Rws.snoc (r9.tst t9) ((rr8.tst (kp9.tst ds8)).tst t9), ?_, fun r0 h0 => ?_, Kp.mut (kp8.trans kp9) hD, ds9.mut oD⟩
      · have ex : xss.getD i [] = xss[i] := by rw [List.getD_eq_getElem?_getD, List.getElem?_eq_getElem hi2]; rfl
        rw [List.map_append, em, List.map_cons, List.map_nil, ep, plain_id gx.2.1, ex, List.take_succ_eq_append_getElem hi2]
      · rcases List.mem_append.mp h0 with h0 | h0
        · exact lr r0 h0
        · rw [List.mem_singleton.mp h0]
          exact ⟨lrs, by omega⟩
    · rintro H8 ys ⟨eD8, ly, rss, rr8, em, lr, kp8, ds8⟩
      rw [rI.len, List.take_of_length_le (Nat.le_refl _)] at em
      have lrss : rss.length = n := by rw [← xl, ← em, List.length_map]
      have t8 := kp8.tst ds7
      have eI8 := t8 _ _ eI7
      have rI8 := rI7.tst t8
      have e8 : readImages n (imgsText rss) = .ok xss := by rw [read_written h4 lrss fun rs h => (lr rs h).1, em]
      have tl8 : (imgsText rss).length < 1000000 := by
        have a1 := segs_le (rss.map textC) 1
        have a2 := texts_le (rss := rss) fun rs h => (lr rs h).2
        rw [imgs_segs]
        rw [List.length_map] at a1
        omega
      refine gName_i ?_
      refine seqIfF (fun H' => Same H8 H') (fun R r => ?_) fun H9 s9 => ?_
      · refine ⟨_, rfl, _, rfl, spImgsText_i (.inl (SqL.of eD8)) rr8 (by omega) (fun rs h => ⟨(lr rs h).1.up (by omega), by have := (lr rs h).2; omega⟩) fun H9 s9 => readRen_use h1 h4 tl8 e8 good fun steps last dn => ⟨(fun rf => by rw [drawn_last dr dn] at rf; cases rf), fun _ t2 vs2 H10 s10 e10 r10 => ?_⟩⟩
        have s810 := s9.trans s10
        refine ⟨_, rfl, neD_rows (t := true) ⟨t2, vs2, rfl, .inl (.inl e10), r10⟩ ⟨I, ws, rfl, .inl (.inl (s810 _ _ eI8)), rI8.same s810⟩ ⟨_, rfl, ?_⟩⟩
        rw [decide_eq_true rfl]
        exact r _ s810
      refine seqAsg (tSl_i (tC_i (noPart (tPart_i (tOp_i (tOp_i (tC_i ⟨_, rfl, _, _, rfl, rfl, .inl ⟨by decide, by decide⟩, tC_i ⟨_, _, rfl, rfl, _, rfl, ?_⟩⟩)))))))
      rw [str_flat]
      refine ⟨S flatL, rfl, by rw [S_len, PySem.sizeLine_eq]; decide, ?_⟩
      rw [cutS_S, show (4 : Int) * (n : Int) - 1 = ((4 * n - 1 : Nat) : Int) by omega, cut_takeN]
      have hF : 1 < n → flatL.take (4 * n - 1) = imgsText (flatR n) := fun h => flat_take h h4
      generalize flatL.take (4 * n - 1) = fl at hF
      refine gName_i ?_
      have ds9 := ds8.same s9
      have eI9 := s9 _ _ eI8
      have rI9 := rI8.same s9
      have kp9 := ((kp3.trans (Kp.of s47)).trans kp8).trans (Kp.of s9)
      have wl4 : ws.length ≤ 4 := by rw [rI.len]; omega
      refine ⟨_, rfl, _, rfl, spNearText_i (k := k + 300) (by omega) (ds9.le (by omega)) fun m1 H10 kp10 ds10 hN => ?_⟩
      have ml := hN.len
      refine tCons_i (tIf_of (decide (1 < n)) (.str (S (imgsText (flatR n)))) (fun R r => ⟨_, rfl, _, _, rfl, rfl, _, rfl, ?_⟩) (fun h Q' q' => ⟨_, rfl, ?_⟩) (fun h Q' q' => ?_) ?_)
      · rw [show decide ((1 : Int) < (n : Int)) = decide (1 < n) from decide_eq_decide.mpr (by omega)]
        exact r
      · rw [hF (of_decide_eq_true h)]
        exact q'
      · have : n = 1 := by have := of_decide_eq_false h; omega
        subst this
        rw [← str_flat1] at q'
        exact q'
      refine tCons_i (tOp_i ⟨_, rfl, _, _, rfl, rfl, by rw [S_len, str_sp, S_len, PySem.sizeLine_eq]; simp; omega, ?_⟩)
      rw [str_sp, S_cat]
      refine tCons_i (tSl_i ⟨_, rfl, noPart (tPart_i (tC_i ⟨_, rfl, _, rfl, by rw [S_len, PySem.sizeLine_eq]; omega, ?_⟩))⟩)
      rw [cutS_S, show (2 : Int) = ((2 : Nat) : Int) from rfl, cut_takeN]
      refine tCons_i (tC_i ?_)
      rw [str_empty]
      have fl2 : (imgsText (flatR n)).length < 150 := by
        match n, h1, h4 with
        | 1, _, _ => decide +kernel
        | 2, _, _ => decide +kernel
        | 3, _, _ => decide +kernel
        | 4, _, _ => decide +kernel
      refine ⟨by rw [PySem.sizeLine_eq]; simp, fun L hL => ⟨L, rfl, ⟨_, SqL.of upd_same⟩, ?_⟩⟩
      have s11 : Same H10 (upd H10 L (.lst [.str (S m1), .str (S (imgsText (flatR n))), .str (S (imgsText xss ++ [32])), .str (S ((imgsText xss).take 2)), .str (S [])])) := Same.new hL
      have ds11 := ds10.same s11
      have kp911 := kp10.trans (Kp.of s11)
      have kp11 := kp9.trans kp911
      have hT11 := tabs_kp hT hd kp11
      have t911 := kp911.tst ds9
      have eI11 := t911 _ _ eI9
      have rI11 := rI9.tst t911
      have eL : upd H10 L (.lst [.str (S m1), .str (S (imgsText (flatR n))), .str (S (imgsText xss ++ [32])), .str (S ((imgsText xss).take 2)), .str (S [])]) L = some (.lst [.str (S m1), .str (S (imgsText (flatR n))), .str (S (imgsText xss ++ [32])), .str (S ((imgsText xss).take 2)), .str (S [])]) := upd_same
      generalize upd H10 L (.lst [.str (S m1), .str (S (imgsText (flatR n))), .str (S (imgsText xss ++ [32])), .str (S ((imgsText xss).take 2)), .str (S [])]) = H11 at ds11 kp11 hT11 eI11 rI11 eL ⊢
      refine for_lst (fun i σ H' => ∃ x6 x7 x8 x10 x11 : Option V, σ = [some (.ref u.s), some (.int n), some (.ref I), some (.str (S (imgsText xss))), some (.ref b), some (.ref D), x6, x7, x8, some (.str (S fl)), x10, x11] ∧ H' L = some (.lst [.str (S m1), .str (S (imgsText (flatR n))), .str (S (imgsText xss ++ [32])), .str (S ((imgsText xss).take 2)), .str (S [])]) ∧ Dst H' u (k + 100) ∧ Tabs T H' ∧ KpT u H11 H') (fun i σ H' h => by obtain ⟨_, _, _, _, _, _, h, _⟩ := h; exact SqL.of h) ⟨_, _, _, _, _, rfl, eL, ds11.le (by omega), hT11, KpT.refl _ _⟩ ?_ ?_
      · rintro i σ H12 hi ⟨x6, x7, x8, x10, x11, rfl, eL12, ds12, hT12, kpt12⟩
        obtain ⟨l, el, ll, lg⟩ : ∃ l, ([.str (S m1), .str (S (imgsText (flatR n))), .str (S (imgsText xss ++ [32])), .str (S ((imgsText xss).take 2)), .str (S [])] : List V).getD i .non = .str (S l) ∧ l.length < 150 ∧ ∀ yss, readImages n l = .ok yss → GoodG n yss := by
          have hi : i < 5 := hi
          match i, hi with
          | 0, _ => exact ⟨m1, rfl, by omega, fun yss ey => near_good h1 h4 hm dr hN ey⟩
          | 1, _ => exact ⟨_, rfl, fl2, fun yss ey => by rw [flat_read h1 h4] at ey; cases ey; exact flat_good h1 h4⟩
          | 2, _ => exact ⟨_, rfl, by rw [List.length_append]; simp; omega, fun yss ey => near_good h1 h4 hm dr ⟨_, ⟨(imgsText xss).length, [32], Nat.le_refl _, by simp, .inl (by simp)⟩, .inl rfl⟩ ey⟩
          | 3, _ => exact ⟨_, rfl, by rw [List.length_take]; omega, fun yss ey => near_good h1 h4 hm dr ⟨_, ⟨min 2 (imgsText xss).length, [], by omega, by simp, .inr (.inr (.inl (by rw [List.take_eq_take_min])))⟩, .inl rfl⟩ ey⟩
          | 4, _ => exact ⟨_, rfl, by simp, fun yss ey => near_good h1 h4 hm dr ⟨_, ⟨0, [], by omega, by simp, .inr (.inr (.inl rfl))⟩, .inl rfl⟩ ey⟩
        rw [el]
        refine gName_i ?_
        refine seqAsg ⟨_, rfl, _, rfl, spLImgs_i h1 h4 ll (fun kk ek H13 s13 => ?_) (fun found ef => ?_)⟩
        · have er : readImages n l = .error kk := by rw [mImages_read h1 h4, ek]
          refine seqAsg (caught_ren_err EF h1 h4 (by omega) er (tabs_same hT12 s13) (fun _ _ q => ⟨_, rfl, q⟩) (fun _ _ q => ⟨_, rfl, q⟩) fun a H14 e14 T14 eh => ?_)
          refine gName_i ?_
          refine tIf_to (fun H' => Same H14 H') false (fun R r => ⟨_, rfl, isi_dv (.int _) (kit_list _) ⟨_, rfl, r _ (Same.refl _)⟩⟩) fun H15 s15 => iteF ?_
          have eh15 : ErrH H15 a CT kk := let ⟨d, g1, g2⟩ := eh; ⟨d, s15 _ _ g1, s15 _ _ g2⟩
          refine ifF (fun H' => Same H15 H') (fun R r => ⟨_, rfl, isA_T eh15 EF.eT EF.kTT ⟨_, rfl, iteF (tTest_i (tOp_i (xvar_i rfl eh15 EF.xT EF.aT ⟨_, rfl, neI ⟨_, rfl, r _ (Same.refl _)⟩⟩)))⟩⟩) fun H16 s16 => ?_
          have e16 : ExtN H12 H16 := ((extS s13).trans e14).trans (extS (s15.trans s16))
          exact ⟨_, _, _, _, _, rfl, e16 _ _ eL12 (fun _ z => by cases z), ds12.ext e16, tabs_same T14 (s15.trans s16), kpt12.trans (KpT.ofE e16)⟩
        · have hw := (mImages_whole h4 ef).1
          have hl := mImages_len ef
          refine ⟨fun t ht => ⟨_, whole_read h4 (hw t ht) (by have := hl t ht; omega)⟩, fun p vs' yss' H13 s13 hp ep ey hL2 => ?_⟩
          have er : readImages n l = .ok (found.map (rd n)) := by rw [mImages_read h1 h4, ef]
          have eyy : yss'.map plain = found.map (rd n) := by
            rw [ey, List.map_map]
            exact List.map_congr_left fun t ht => read_due h4 (whole_read h4 (hw t ht) (by have := hl t ht; omega)) (hw t ht) (by have := hl t ht; omega)
          generalize hY : found.map (rd n) = yss at er eyy
          have g := lg yss er
          refine seqAsg (caught_ren_ok EF h1 h4 (by omega) er g (tabs_same hT12 s13) (fun _ _ q => ⟨_, rfl, q⟩) (fun _ _ q => ⟨_, rfl, q⟩) fun fv H14 steps last dn e14 T14 hfv => ?_)
          refine gName_i ?_
          have ep14 := e14 _ _ ep (fun _ z => by cases z)
          have hL14 : ∀ (k : Nat) (v : V), vs'[k]? = some v → ∃ q0, v = .ref q0 ∧ H14 q0 = some (.lst (iV (yss'.getD k []))) := fun k v hk => by
            obtain ⟨q0, _, ev, hq0⟩ := hL2.2 k v hk
            exact ⟨q0, ev, e14 _ _ hq0 (fun _ z => by cases z)⟩
          have ly : ∀ ys ∈ yss', ys.length ≤ 200 := fun ys hy => by
            rw [ey] at hy
            obtain ⟨t, ht, rfl⟩ := List.mem_map.mp hy
            have h5 := whole_read h4 (hw t ht) (by have := hl t ht; omega)
            rw [h5]
            have := (ok_len h5).1
            exact this
          have lv := hL2.1
          refine tIf_to (fun H' => Same H14 H') true (fun R r => ⟨_, rfl, isi_dv (.lst ep14 (lsts_dv lv hL14)) (kit_list _) ⟨_, rfl, r _ (Same.refl _)⟩⟩) fun H15 s15 => iteT ?_
          have ep15 := s15 _ _ ep14
          refine seqAsg (tCB_i (tCons_i ⟨_, rfl, p, rfl, ⟨vs', SqL.of ep15⟩, fun D2 hD2 => ?_⟩))
          have lf : found.length = n := by
            have := g.len
            rw [← hY, List.length_map] at this
            exact this
          have lyy : yss'.length = n := by rw [ey, List.length_map]; exact lf
          refine lc_map (fun k v H => Row H v (plain (yss'.getD k []))) (wk_list (SqL.of ep15)) hD2 (by rw [PySem.sizeLine_eq, lv]; omega) (fun _ => rfl) (fun _ _ _ _ e h => h.tst e) (fun j H16 hj s16 Q' q' => ?_) (fun H16 zs s16 f1 f2 f3 => ?_)
          · obtain ⟨q0, ev, hq0⟩ := hL14 j (vs'[j]) (List.getElem?_eq_getElem hj)
            have ez : vs'.getD j .non = .ref q0 := by rw [List.getD_eq_getElem?_getD, List.getElem?_eq_getElem hj, ev]; rfl
            rw [ez]
            have lj := getD_row (C := fun ys => ys.length ≤ 200) (Nat.zero_le _) ly j
            exact ⟨_, rfl, spPlain_i (.inl (SqL.of (s16 _ _ (s15 _ _ hq0)))) (by omega) fun v H17 s17 r17 => q' v H17 s17 r17⟩
          have rr : Rws H16 zs yss := by
            have := rws_of (f := fun k => plain (yss'.getD k [])) (ys := zs) (l := List.range yss'.length) (by rw [f2, lv]; simp) fun k v j h1 h2 => by
              have hk := (List.getElem?_eq_some_iff.mp h1).1
              rw [f2, lv] at hk
              rw [List.getElem?_range hk] at h2
              cases h2
              exact f3 k v h1
            rw [map_range_getD yss' [] plain, eyy] at this
            exact this
          refine tNil_i ⟨D2, zs, rfl, .inl ⟨SqL.of f1, fun t8 ht8 => ?_⟩⟩
          have s17 : Same H16 (upd H16 t8 (.tup zs)) := Same.new ht8
          have e8t : upd H16 t8 (.tup zs) t8 = some (.tup zs) := upd_same
          have r8 := rr.same s17
          have s1417 := (s15.trans s16).trans s17
          generalize upd H16 t8 (.tup zs) = H17 at s17 e8t r8 s1417 ⊢
          refine gName_i ?_
          have e1217 : ExtN H12 H17 := ((extS s13).trans e14).trans (extS s1417)
          have eI17 : H17 I = some (.tup ws) := ((kpt12.tst ds11).trans (fun b xs h => e1217 b _ h (fun _ z => by cases z))) _ _ eI11
          have rI17 : Rws H17 ws xss := rI11.tst ((kpt12.tst ds11).trans (fun b xs h => e1217 b _ h (fun _ z => by cases z)))
          have hfv17 : (fv = .non ∧ renLast n last = true) ∨ ∃ a, fv = .ref a ∧ ErrP H17 a CN ∧ renLast n last = false := by
            rcases hfv with h | ⟨a, e1, e2, e3⟩
            · exact .inl h
            · exact .inr ⟨a, e1, s1417 _ _ e2, e3⟩
          refine seqIfF (fun H' => Same H17 H') (fun R r => ?_) fun H18 s18 => ?_
          · rcases hfv17 with ⟨rfl, rt⟩ | ⟨a, rfl, ea, rf⟩
            · refine ⟨_, rfl, isA_0 EF.k0T ⟨_, rfl, iteF (tAnd_i (tTest_i (tOp_i ⟨_, rfl, rfl, _, rfl, ?_⟩)))⟩⟩
              rw [decide_eq_true rfl]
              refine iteT ⟨_, rfl, _, rfl, readRen_use h1 h4 (by omega) er g fun steps2 last2 dn2 => ⟨fun rf => ?_, fun _ t9 vs9 H18 s18 e18 r18 => ?_⟩⟩
              · rw [dn2.det dn, rt] at rf
                cases rf
              · refine ⟨_, rfl, neD_rows (t := true) ⟨t9, vs9, rfl, .inl (.inl e18), r18⟩ ⟨t8, zs, rfl, .inl (.inl (s18 _ _ e8t)), r8.same s18⟩ ⟨_, rfl, ?_⟩⟩
                rw [decide_eq_true rfl]
                exact r _ s18
            · refine ⟨_, rfl, isA_P ea EF.eN EF.kNT ⟨_, rfl, iteF (tAnd_i (tTest_i (tOp_i ⟨_, rfl, rfl, _, rfl, ?_⟩)))⟩⟩
              rw [decide_eq_false (by intro z; cases z)]
              exact iteF (r _ (Same.refl _))
          · refine ifF (fun H' => Same H18 H') (fun R r => ?_) fun H19 s19 => ?_
            · rcases hfv17 with ⟨rfl, rt⟩ | ⟨a, rfl, ea, rf⟩
              · exact ⟨_, rfl, isA_0 EF.k0N ⟨_, rfl, iteF (r _ (Same.refl _))⟩⟩
              · refine ⟨_, rfl, isA_P (s18 _ _ ea) EF.eN EF.kNN ⟨_, rfl, iteT ⟨_, rfl, _, rfl, eqD_rows (t := true) ⟨t8, zs, rfl, .inl (.inl (s18 _ _ e8t)), r8.same s18⟩ ⟨I, ws, rfl, .inl (.inl (s18 _ _ eI17)), rI17.same s18⟩ ⟨_, rfl, ?_⟩⟩⟩⟩
                have hne : yss ≠ xss := fun z => by
                  rw [z] at dn
                  rw [drawn_last dr dn] at rf
                  cases rf
                rw [decide_eq_false hne]
                exact r _ (Same.refl _)
            · have e1219 := e1217.trans (extS (s18.trans s19))
              exact ⟨_, _, _, _, _, rfl, e1219 _ _ eL12 (fun _ z => by cases z), ds12.ext e1219, tabs_same T14 (s1417.trans (s18.trans s19)), kpt12.trans (KpT.ofE e1219)⟩
      · rintro σ H12 ⟨x6, x7, x8, x10, x11, rfl, eL12, ds12, hT12, kpt12⟩
        have g := flat_good h1 h4
        refine nx_i (tRet_i (tCB_i (tCons_i (caught_ren_ok EF h1 h4 (by omega) (flat_read h1 h4) g hT12 (fun _ _ q => ⟨_, rfl, q⟩) (fun H13 Q' q' => ?_) fun fv H14 steps last dn e14 T14 hfv => tCons_i (tC_i (tNil_i ?_))))))
        · refine tIf_of (decide (1 < n)) (.str (S (imgsText (flatR n)))) (fun R r => ⟨_, rfl, _, _, rfl, rfl, _, rfl, ?_⟩) (fun h Q' q' => ⟨_, rfl, ?_⟩) (fun h Q' q' => ?_) q'
          · rw [show decide ((1 : Int) < (n : Int)) = decide (1 < n) from decide_eq_decide.mpr (by omega)]
            exact r
          · rw [hF (of_decide_eq_true h)]
            exact q'
          · have : n = 1 := by have := of_decide_eq_false h; omega
            subst this
            rw [← str_flat1] at q'
            exact q'
        · have rf := flat_last h1 h4 dn
          rcases hfv with ⟨_, rt⟩ | ⟨a, rfl, ep, _⟩
          · rw [rf] at rt
            cases rt
          · refine isA_P ep EF.eN EF.kNN ?_
            exact q H14 (((KpT.of kp11).trans kpt12).trans (KpT.ofE e14)) ((ds12.ext e14).le (by omega)) T14
end
end My
namespace My
open PySem PySem.Spec PyProof.Rows L2 SX LamX
section
variable {K : PySem.W.Frag} {CS C : Addr} {T : List (Addr × Str)} {sp : Sp} {v u : V} {ta tb : TE} {σ : L2.St} {H : Hp} {Q : VK}
theorem caught_P (hm : PySem.W.exmOne K (.ref C) (.ref CS) = some true) (hT : Tabs T H) (ha : ∀ H Q, Q v H → ta σ H Q) (hb : ∀ H Q, Q u H → tb σ H Q)
    (hs : ∀ H1, ExtN H H1 → ∀ (Q' : VK) (E : XK), (∀ H', Same H1 H' → E (.ref C) none H') → sp [v, u] H1 Q' E) (q : ∀ a Hx, ExtN H Hx → Tabs T Hx → ErrP Hx a C → Q (.ref a) Hx) :
    tLam T (TTcaught K CS) (fun E => tCall sp [] E (tCons ta (tCons tb tNil))) σ H Q := by
  refine ⟨hT, fun H1 e1 T1 => caught_i ?_⟩
  show tCons ta (tCons tb tNil) σ H1 _
  refine tCons_i (ha _ _ (tCons_i (hb _ _ (tNil_i ?_))))
  refine hs H1 e1 _ _ fun H2 s2 => ⟨hm, fun a ha => ?_⟩
  have s3 : Same H2 (upd H2 a (XO (.ref C) none a)) := Same.new ha
  exact q _ _ (e1.trans (extS (s2.trans s3))) (tabs_same T1 (s2.trans s3)) upd_same
theorem caught_A {k : Int} (hm : PySem.W.exmOne K (.ref C) (.ref CS) = some true) (hT : Tabs T H) (ha : ∀ H Q, Q v H → ta σ H Q) (hb : ∀ H Q, Q u H → tb σ H Q)
    (hs : ∀ H1, ExtN H H1 → ∀ (Q' : VK) (E : XK), ErrAt H1 E C k → sp [v, u] H1 Q' E) (q : ∀ a Hx, ExtN H Hx → Tabs T Hx → ErrH Hx a C k → Q (.ref a) Hx) :
    tLam T (TTcaught K CS) (fun E => tCall sp [] E (tCons ta (tCons tb tNil))) σ H Q := by
  refine ⟨hT, fun H1 e1 T1 => caught_i ?_⟩
  show tCons ta (tCons tb tNil) σ H1 _
  refine tCons_i (ha _ _ (tCons_i (hb _ _ (tNil_i ?_))))
  refine hs H1 e1 _ _ fun d H2 s2 hd h2 => ⟨hm, fun a ha => ?_⟩
  have s3 : Same H2 (upd H2 a (XO (.ref C) (some d) a)) := Same.new ha
  exact q _ _ (e1.trans (extS (s2.trans s3))) (tabs_same T1 (s2.trans s3)) (ErrH.new h2 ha)
end
theorem tLst_i {ta : TA} {σ : L2.St} {H : Hp} {Q : VK} (h : ta σ H fun xs H1 => xs.length ≤ sizeLine ∧ ∀ p, H1 p = none → Q (.ref p) (upd H1 p (.lst xs))) : tLst ta σ H Q := h
theorem ErrH.ext {H H' : Hp} {a C : Addr} {k : Int} (h : ErrH H a C k) (e : ExtN H H') : ErrH H' a C k := by
  obtain ⟨d, h1, h2⟩ := h
  exact ⟨d, e _ _ h1 (fun _ z => by unfold XO at z; cases z), e _ _ h2 (fun _ z => by cases z)⟩
theorem ErrH.mut {H : Hp} {a C D : Addr} {k : Int} {xs : List V} {o : HO} (h : ErrH H a C k) (hD : H D = some (.lst xs)) : ErrH (upd H D o) a C k := by
  obtain ⟨d, h1, h2⟩ := h
  refine ⟨d, ?_, ?_⟩
  · rw [upd_ne (fun z => by
      rw [z, hD] at h1
      unfold XO at h1
      cases h1)]
    exact h1
  · rw [upd_ne (fun z => by
      rw [z, hD] at h2
      cases h2)]
    exact h2
theorem tabs_mut {T : List (Addr × Str)} {H : Hp} {D : Addr} {xs : List V} {o : HO} (t : Tabs T H) (hD : H D = some (.lst xs)) : Tabs T (upd H D o) := fun p hp => by
  obtain ⟨ps, a1, a2, a3⟩ := t p hp
  refine ⟨ps, ?_, a2, fun pos cv hc => ?_⟩
  · rw [upd_ne (fun z => by rw [z, hD] at a1; cases a1)]
    exact a1
  · obtain ⟨c, e1, e2⟩ := a3 pos cv hc
    refine ⟨c, e1, ?_⟩
    rw [upd_ne (fun z => by
      rw [z, hD] at e2
      unfold CodeO at e2
      cases e2)]
    exact e2
theorem between_no {n : Int} (h1 : 1 ≤ n) (h4 : n ≤ 4) (e : betweenD (.int n) 1 4 = false) : False := by
  have e : (decide ((1 : Int) ≤ n) && decide (n ≤ 4)) = false := e
  rw [decide_eq_true h1, decide_eq_true h4] at e
  cases e
theorem dvk_dic {u : Sd} {H : Hp} {t : Addr} {kvs : List (Key × V)} (o1 : t ≠ u.s) (o2 : t ≠ u.g) (h : H t = some (.dK kvs)) : DVk u H (.ref t) .dic := fun H' e => .dic (e t _ o1 o2 (fun _ z => by cases z) h)
section
variable {P : Program} {w : World} {K : PySem.W.Frag} {mg : Str → Option Value} {base : Heap}
@[irreducible] def spLaw (K : PySem.W.Frag) (T : List (Addr × Str)) : Sp := fun vs H Q _ => ∃ (a : Addr) (ns : List Int), vs = [.ref a] ∧ SqL K H a (iV ns) ∧ ns.length < 1000 ∧ Tabs T H ∧ ∀ H', Q (.bl true) H'
theorem spLaw_i {T : List (Addr × Str)} {H : Hp} {a : Addr} {ns : List Int} {Q : VK} {E : XK} (h : SqL K H a (iV ns)) (hl : ns.length < 1000) (hT : Tabs T H) (q : ∀ H', Q (.bl true) H') : spLaw K T [.ref a] H Q E := by
  unfold spLaw
  exact ⟨a, ns, rfl, h, hl, hT, q⟩
theorem ok_law {CD CR CN CT CS c P3 : Addr} {T : List (Addr × Str)} (B : Bt mg) (EF : EFacts K mg CD CR CN CT CS) (F : Fdc K mg "law" s_law c) (FC : Fd K mg "_law_caught" s_l_caught) (TB : TabB base mg c P3) (hM : (P3, lamQ "law") ∈ T) (hU : ∀ p ∈ T, p.1 = P3 → p.2 = lamQ "law")
    (D_row_text : Df P w K mg base (L2.CX P w) 6 "row_text" ["deeds", "row"] (spRowText CD CR)) (D_read_row : Df P w K mg base (L2.CX P w) 4 "read_row" ["deeds", "text"] (spReadRow CD CT)) (D_ren_text : Df P w K mg base (L2.CX P w) 8 "renaming_text" ["deeds", "renaming"] (spRenText CD CN)) (D_read_ren : Df P w K mg base (L2.CX P w) 8 "read_renaming" ["deeds", "text"] (spReadRen K CD CT CN))
    (D_l_begun : Df P w K mg base CX0 1 "_law_begun" ["_law_script"] (spBegun K)) (D_l_draw : Df P w K mg base CX0 2 "_law_draw" ["_law_state", "_law_room"] spDraw) (D_l_pick : Df P w K mg base CX0 3 "_law_pick" ["_law_state", "_law_some"] (spPick K)) (D_l_mk_bad_deeds : Df P w K mg base CX0 4 "_law_mk_bad_deeds" ["_law_state"] spBadDeeds) (D_l_mk_bad_row : Df P w K mg base CX0 4 "_law_mk_bad_row" ["_law_state", "_law_deeds"] spBadRow)
    (D_l_mr_row_texts : Df P w K mg base (L2.CX P w) 12 "_law_mr_row_texts" ["_law_state", "_law_deeds"] (spRowTexts T)) (D_l_mr_renaming_texts : Df P w K mg base (L2.CX P w) 12 "_law_mr_renaming_texts" ["_law_state", "_law_deeds"] (spRenTexts T)) :
    Df P w K mg base (L2.CX P w) 13 "law" ["_law_script"] (spLaw K T) := by
  refine .mkC F sc_law (fun _ _ _ _ _ _ us hl => match us, hl with | [_], _ => rfl) (fun vs H Q E h => ?_) (fun f A outer s H vs Q E hr h => ?_)
  · unfold spLaw at h
    obtain ⟨a, ns, rfl, _⟩ := h
    rfl
  · unfold spLaw at h
    obtain ⟨a, ns, rfl, hS, hl, hT, q⟩ := h
    have nd := sc_law.nd
    refine ⟨_, pss_cons (ps_set (i := 1) nd rfl (Or.inl rfl) (pe_df (D_l_begun.mono (by decide)) hr rfl pass0 (pa_cons (pv 0) pa_nil)))
      (pss_cons (ps_for (passes_of rfl) rfl (pi_range1 (by rfl) B.range (pa_cons (pe_op op_add (pe_int) (pe_callB (call_min2 rfl) (by rfl) B.min (by decide +kernel) (pa_cons (pe_callB call_lenK (by rfl) B.len boot_len (pa_cons (pv 0) pa_nil)) (pa_cons (pe_int) pa_nil)))) pa_nil)) (pg_name (i := 2) nd rfl (Or.inl rfl))
      (pss_cons (ps_set (i := 6) nd rfl (Or.inr rfl) (pe_op op_add (pe_int) (pe_df (D_l_draw.mono (by decide)) hr rfl pass0 (pa_cons (pv 1) (pa_cons (pe_int) pa_nil)))))
      (pss_cons (ps_if (PW.pt (pw_or (pt_not (pt_val (pe_df (D_l_mr_row_texts.mono (by decide)) hr rfl (passR (takes_of rfl rfl rfl rfl)) (pa_cons (pv 1) (pa_cons (pv 6) pa_nil))))) (pw_or1 (pt_not (pt_val (pe_df (D_l_mr_renaming_texts.mono (by decide)) hr rfl (passR (takes_of rfl rfl rfl rfl)) (pa_cons (pv 1) (pa_cons (pv 6) pa_nil))))))))
      (pss_one (ps_ret (pe_bl))) (pss_nil))
      (pss_cons (ps_asg (pe_tup (pa_cons (pe_df (D_l_mk_bad_deeds.mono (by decide)) hr rfl pass0 (pa_cons (pv 1) pa_nil)) (pa_cons (pe_df (D_l_mk_bad_row.mono (by decide)) hr rfl pass0 (pa_cons (pv 1) (pa_cons (pv 6) pa_nil))) pa_nil))) (pg_tup rfl (pgs_cons (pg_name (i := 8) nd rfl (Or.inr rfl)) (pgs_cons (pg_name (i := 5) nd rfl (Or.inr rfl)) pgs_nil))))
      (pss_cons (ps_set (i := 7) nd rfl (Or.inr rfl) (pe_df (D_l_pick.mono (by decide)) hr rfl pass0 (pa_cons (pv 1) (pa_cons (pe_lst (pa_cons (pe_non) (pa_cons (pe_int) (pa_cons (pe_bl) (pa_cons (pe_tup (pa_cons (pe_str) pa_nil)) (pa_cons (pe_lst (pa_cons (pe_str) pa_nil)) (pa_cons (pe_dnewK) pa_nil))))))) pa_nil))))
      (pss_cons (ps_if (pt_not (pt_val (pe_callB call_isA (by rfl) B.isinstance boot_isinstance (pa_cons (pe_caught (k := 8) FC EF.gS rfl TB rfl hM hU (hr.mono (by decide)) (fun _ _ _ _ _ _ _ hr2 => pe_df (D_row_text.mono (by decide)) hr2 rfl (passR (takes_of rfl rfl rfl rfl)) (pa_cons (pv 8) (pa_cons (pv 5) pa_nil)))) (pa_cons (pe_glob (v := .ref CD) rfl EF.gD rfl) pa_nil)))))
      (pss_one (ps_ret (pe_bl))) (pss_nil))
      (pss_cons (ps_if (pt_not (pt_val (pe_callB call_isA (by rfl) B.isinstance boot_isinstance (pa_cons (pe_caught (k := 8) FC EF.gS rfl TB rfl hM hU (hr.mono (by decide)) (fun _ _ _ _ _ _ _ hr2 => pe_df (D_row_text.mono (by decide)) hr2 rfl (passR (takes_of rfl rfl rfl rfl)) (pa_cons (pv 6) (pa_cons (pv 5) pa_nil)))) (pa_cons (pe_glob (v := .ref CR) rfl EF.gR rfl) pa_nil)))))
      (pss_one (ps_ret (pe_bl))) (pss_nil))
      (pss_cons (ps_if (pt_not (pt_val (pe_callB call_isA (by rfl) B.isinstance boot_isinstance (pa_cons (pe_caught (k := 8) FC EF.gS rfl TB rfl hM hU (hr.mono (by decide)) (fun _ _ _ _ _ _ _ hr2 => pe_df (D_ren_text.mono (by decide)) hr2 rfl (passR (takes_of rfl rfl rfl rfl)) (pa_cons (pv 6) (pa_cons (pv 5) pa_nil)))) (pa_cons (pe_glob (v := .ref CN) rfl EF.gN rfl) pa_nil)))))
      (pss_one (ps_ret (pe_bl))) (pss_nil))
      (pss_cons (ps_if (pt_not (pt_val (pe_callB call_isA (by rfl) B.isinstance boot_isinstance (pa_cons (pe_caught (k := 8) FC EF.gS rfl TB rfl hM hU (hr.mono (by decide)) (fun _ _ _ _ _ _ _ hr2 => pe_df (D_read_ren.mono (by decide)) hr2 rfl (passR (takes_of rfl rfl rfl rfl)) (pa_cons (pv 8) (pa_cons (pv 7) pa_nil)))) (pa_cons (pe_glob (v := .ref CD) rfl EF.gD rfl) pa_nil)))))
      (pss_one (ps_ret (pe_bl))) (pss_nil))
      (pss_cons (ps_set (i := 3) nd rfl (Or.inl rfl) (pe_lst (pa_cons (pe_caught (k := 8) FC EF.gS rfl TB rfl hM hU (hr.mono (by decide)) (fun _ _ _ _ _ _ _ hr2 => pe_df (D_read_row.mono (by decide)) hr2 rfl (passR (takes_of rfl rfl rfl rfl)) (pa_cons (pv 6) (pa_cons (pv 7) pa_nil)))) pa_nil)))
      (pss_cons (ps_expr (pe_bm PySem.F.plainAttrs_list PySem.F.slot_list_append PySem.F.type_list_append mt_append (pv 3) (pa_cons (pe_caught (k := 8) FC EF.gS rfl TB rfl hM hU (hr.mono (by decide)) (fun _ _ _ _ _ _ _ hr2 => pe_df (D_read_ren.mono (by decide)) hr2 rfl (passR (takes_of rfl rfl rfl rfl)) (pa_cons (pv 6) (pa_cons (pv 7) pa_nil)))) pa_nil)))
      (pss_one (ps_for (passes_of rfl) rfl (pi_list (pv 3)) (pg_name (i := 4) nd rfl (Or.inl rfl))
      (pss_one (ps_if (PW.pt (pw_or (pt_not (pt_val (pe_callB call_isA (by rfl) B.isinstance boot_isinstance (pa_cons (pv 4) (pa_cons (pe_glob (v := .ref CT) rfl EF.gT rfl) pa_nil))))) (pw_or1 (pt_cmpR op_ne (pe_xv (pv 4)) (pe_un un_neg (pe_int)) (nomark _)))))
      (pss_one (ps_ret (pe_bl))) (pss_nil))))))))))))))))
      (pss_one (ps_ret (pe_bl)))), ?_⟩
    refine ⟨_, rfl, spBegun_i hS (by omega) fun u H1 s1 ds1 => ?_⟩
    refine gName_i (nx_i ?_)
    have hlen : ((iV ns).length : Int) = (ns.length : Int) := by simp only [iV, List.length_map]
    refine ⟨_, rfl, a, _, rfl, .inl (s1.seq hS), _, _, rfl, _, _, rfl, rfl, _, rfl, by rw [hlen]; split <;> omega, by rw [hlen]; split <;> omega, ?_⟩
    rw [hlen]
    have hN : (2 + (if (4 : Int) < (ns.length : Int) then (4 : Int) else (ns.length : Int))).toNat ≤ 6 := by split <;> omega
    generalize (2 + (if (4 : Int) < (ns.length : Int) then (4 : Int) else (ns.length : Int))).toNat = N at hN
    refine for_wk (wk_range (H1 := noHp)) (fun i σ H' => ∃ (x2 x3 x4 x5 x6 x7 x8 : Option V), σ = [some (.ref a), some (.ref u.s), x2, x3, x4, x5, x6, x7, x8] ∧ Dst H' u (10000 - 1200 * i) ∧ Tabs T H') ⟨_, _, _, _, _, _, _, rfl, ds1.le (by decide), tabs_same hT s1⟩ (fun i σ H' _ => fun _ _ z => by cases z) ?_ ?_
    · rintro i σ H2 hi ⟨x2, x3, x4, x5, x6, x7, x8, rfl, ds2, hT2⟩
      refine gName_i (seqAsg (tOp_i (tC_i ⟨_, rfl, spDraw_i (k := 10000 - 1200 * (i + 1) + 1190) (by omega) (by omega) (ds2.le (by omega)) fun d H3 d0 d1 kp3 ds3 => ⟨_, _, rfl, rfl, ?_⟩⟩)))
      obtain ⟨n, en, n1, n4⟩ : ∃ n : Nat, 1 + d = (n : Int) ∧ 1 ≤ n ∧ n ≤ 4 := ⟨(1 + d).toNat, by omega, by omega, by omega⟩
      change gName 6 (V.int (1 + d)) _ _ _
      rw [en]
      refine gName_i ?_
      have hT3 := tabs_kp hT2 ds2 kp3
      refine seqIfF (fun H' => Dst H' u (10000 - 1200 * (i + 1) + 190) ∧ Tabs T H') (fun R r => ?_) fun H4 ⟨ds4, hT4⟩ => ?_
      · refine ⟨_, rfl, _, rfl, spRowTexts_i (k := 10000 - 1200 * (i + 1) + 690) n1 n4 ds3 hT3 fun H4 k4 ds4 hT4 => ⟨_, rfl, iteF ⟨_, rfl, _, rfl, spRenTexts_i (k := 10000 - 1200 * (i + 1) + 190) n1 n4 ds4 hT4 fun H5 k5 ds5 hT5 => ⟨_, rfl, r _ ⟨ds5, hT5⟩⟩⟩⟩⟩
      refine seqAsg ⟨_, rfl, spBadDeeds_i (k := 10000 - 1200 * (i + 1) + 100) (ds4.le (by omega)) fun wv wd H5 kp5 ds5 dw bw => ⟨_, rfl, _, rfl, spBadRow_i (k := 10000 - 1200 * (i + 1) + 90) n1 n4 (ds5.le (by omega)) fun bv bd H6 kp6 ds6 db rb pb shb => ⟨by rw [PySem.sizeLine_eq]; simp, fun tp htp => ⟨tp, _, rfl, .inl (.inl upd_same), rfl, _, _, rfl, _, _, rfl, rfl, ?_⟩⟩⟩⟩
      have s7 : Same H6 (upd H6 tp (.tup [wv, bv])) := Same.new htp
      have ds7 := ds6.same s7
      have k57 := (KpT.of kp6).trans (KpT.ofS s7)
      have k67 := KpT.ofS (u := u) s7
      have hT7 := tabs_same (tabs_kp (tabs_kp hT4 ds4 kp5) ds5 kp6) s7
      generalize upd H6 tp (.tup [wv, bv]) = H7 at s7 ds7 k57 k67 hT7 ⊢
      refine seqAsg ⟨_, rfl, by rw [PySem.sizeLine_eq]; simp, fun t ht => ⟨by rw [PySem.sizeLine_eq]; simp, fun l hl dd hdd => ⟨by rw [PySem.sizeLine_eq]; simp, fun L hL => ?_⟩⟩⟩
      have s8 : Same H7 (upd H7 t (.tup [.str (PySem.Str.ofString "a")])) := Same.new ht
      have s9 := Same.new (o := .lst [.str (PySem.Str.ofString "a")]) hl
      have s10 := Same.new (o := .dK []) hdd
      have s11 := Same.new (o := .lst [V.non, .int 5, .bl true, .ref t, .ref l, .ref dd]) hL
      have ds8 := ds7.same s8
      have ds9 := ds8.same s9
      have ds10 := ds9.same s10
      have ds11 := ds10.same s11
      have ol := ds8.off hl
      have od := ds9.off hdd
      have oL := ds10.off hL
      have s711 := ((s8.trans s9).trans s10).trans s11
      refine spPick_i (k := 10000 - 1200 * (i + 1) + 50) oL.1 oL.2.1 (SqL.of upd_same) (by simp) (by simp) (ds11.le (by omega)) fun j ov H12 hv kp12 ds12 => ?_
      obtain ⟨odd, dodd, nstr⟩ : ∃ d, DVk u H12 ov d ∧ ∀ x, d ≠ .str x := by
        have hj : j < 6 := (List.getElem?_eq_some_iff.mp hv).1
        match j, hj with
        | 0, _ => cases hv; exact ⟨_, (dvk_base fun _ => .non), fun x z => by cases z⟩
        | 1, _ => cases hv; exact ⟨_, (dvk_base fun _ => .int _), fun x z => by cases z⟩
        | 2, _ => cases hv; exact ⟨_, (dvk_base fun _ => .bl _), fun x z => by cases z⟩
        | 3, _ => cases hv; exact ⟨_, dvk_tup ds12 ((kp12.tst ds11) _ _ (s11 _ _ (s10 _ _ (s9 _ _ upd_same)))) fun _ => .cons (.str _) .nil, fun x z => by cases z⟩
        | 4, _ => cases hv; exact ⟨_, dvk_lst ol.1 ol.2.1 (kp12 l _ ol.1 ol.2.1 (s11 _ _ (s10 _ _ upd_same))) fun _ => .cons (.str _) .nil, fun x z => by cases z⟩
        | 5, _ => cases hv; exact ⟨_, dvk_dic od.1 od.2.1 (kp12 dd _ od.1 od.2.1 (s11 _ _ upd_same)), fun x z => by cases z⟩
      have hT12 := tabs_kp (tabs_same hT7 s711) ds11 kp12
      have k512 : KpT u H5 H12 := (k57.trans (KpT.ofS s711)).trans (KpT.of kp12)
      have k612 : KpT u H6 H12 := (k67.trans (KpT.ofS s711)).trans (KpT.of kp12)
      have wx : ∀ {Hx : Hp}, ExtN H12 Hx → DV Hx wv wd := fun e => dw _ (k512.trans (KpT.ofE e))
      have bx : ∀ {Hx : Hp}, ExtN H12 Hx → DV Hx bv bd := fun e => db _ (k612.trans (KpT.ofE e))
      have ox : ∀ {Hx : Hp}, ExtN H12 Hx → DV Hx ov odd := fun e => dodd _ (KpT.ofE e)
      refine gName_i ?_
      refine seqIfF (fun H' => ExtN H12 H' ∧ Tabs T H') (fun R r => tNot_i (tB_i (tCB_i (tCons_i (caught_P EF.mD hT12 (fun _ _ q => ⟨_, rfl, q⟩) (fun _ _ q => ⟨_, rfl, q⟩) (fun H1 e1 Q' E' hE => spRowText_i (wx e1) (bx e1) (fun _ => hE H1 (Same.refl _)) fun n' en p1 p2 => absurd bw (by rw [en]; exact fun z => between_no p1 p2 z)) fun x Hx e T' h => tCons_i (tC_i (tNil_i (isA_P h EF.eD EF.kDD ⟨_, rfl, r _ ⟨e, T'⟩⟩)))))))) fun H13 ⟨e13, T13⟩ => ?_
      refine seqIfF (fun H' => ExtN H12 H' ∧ Tabs T H') (fun R r => tNot_i (tB_i (tCB_i (tCons_i (caught_P EF.mR T13 (fun _ _ q => ⟨_, rfl, q⟩) (fun _ _ q => ⟨_, rfl, q⟩) (fun H1 e1 Q' E' hE => spRowText_i (.int _) (bx (e13.trans e1)) (fun e => absurd e (between_ok n1 n4)) fun n' en p1 p2 => ⟨fun _ H' s' => hE H' s', fun xs rt _ => by rw [← Dt.int.inj en, rb] at rt; cases rt⟩) fun x Hx e T' h => tCons_i (tC_i (tNil_i (isA_P h EF.eR EF.kRR ⟨_, rfl, r _ ⟨e13.trans e, T'⟩⟩)))))))) fun H14 ⟨e14, T14⟩ => ?_
      refine seqIfF (fun H' => ExtN H12 H' ∧ Tabs T H') (fun R r => tNot_i (tB_i (tCB_i (tCons_i (caught_P EF.mN T14 (fun _ _ q => ⟨_, rfl, q⟩) (fun _ _ q => ⟨_, rfl, q⟩) (fun H1 e1 Q' E' hE => spRenText_i (.int _) (bx (e14.trans e1)) (fun e => absurd e (between_ok n1 n4)) shb fun n' en p1 p2 => ⟨fun _ H' s' => hE H' s', fun xss pt _ => by rw [← Dt.int.inj en, pb] at pt; cases pt⟩) fun x Hx e T' h => tCons_i (tC_i (tNil_i (isA_P h EF.eN EF.kNN ⟨_, rfl, r _ ⟨e14.trans e, T'⟩⟩)))))))) fun H15 ⟨e15, T15⟩ => ?_
      refine seqIfF (fun H' => ExtN H12 H' ∧ Tabs T H') (fun R r => tNot_i (tB_i (tCB_i (tCons_i (caught_P EF.mD T15 (fun _ _ q => ⟨_, rfl, q⟩) (fun _ _ q => ⟨_, rfl, q⟩) (fun H1 e1 Q' E' hE => spReadRen_i (wx (e15.trans e1)) (ox (e15.trans e1)) (fun _ => hE H1 (Same.refl _)) fun n' en p1 p2 => absurd bw (by rw [en]; exact fun z => between_no (by omega) (by omega) z)) fun x Hx e T' h => tCons_i (tC_i (tNil_i (isA_P h EF.eD EF.kDD ⟨_, rfl, r _ ⟨e15.trans e, T'⟩⟩)))))))) fun H16 ⟨e16, T16⟩ => ?_
      refine seqAsg (tLst_i (tCons_i (caught_A (k := -1) EF.mT T16 (fun _ _ q => ⟨_, rfl, q⟩) (fun _ _ q => ⟨_, rfl, q⟩) (fun H1 e1 Q' E' er => spReadRow_i (.int _) (ox (e16.trans e1)) (fun e => absurd e (between_ok n1 n4)) fun n' en p1 p2 => ⟨fun _ => er, fun l el => absurd el (nstr _)⟩) fun a1 H17 e17 T17 eh1 => tNil_i ⟨by rw [PySem.sizeLine_eq]; simp, fun D hD => ?_⟩)))
      have s18 : Same H17 (upd H17 D (.lst [.ref a1])) := Same.new hD
      have T18 := tabs_same T17 s18
      have e18 := (e16.trans e17).trans (extS s18)
      have eD18 : upd H17 D (.lst [.ref a1]) D = some (.lst [.ref a1]) := upd_same
      have eh18 : ErrH (upd H17 D (.lst [.ref a1])) a1 CT (-1) := let ⟨d, g1, g2⟩ := eh1; ⟨d, s18 _ _ g1, s18 _ _ g2⟩
      generalize upd H17 D (.lst [.ref a1]) = H18 at s18 T18 e18 eD18 eh18 ⊢
      refine gName_i ?_
      refine ⟨_, rfl, .inl ⟨rfl, _, SqL.of eD18⟩, tCons_i (caught_A (k := -1) EF.mT T18 (fun _ _ q => ⟨_, rfl, q⟩) (fun _ _ q => ⟨_, rfl, q⟩) (fun H1 e1 Q' E' er => spReadRen_i (.int _) (ox (e18.trans e1)) (fun e => absurd e (between_ok n1 n4)) fun n' en p1 p2 => ⟨fun _ => er, fun l el => absurd el (nstr _)⟩) fun a2 H19 e19 T19 eh2 => tNil_i ?_)⟩
      have eD19 := e19 _ _ eD18 (fun _ z => by cases z)
      refine ⟨D, [.ref a1], .ref a2, rfl, rfl, eD19, by rw [PySem.sizeLine_eq]; simp, ?_⟩
      have oD := (ds12.ext (e16.trans e17)).off hD
      have ds20 : Dst (upd H19 D (.lst ([.ref a1] ++ [.ref a2]))) u (10000 - 1200 * (i + 1)) := ((ds12.ext (e18.trans e19)).mut oD).le (by omega)
      have T20 : Tabs T (upd H19 D (.lst ([.ref a1] ++ [.ref a2]))) := tabs_mut T19 eD19
      have eh20 : ErrH (upd H19 D (.lst ([.ref a1] ++ [.ref a2]))) a1 CT (-1) := (eh18.ext e19).mut eD19
      have eh21 : ErrH (upd H19 D (.lst ([.ref a1] ++ [.ref a2]))) a2 CT (-1) := eh2.mut eD19
      have eD20 : upd H19 D (.lst ([.ref a1] ++ [.ref a2])) D = some (.lst [.ref a1, .ref a2]) := upd_same
      generalize upd H19 D (.lst ([.ref a1] ++ [.ref a2])) = H20 at ds20 T20 eh20 eh21 eD20 ⊢
      refine nx_i ⟨_, rfl, D, rfl, ⟨_, SqL.of eD20⟩, ?_⟩
      refine for_lst (fun j σ H' => ∃ x4 : Option V, σ = [some (.ref a), some (.ref u.s), some (.int (0 + (i : Int))), some (.ref D), x4, some bv, some (.int n), some ov, some wv] ∧ Same H20 H') (fun j σ H' h => by obtain ⟨_, _, s⟩ := h; exact SqL.of (s _ _ eD20)) ⟨_, rfl, Same.refl _⟩ ?_ ?_
      · rintro j σ H21 hj ⟨x4, rfl, s21⟩
        obtain ⟨a3, e3, eh3⟩ : ∃ a3, ([V.ref a1, V.ref a2] : List V).getD j .non = .ref a3 ∧ ErrH H20 a3 CT (-1) := by
          have hj : j < 2 := hj
          match j, hj with
          | 0, _ => exact ⟨a1, rfl, eh20⟩
          | 1, _ => exact ⟨a2, rfl, eh21⟩
        rw [e3]
        have eh3' := eh3.ext (extS s21)
        refine gName_i (ifF (fun H' => Same H21 H') (fun R r => ⟨_, rfl, isA_T eh3' EF.eT EF.kTT ⟨_, rfl, iteF (tTest_i (tOp_i (xvar_i rfl eh3' EF.xT EF.aT ⟨_, rfl, neI ⟨_, rfl, r _ (Same.refl _)⟩⟩)))⟩⟩) fun H22 s22 => ?_)
        exact ⟨_, rfl, s21.trans s22⟩
      · rintro σ H21 ⟨x4, rfl, s21⟩
        exact ⟨_, _, _, _, _, _, _, rfl, ds20.same s21, tabs_same T20 s21⟩
    · rintro σ H2 ⟨x2, x3, x4, x5, x6, x7, x8, rfl, ds2, hT2⟩
      exact q H2
end
end My
namespace My
open PySem PySem.Spec PyProof.Rows L2 SX LamX
/-- what the top leaves, as far as the law leans on it -/
structure TopF (P : Program) (K : PySem.W.Frag) (mg : Str → Option Value) (CD CR CN CT CS c1 c2 c3 : Addr) : Prop where
  B : Bt mg
  gMD : ∃ t, mg "MOST_DEEDS" = some (.int 4 t)
  gMR : ∃ t, mg "MOST_IN_ROW" = some (.int 200 t)
  gDo : ∃ t, mg "DONE" = some (.str (S [97, 98, 99, 100]) t)
  gUn : ∃ t, mg "UNDONE" = some (.str (S [65, 66, 67, 68]) t)
  ED : Er K mg "BadDeeds" CD
  ER : Er K mg "BadRow" CR
  EN : Er K mg "BadRenaming" CN
  ET : ErT P K mg CT
  EF : EFacts K mg CD CR CN CT CS
  f_is_whole : Fd K mg "is_whole" s_is_whole
  f_is_between : Fd K mg "is_between" s_is_between
  f_need_deeds : Fd K mg "need_deeds" s_need_deeds
  f_fits_letter : Fd K mg "fits_letter" s_fits_letter
  f_fits_row : Fd K mg "fits_row" s_fits_row
  f_plain_of : Fd K mg "plain_of" s_plain_of
  f_undone_of : Fd K mg "undone_of" s_undone_of
  f_need_row : Fd K mg "need_row" s_need_row
  f_letters_gone : Fd K mg "letters_gone" s_letters_gone
  f_is_plain_row : Fd K mg "is_plain_row" s_is_plain_row
  f_both_halves : Fd K mg "both_halves" s_both_halves
  f_nearer_image : Fd K mg "nearer_image" s_nearer_image
  f_near_step : Fd K mg "near_step" s_near_step
  f_steps_down : Fd K mg "steps_down" s_steps_down
  f_is_renaming_in : Fd K mg "is_renaming_in" s_is_renaming_in
  f_is_renaming : Fd K mg "is_renaming" s_is_renaming
  f_sign_of : Fd K mg "sign_of" s_sign_of
  f_letter_of : Fd K mg "letter_of" s_letter_of
  f_text_of : Fd K mg "text_of" s_text_of
  f_letters_at : Fd K mg "letters_at" s_letters_at
  f_row_text : Fd K mg "row_text" s_row_text
  f_read_letters : Fd K mg "read_letters" s_read_letters
  f_read_row : Fd K mg "read_row" s_read_row
  f_behind_head : Fd K mg "behind_head" s_behind_head
  f_read_renaming : Fd K mg "read_renaming" s_read_renaming
  f_renaming_text : Fd K mg "renaming_text" s_renaming_text
  f_l_blended : Fd K mg "_law_blended" s_l_blended
  f_l_draw : Fd K mg "_law_draw" s_l_draw
  f_l_pick : Fd K mg "_law_pick" s_l_pick
  f_l_begun : Fd K mg "_law_begun" s_l_begun
  f_l_mk_plain : Fd K mg "_law_mk_plain" s_l_mk_plain
  f_l_mk_undone : Fd K mg "_law_mk_undone" s_l_mk_undone
  f_l_mk_letters : Fd K mg "_law_mk_letters" s_l_mk_letters
  f_l_mk_row : Fd K mg "_law_mk_row" s_l_mk_row
  f_l_mr_times : Fd K mg "_law_mr_times" s_l_mr_times
  f_l_mr_turned : Fd K mg "_law_mr_turned" s_l_mr_turned
  f_l_mk_raw : Fd K mg "_law_mk_raw" s_l_mk_raw
  f_l_mr_row : Fd K mg "_law_mr_row" s_l_mr_row
  f_l_mr_whole : Fd K mg "_law_mr_whole" s_l_mr_whole
  f_l_mr_same : Fd K mg "_law_mr_same" s_l_mr_same
  f_l_mk_bad_deeds : Fd K mg "_law_mk_bad_deeds" s_l_mk_bad_deeds
  f_l_mk_bad_row : Fd K mg "_law_mk_bad_row" s_l_mk_bad_row
  f_l_mr_text : Fd K mg "_law_mr_text" s_l_mr_text
  f_l_mr_letter : Fd K mg "_law_mr_letter" s_l_mr_letter
  f_l_mr_images_text : Fd K mg "_law_mr_images_text" s_l_mr_images_text
  f_l_mr_read_row : Fd K mg "_law_mr_read_row" s_l_mr_read_row
  f_l_mr_near_text : Fd K mg "_law_mr_near_text" s_l_mr_near_text
  f_l_mr_read_images : Fd K mg "_law_mr_read_images" s_l_mr_read_images
  f_l_mk_renamed : Fd K mg "_law_mk_renamed" s_l_mk_renamed
  f_l_mk_renaming : Fd K mg "_law_mk_renaming" s_l_mk_renaming
  f_l_caught : Fd K mg "_law_caught" s_l_caught
  f_l_mr_row_texts : Fdc K mg "_law_mr_row_texts" s_l_mr_row_texts c1
  f_l_mr_renaming_texts : Fdc K mg "_law_mr_renaming_texts" s_l_mr_renaming_texts c2
  f_law : Fdc K mg "law" s_law c3
abbrev lawT (P1 P2 P3 : Addr) : List (Addr × Str) := [(P1, lamQ "_law_mr_row_texts"), (P2, lamQ "_law_mr_renaming_texts"), (P3, lamQ "law")]
theorem all_law {P : Program} {w : World} {K : PySem.W.Frag} {mg : Str → Option Value} {base : Heap} {CD CR CN CT CS c1 c2 c3 P1 P2 P3 : Addr} (h : TopF P K mg CD CR CN CT CS c1 c2 c3) (TB1 : TabB base mg c1 P1) (TB2 : TabB base mg c2 P2) (TB3 : TabB base mg c3 P3) (n12 : P1 ≠ P2) (n13 : P1 ≠ P3) (n23 : P2 ≠ P3) :
    Df P w K mg base (L2.CX P w) 13 "law" ["_law_script"] (spLaw K (lawT P1 P2 P3)) := by
  have u1 : ∀ p ∈ lawT P1 P2 P3, p.1 = P1 → p.2 = lamQ "_law_mr_row_texts" := fun p hp e => by
    simp only [lawT, List.mem_cons, List.not_mem_nil, or_false] at hp
    rcases hp with rfl | rfl | rfl
    · rfl
    · exact absurd e.symm n12
    · exact absurd e.symm n13
  have u2 : ∀ p ∈ lawT P1 P2 P3, p.1 = P2 → p.2 = lamQ "_law_mr_renaming_texts" := fun p hp e => by
    simp only [lawT, List.mem_cons, List.not_mem_nil, or_false] at hp
    rcases hp with rfl | rfl | rfl
    · exact absurd e n12
    · rfl
    · exact absurd e.symm n23
  have u3 : ∀ p ∈ lawT P1 P2 P3, p.1 = P3 → p.2 = lamQ "law" := fun p hp e => by
    simp only [lawT, List.mem_cons, List.not_mem_nil, or_false] at hp
    rcases hp with rfl | rfl | rfl
    · exact absurd e n13
    · exact absurd e n23
    · rfl
  have d_is_whole : Df P w K mg base _ _ "is_whole" _ _ := ok_is_whole h.B h.f_is_whole
  have d_is_between : Df P w K mg base _ _ "is_between" _ _ := ok_is_between h.f_is_between d_is_whole
  have d_need_deeds : Df P w K mg base _ _ "need_deeds" _ _ := ok_need_deeds h.ED h.gMD h.f_need_deeds d_is_between
  have d_fits_letter : Df P w K mg base _ _ "fits_letter" _ _ := ok_fits_letter h.f_fits_letter d_is_between
  have d_fits_row : Df P w K mg base _ _ "fits_row" _ _ := ok_fits_row h.B h.gMR h.f_fits_row d_fits_letter
  have d_plain_of : Df P w K mg base _ _ "plain_of" _ _ := ok_plain h.B h.f_plain_of
  have d_undone_of : Df P w K mg base _ _ "undone_of" _ _ := ok_undone h.B h.f_undone_of
  have d_need_row : Df P w K mg base _ _ "need_row" _ _ := ok_need_row h.ER h.f_need_row d_fits_row d_plain_of
  have d_letters_gone : Df P w K mg base _ _ "letters_gone" _ _ := ok_gone h.B h.f_letters_gone
  have d_is_plain_row : Df P w K mg base _ _ "is_plain_row" _ _ := ok_is_plain_row h.B h.f_is_plain_row d_is_whole
  have d_both_halves : Df P w K mg base _ _ "both_halves" _ _ := ok_halves h.B h.f_both_halves d_undone_of
  have d_nearer_image : Df P w K mg base _ _ "nearer_image" _ _ := ok_nearer h.B h.f_nearer_image d_undone_of d_letters_gone d_both_halves
  have d_near_step : Df P w K mg base _ _ "near_step" _ _ := ok_near h.B h.f_near_step d_nearer_image
  have d_steps_down : Df P w K mg base _ _ "steps_down" _ _ := ok_down h.B h.f_steps_down d_near_step
  have d_is_renaming_in : Df P w K mg base _ _ "is_renaming_in" _ _ := ok_ren_in h.B h.f_is_renaming_in d_is_plain_row d_steps_down
  have d_is_renaming : Df P w K mg base _ _ "is_renaming" _ _ := ok_ren h.f_is_renaming d_need_deeds d_is_renaming_in
  have d_sign_of : Df P w K mg base _ _ "sign_of" _ _ := ok_sign h.gDo h.gUn h.f_sign_of
  have d_letter_of : Df P w K mg base _ _ "letter_of" _ _ := ok_letter_of h.gDo h.gUn h.f_letter_of
  have d_text_of : Df P w K mg base _ _ "text_of" _ _ := ok_text h.f_text_of d_sign_of
  have d_letters_at : Df P w K mg base _ _ "letters_at" _ _ := ok_letters_at h.f_letters_at d_letter_of
  have d_row_text : Df P w K mg base _ _ "row_text" _ _ := ok_row_text h.f_row_text d_need_deeds d_need_row d_text_of
  have d_read_letters : Df P w K mg base _ _ "read_letters" _ _ := ok_read_letters h.B h.ET h.gMR h.f_read_letters d_letters_at
  have d_read_row : Df P w K mg base _ _ "read_row" _ _ := ok_read_row h.f_read_row d_need_deeds d_read_letters d_plain_of
  have d_behind_head : Df P w K mg base _ _ "behind_head" _ _ := ok_head h.ET h.f_behind_head
  have d_read_renaming : Df P w K mg base _ _ "read_renaming" _ _ := ok_read_ren h.B h.ET h.EN h.f_read_renaming d_need_deeds d_behind_head d_sign_of d_letters_at d_plain_of d_is_renaming
  have d_renaming_text : Df P w K mg base _ _ "renaming_text" _ _ := ok_ren_text h.B h.EN h.f_renaming_text d_need_deeds d_is_renaming d_sign_of d_text_of
  have d_l_blended : Df P w K mg base _ _ "_law_blended" _ _ := ok_blended h.B h.f_l_blended
  have d_l_draw : Df P w K mg base _ _ "_law_draw" _ _ := ok_draw h.B h.f_l_draw d_l_blended
  have d_l_pick : Df P w K mg base _ _ "_law_pick" _ _ := ok_pick h.B h.f_l_pick d_l_draw
  have d_l_begun : Df P w K mg base _ _ "_law_begun" _ _ := ok_begun h.B h.f_l_begun
  have d_l_mk_plain : Df P w K mg base _ _ "_law_mk_plain" _ _ := ok_mk_plain h.B h.f_l_mk_plain
  have d_l_mk_undone : Df P w K mg base _ _ "_law_mk_undone" _ _ := ok_mk_undone h.B h.f_l_mk_undone
  have d_l_mk_letters : Df P w K mg base _ _ "_law_mk_letters" _ _ := ok_mk_letters h.B h.f_l_mk_letters
  have d_l_mk_row : Df P w K mg base _ _ "_law_mk_row" _ _ := ok_mk_row h.B h.f_l_mk_row d_l_draw d_l_pick d_l_mk_letters
  have d_l_mr_times : Df P w K mg base _ _ "_law_mr_times" _ _ := ok_times h.B h.f_l_mr_times d_l_mk_undone d_l_mk_plain
  have d_l_mr_turned : Df P w K mg base _ _ "_law_mr_turned" _ _ := ok_turned h.f_l_mr_turned d_l_mk_undone d_l_mk_plain
  have d_l_mk_raw : Df P w K mg base _ _ "_law_mk_raw" _ _ := ok_raw h.B h.f_l_mk_raw d_l_draw d_l_pick d_l_mk_letters
  have d_l_mr_row : Df P w K mg base _ _ "_law_mr_row" _ _ := ok_lrow h.f_l_mr_row d_l_draw d_l_mk_row d_l_mr_times d_l_mr_turned d_l_mk_raw
  have d_l_mr_whole : Df P w K mg base _ _ "_law_mr_whole" _ _ := ok_lwhole h.B h.f_l_mr_whole
  have d_l_mr_same : Df P w K mg base _ _ "_law_mr_same" _ _ := ok_same h.B h.f_l_mr_same d_l_mr_whole
  have d_l_mk_bad_deeds : Df P w K mg base _ _ "_law_mk_bad_deeds" _ _ := ok_bad_deeds h.f_l_mk_bad_deeds d_l_pick
  have d_l_mk_bad_row : Df P w K mg base _ _ "_law_mk_bad_row" _ _ := ok_bad_row h.f_l_mk_bad_row d_l_pick
  have d_l_mr_text : Df P w K mg base _ _ "_law_mr_text" _ _ := ok_ltext h.f_l_mr_text
  have d_l_mr_letter : Df P w K mg base _ _ "_law_mr_letter" _ _ := ok_lletter h.B h.f_l_mr_letter
  have d_l_mr_images_text : Df P w K mg base _ _ "_law_mr_images_text" _ _ := ok_limgs h.B h.f_l_mr_images_text d_l_mr_text
  have d_l_mr_read_row : Df P w K mg base _ _ "_law_mr_read_row" _ _ := ok_lread h.B h.f_l_mr_read_row d_l_mr_letter
  have d_l_mr_near_text : Df P w K mg base _ _ "_law_mr_near_text" _ _ := ok_near_text h.B h.f_l_mr_near_text d_l_draw d_l_pick
  have d_l_mr_read_images : Df P w K mg base _ _ "_law_mr_read_images" _ _ := ok_limgs_read h.B h.f_l_mr_read_images d_l_mr_letter d_l_mr_read_row
  have d_l_mk_renamed : Df P w K mg base _ _ "_law_mk_renamed" _ _ := ok_renamed h.B h.f_l_mk_renamed d_l_mk_undone d_l_mk_plain
  have d_l_mk_renaming : Df P w K mg base _ _ "_law_mk_renaming" _ _ := ok_mk_ren h.B h.f_l_mk_renaming d_l_draw d_l_mk_undone d_l_mk_plain d_l_mk_renamed
  have d_l_mr_row_texts : Df P w K mg base _ _ "_law_mr_row_texts" _ _ := ok_row_texts h.B h.EF h.f_l_mr_row_texts h.f_l_caught TB1 (by simp) u1 h.f_row_text h.f_read_row d_row_text d_read_row d_l_mr_row d_l_mr_text d_l_mk_plain d_l_mr_same d_l_mr_near_text d_l_draw d_l_mr_read_row d_l_mr_whole
  have d_l_mr_renaming_texts : Df P w K mg base _ _ "_law_mr_renaming_texts" _ _ := ok_ren_texts h.B h.EF h.f_l_mr_renaming_texts h.f_l_caught TB2 (by simp) u2 h.f_renaming_text h.f_read_renaming d_renaming_text d_read_renaming d_l_mk_renaming d_l_draw d_l_mr_images_text d_l_mr_same d_l_mk_raw d_l_mr_near_text d_l_mr_read_images d_l_mk_plain
  exact ok_law h.B h.EF h.f_law h.f_l_caught TB3 (by simp) u3 d_row_text d_read_row d_renaming_text d_read_renaming d_l_begun d_l_draw d_l_pick d_l_mk_bad_deeds d_l_mk_bad_row d_l_mr_row_texts d_l_mr_renaming_texts
end My
set_option maxHeartbeats 0
namespace Hd
open PySem PySem.Spec PyProof.Rows L2 LamX
open My (ErT Er EFacts TopF Fd Fdc Bt)
/-! ### the class BadText: its __init__ as it stands in the text -/
def clsBody : Stmt → List Stmt
  | .ClassDef _ _ _ b _ _ _ _ _ _ _ => b
  | _ => []
def initSt : Stmt := (clsBody (My.top 5)).getD 0 (.Pass ⟨0, 0, 0, 0⟩)
abbrev FnS : Type := Option (Str × Str × Arguments × FuncBody × Scope × Addr × List Str × Addr)
def fnS (K : PySem.W.Frag) (f : Addr) : FnS := match K.lookup f with
  | some ⟨_, _, .func fd, _⟩ => some (fd.name, fd.qualname, fd.params, fd.body, fd.scope, fd.globals, fd.closure.map (·.1), fd.builtins)
  | _ => none
def svVal : FnS := some ("__init__", "BadText.__init__", defArgs initSt, .stmts (defBody initSt), defScope initSt, mainGlobals, ["__class__"], builtinsNs)
def fnB (P : Program) (K : PySem.W.Frag) (f C : Addr) : Bool := match K.lookup f with
  | some ⟨_, _, .func fd, _⟩ => (match fd.defaults, fd.kwdefaults, fd.code, fd.closure with
    | .none, .none, .ref cda, [(_, cc)] => PySem.W.codeIn K (.ref cda) fd.qualname && ((match K.lookup cda with
      | some ⟨_, _, .fields vs, _⟩ => (match (vs[2]? : Option Value) with
        | some (.str file _) => decide (P.main.file = file)
        | _ => false)
      | _ => false) && (match K.lookup cc with
      | some ⟨_, _, .cell (some (.ref C')), _⟩ => decide (C' = C)
      | _ => false))
    | _, _, _, _ => false)
  | _ => false
theorem fn_facts {P : Program} {K : PySem.W.Frag} {f C : Addr} (e : fnS K f = svVal) (b : fnB P K f C = true) :
    ∃ (cc : Addr) (oc : Value) (od : Option Addr) (doc pm : Value) (an : Option Addr) (cda : Addr) (ct : Value) (osl : Array (Option Value)), K.lookup f = some ⟨oc, od, .func (PySem.W.ksFn "__init__" "BadText.__init__" (defArgs initSt) (defBody initSt) (defScope initSt) .none .none doc pm an (.ref cda) ct cc), osl⟩ ∧
      PySem.W.codeIn K (.ref cda) "BadText.__init__" = true ∧ (∃ ccl cdd vs ccs file tf, K.lookup cda = some ⟨ccl, cdd, .fields vs, ccs⟩ ∧ vs[2]? = some (.str file tf) ∧ ((P.main.file : Str) == file) = true) ∧ ∃ cl cld csl, K.lookup cc = some ⟨cl, cld, .cell (some (.ref C)), csl⟩ := by
  unfold fnS at e
  unfold fnB at b
  cases q : K.lookup f with
  | none => rw [q] at b; cases b
  | some o =>
    obtain ⟨oc, od, dt, osl⟩ := o
    rw [q] at b e
    cases dt with
    | func fd =>
      obtain ⟨n1, n2, n3, n4, n5, n6, n7, n8, n9, n10, n11, n12, n13, n14, n15⟩ := fd
      have e2 : (some (n1, n2, n3, n4, n5, n6, n7.map (·.1), n15) : FnS) = svVal := e
      unfold svVal at e2
      simp only [Option.some.injEq, Prod.mk.injEq] at e2
      obtain ⟨h1, h2, h3, h4, h5, h6, h7, h8⟩ := e2
      subst h1 h2 h3 h4 h5 h6 h8
      simp only at b
      split at b
      · rename_i cda x cc
        have h7 : x = "__class__" := by simpa using h7
        subst h7
        obtain ⟨b1, b2⟩ := He.ba b
        obtain ⟨b3, b4⟩ := He.ba b2
        refine ⟨cc, oc, od, n10, n11, n12, cda, n14, osl, rfl, b1, ?_, ?_⟩
        · split at b3
          · rename_i ccl cdd vs ccs hk
            split at b3
            · rename_i file tf hv
              have := of_decide_eq_true b3
              exact ⟨_, _, _, _, file, tf, hk, hv, by rw [this]; exact beq_self_eq_true _⟩
            · cases b3
          · cases b3
        · split at b4
          · rename_i cl cld C' csl hk
            obtain rfl := of_decide_eq_true b4
            exact ⟨_, _, _, hk⟩
          · cases b4
      · cases b
    | _ => cases b
def clsB (K : PySem.W.Frag) (C : Addr) : Bool := match K.lookup C with
  | some ⟨.type t, _, .cls cd, sl⟩ => decide (t = "type") && (match cd.mro, sl.toList with
    | .ref C' :: bm, [_, _, _, _, some (.builtin n), _] => decide (C' = C) && (decide (n = "ValueError.__new__") && (cd.hasDict && (!cd.hasDel && (PySem.HandSPX.refsVE bm && He.eqO (PySem.W.alongIn K "__init__" bm) (some (some (.builtin "ValueError.__init__")))))))
    | _, _ => false)
  | _ => false
theorem cls_facts {K : PySem.W.Frag} {C : Addr} (b : clsB K C = true) : ∃ nm q N bs bm sn sub ab col dd k0 k1 k2 k3 k5, K.lookup C = some (excClassObj nm q C N bs bm true sn sub ab col dd k0 k1 k2 k3 k5 "ValueError.__new__") ∧ PySem.HandSPX.refsVE bm = true ∧
    PySem.W.alongIn K "__init__" bm = some (some (.builtin "ValueError.__init__")) := by
  unfold clsB at b
  split at b
  · rename_i t dd cd sl hk
    obtain ⟨b1, b2⟩ := He.ba b
    split at b2
    · rename_i C' bm k0 k1 k2 k3 n k5 hm hs
      obtain ⟨c1, b2⟩ := He.ba b2
      obtain ⟨c2, b2⟩ := He.ba b2
      obtain ⟨c3, b2⟩ := He.ba b2
      obtain ⟨c4, b2⟩ := He.ba b2
      obtain ⟨c5, c6⟩ := He.ba b2
      obtain rfl := of_decide_eq_true b1
      obtain rfl := of_decide_eq_true c1
      obtain rfl := of_decide_eq_true c2
      obtain ⟨nm, bs, mro, ns, qn, hd, sn, sb, ab, col, del⟩ := cd
      simp only at hm c3 c4
      subst hm c3
      have hdel : del = false := by simpa using c4
      subst hdel
      obtain ⟨l⟩ := sl
      have hs : l = _ := hs
      subst hs
      exact ⟨nm, qn, ns, bs, bm, sn, sb, ab, col, dd, k0, k1, k2, k3, k5, hk, c5, He.eqO_ok c6⟩
    · cases b2
  · cases b
def excCB (K : PySem.W.Frag) (D : Addr) : Bool := He.eqO (PySem.W.findIn K (.ref D) "__getattribute__") (some (some (.builtin "BaseException.__getattribute__"))) && (He.eqO (PySem.W.findIn K (.ref D) "__getattr__") (some none) && (decide (PySem.W.subIn K (.ref D) (.type "BaseException") = some true) && (PySem.W.hasDictIn K D && (He.eqO (PySem.W.findIn K (.ref D) "__class__") (some (some (.builtin "object.__class__"))) &&
  (He.eqO (PySem.W.specialIn K (.builtin "object.__class__") "__get__") (some (some (.builtin "getset_descriptor.__get__"))) && (decide (PySem.W.takesIn K (.builtin "object.__class__") = some true) && decide (PySem.W.mroIn K D (.type "object") = some true)))))))
theorem excC_ok {K : PySem.W.Frag} {D : Addr} (b : excCB K D = true) : ExcC K D := by
  obtain ⟨b1, b⟩ := He.ba b
  obtain ⟨b2, b⟩ := He.ba b
  obtain ⟨b3, b⟩ := He.ba b
  obtain ⟨b4, b⟩ := He.ba b
  obtain ⟨b5, b⟩ := He.ba b
  obtain ⟨b6, b⟩ := He.ba b
  obtain ⟨b7, b8⟩ := He.ba b
  exact ⟨He.eqO_ok b1, He.eqO_ok b2, of_decide_eq_true b3, b4, He.eqO_ok b5, He.eqO_ok b6, of_decide_eq_true b7, of_decide_eq_true b8⟩
/-- what is looked at beyond the library's facts -/
def kitB2 (K : PySem.W.Frag) (t : Value) (C : Addr) (b : Bool) : Bool := decide (PySem.W.kitOne K t (.ref C) = some b)
def supB (P : Program) (K : PySem.W.Frag) : Bool :=
  let C := He.ga K "BadText"
  let f := He.ma K C "__init__"
  clsB K C && (fnB P K f C && (He.eqO (PySem.W.findIn K (.ref C) "__setattr__") (some (some (.builtin "object.__setattr__"))) && (He.eqO (PySem.W.findIn K (.ref C) "at") (some none) && (He.eqO (PySem.W.findIn K (.ref C) "__init__") (some (some (.ref f))) && (decide (PySem.W.typeIn K (.ref f) = some (.type "function")) &&
  (PySem.W.keepIn K (.ref C) && (decide (PySem.W.subIn K (.ref C) (.type "BaseException") = some true) && (decide (PySem.W.subIn K (.ref C) (.type "ValueError") = some true) && (decide (PySem.W.typeIn K (.ref C) = some (.type "type")) && He.eqO (PySem.W.nsIn K cStatics "thirdparty.any") (some none))))))))))
def moreB (P : Program) (K : PySem.W.Frag) : Bool :=
  let D := He.ga K "BadDeeds"
  let R := He.ga K "BadRow"
  let N := He.ga K "BadRenaming"
  let C := He.ga K "BadText"
  supB P K && (excCB K D && (excCB K R && (excCB K N && (excCB K C && (kitB2 K (.ref D) D true && (kitB2 K (.ref R) R true && (kitB2 K (.ref N) N true && (kitB2 K (.ref C) C true && (kitB2 K (.ref N) C false && (kitB2 K (.ref C) N false && (kitB2 K (.type "NoneType") C false && (kitB2 K (.type "NoneType") N false && (xfB K C && (decide ((He.cT K ("_law_mr_row_texts", none)).2 ≠ (He.cT K ("_law_mr_renaming_texts", none)).2) && (decide ((He.cT K ("_law_mr_row_texts", none)).2 ≠ (He.cT K ("law", none)).2) && (decide ((He.cT K ("_law_mr_renaming_texts", none)).2 ≠ (He.cT K ("law", none)).2)))))))))))))))))
theorem init_txt : ∃ (j : Nat) (p1 p2 a1 a2 a3 a4 a5 a6 q1 q2 q3 q4 : Pos), defArgs initSt = SupX.iA "at" p1 p2 ∧ defBody initSt = SupX.iB "at" "no text as wanted" j a1 a2 a3 a4 a5 a6 q1 q2 q3 q4 ∧ defScope initSt = SupX.iS "at" ∧ (a3.endLine == a5.line) = true := ⟨_, _, _, _, _, _, _, _, _, _, _, _, _, rfl, rfl, rfl, rfl⟩
theorem sup_facts {P : Program} {K : PySem.W.Frag} {mg : Str → Option Value} (e : fnS K (He.ma K (He.ga K "BadText") "__init__") = svVal) (b : supB P K = true) (gC : mg "BadText" = some (.ref (He.ga K "BadText"))) (sup : mg "super" = none) (tp : (P.main.scope.names.lookup ("super" : Str)).isSome = false) :
    ErT P K mg (He.ga K "BadText") := by
  obtain ⟨b1, b⟩ := He.ba b
  obtain ⟨b2, b⟩ := He.ba b
  obtain ⟨b3, b⟩ := He.ba b
  obtain ⟨b4, b⟩ := He.ba b
  obtain ⟨b5, b⟩ := He.ba b
  obtain ⟨b6, b⟩ := He.ba b
  obtain ⟨b7, b⟩ := He.ba b
  obtain ⟨b8, b⟩ := He.ba b
  obtain ⟨b9, b⟩ := He.ba b
  obtain ⟨b10, b11⟩ := He.ba b
  obtain ⟨cc, oc, od, doc, pm, an, cda, ct, osl, f1, f2, f3, f4⟩ := fn_facts e b2
  obtain ⟨j, p1, p2, a1, a2, a3, a4, a5, a6, q1, q2, q3, q4, t1, t2, t3, t4⟩ := init_txt
  rw [t1, t2, t3] at f1
  exact ⟨_, cc, ⟨gC, cls_facts b1, He.eqO_ok b3, He.eqO_ok b4, He.eqO_ok b5, of_decide_eq_true b6, b7, of_decide_eq_true b8, of_decide_eq_true b9, of_decide_eq_true b10, He.eqO_ok b11, sup, f4, tp, ⟨oc, od, doc, pm, an, cda, ct, osl, "BadText.__init__", j, p1, p2, a1, a2, a3, a4, a5, a6, q1, q2, q3, q4, f1, f2, t4, f3⟩⟩⟩
/-! ### the facts -/
def dd (x : Str) (s : Stmt) : He.DefD := ⟨(x, none), x, x, defArgs s, defBody s, defScope s, [], []⟩
def fn : List He.DefD := [dd "is_whole" My.s_is_whole, dd "is_between" My.s_is_between, dd "need_deeds" My.s_need_deeds, dd "fits_letter" My.s_fits_letter, dd "fits_row" My.s_fits_row, dd "plain_of" My.s_plain_of, dd "undone_of" My.s_undone_of, dd "need_row" My.s_need_row, dd "is_plain_row" My.s_is_plain_row, dd "letters_gone" My.s_letters_gone, dd "both_halves" My.s_both_halves, dd "nearer_image" My.s_nearer_image, dd "near_step" My.s_near_step, dd "steps_down" My.s_steps_down, dd "is_renaming_in" My.s_is_renaming_in, dd "is_renaming" My.s_is_renaming, dd "sign_of" My.s_sign_of, dd "letter_of" My.s_letter_of, dd "text_of" My.s_text_of, dd "letters_at" My.s_letters_at, dd "row_text" My.s_row_text, dd "read_letters" My.s_read_letters, dd "read_row" My.s_read_row, dd "renaming_text" My.s_renaming_text, dd "behind_head" My.s_behind_head, dd "read_renaming" My.s_read_renaming, dd "_law_begun" My.s_l_begun, dd "_law_blended" My.s_l_blended, dd "_law_draw" My.s_l_draw, dd "_law_pick" My.s_l_pick, dd "_law_caught" My.s_l_caught, dd "_law_mk_plain" My.s_l_mk_plain, dd "_law_mk_undone" My.s_l_mk_undone, dd "_law_mk_letters" My.s_l_mk_letters, dd "_law_mk_row" My.s_l_mk_row, dd "_law_mk_raw" My.s_l_mk_raw, dd "_law_mk_renamed" My.s_l_mk_renamed, dd "_law_mk_renaming" My.s_l_mk_renaming, dd "_law_mk_bad_deeds" My.s_l_mk_bad_deeds, dd "_law_mk_bad_row" My.s_l_mk_bad_row, dd "_law_mr_whole" My.s_l_mr_whole, dd "_law_mr_same" My.s_l_mr_same, dd "_law_mr_times" My.s_l_mr_times, dd "_law_mr_turned" My.s_l_mr_turned, dd "_law_mr_row" My.s_l_mr_row, dd "_law_mr_text" My.s_l_mr_text, dd "_law_mr_images_text" My.s_l_mr_images_text, dd "_law_mr_letter" My.s_l_mr_letter, dd "_law_mr_read_row" My.s_l_mr_read_row, dd "_law_mr_read_images" My.s_l_mr_read_images, dd "_law_mr_near_text" My.s_l_mr_near_text, dd "_law_mr_row_texts" My.s_l_mr_row_texts, dd "_law_mr_renaming_texts" My.s_l_mr_renaming_texts, dd "law" My.s_law]
def fa0 : List He.Fa := [.glo "is_whole", .glo "is_between", .glo "need_deeds", .glo "fits_letter", .glo "fits_row", .glo "plain_of", .glo "undone_of", .glo "need_row", .glo "is_plain_row", .glo "letters_gone", .glo "both_halves", .glo "nearer_image", .glo "near_step", .glo "steps_down", .glo "is_renaming_in", .glo "is_renaming", .glo "sign_of", .glo "letter_of", .glo "text_of", .glo "letters_at"]
def fa1 : List He.Fa := [.glo "row_text", .glo "read_letters", .glo "read_row", .glo "renaming_text", .glo "behind_head", .glo "read_renaming", .glo "_law_begun", .glo "_law_blended", .glo "_law_draw", .glo "_law_pick", .glo "_law_caught", .glo "_law_mk_plain", .glo "_law_mk_undone", .glo "_law_mk_letters", .glo "_law_mk_row", .glo "_law_mk_raw", .glo "_law_mk_renamed", .glo "_law_mk_renaming", .glo "_law_mk_bad_deeds", .glo "_law_mk_bad_row"]
def fa2 : List He.Fa := [.glo "_law_mr_whole", .glo "_law_mr_same", .glo "_law_mr_times", .glo "_law_mr_turned", .glo "_law_mr_row", .glo "_law_mr_text", .glo "_law_mr_images_text", .glo "_law_mr_letter", .glo "_law_mr_read_row", .glo "_law_mr_read_images", .glo "_law_mr_near_text", .glo "_law_mr_row_texts", .glo "_law_mr_renaming_texts", .glo "law", .glo "KeepError", .glo "BadDeeds", .glo "BadRow", .glo "BadRenaming", .glo "BadText", .free "isinstance"]
def fa3 : List He.Fa := [.free "int", .free "bool", .free "str", .free "tuple", .free "list", .free "len", .free "all", .free "abs", .free "range", .free "min", .free "sorted", .free "reversed", .free "enumerate", .free "super", .int "MOST_DEEDS" 4, .int "MOST_IN_ROW" 200, .str "DONE" "abcd", .str "UNDONE" "ABCD", .exc "BadDeeds", .exc "BadRow"]
def fa4 : List He.Fa := [.exc "BadRenaming", .exm "BadDeeds" "KeepError" true, .exm "BadRow" "KeepError" true, .exm "BadRenaming" "KeepError" true, .exm "BadText" "KeepError" true]
def fa : List He.Fa := fa0 ++ (fa1 ++ (fa2 ++ (fa3 ++ (fa4))))
def tf : List He.Defn := [("_law_mr_row_texts", none), ("_law_mr_renaming_texts", none), ("law", none)]
/-! ### the Hook -/
def frS (n : Nat) (g : Addr → Option Obj) : PySem.W.Frag := He.frT g (He.asD g n ++ [cStatics])
abbrev AlS : Type := (He.AlD × Bool) × FnS
def obsS (P : Program) (n : Nat) (g : Addr → Option Obj) : AlS := ((He.obsD fa fn (frS n g), moreB P (frS n g) && He.tabsB g tf (frS n g)), fnS (frS n g) (He.ma (frS n g) (He.ga (frS n g) "BadText") "__init__"))
def valS : AlS := ((He.valD fn, true), svVal)
structure SaysS (P : Program) (h : Heap) (K : PySem.W.Frag) : Prop where
  d : He.SaysD fa fn K
  more : moreB P K = true
  sv : fnS K (He.ma K (He.ga K "BadText") "__init__") = svVal
  hd : ∀ p ∈ tf, PySem.W.codeHdIn K (He.cT K p).1 (He.cT K p).2 = true
  out : ∀ p ∈ tf, K.lookup (He.cT K p).2 = none
  empty : ∀ p ∈ tf, h.get? (He.cT K p).2 = some { cls := .none, data := .fields #[] }
theorem saysS_of {P : Program} {n : Nat} {h : Heap} (e : obsS P n h.get? = valS) : SaysS P h (frS n h.get?) := by
  have e1 : He.obsD fa fn (frS n h.get?) = He.valD fn := congrArg (fun z : AlS => z.1.1) e
  have e2 : (moreB P (frS n h.get?) && He.tabsB h.get? tf (frS n h.get?)) = true := congrArg (fun z : AlS => z.1.2) e
  have e3 : fnS (frS n h.get?) (He.ma (frS n h.get?) (He.ga (frS n h.get?) "BadText") "__init__") = svVal := congrArg (fun z : AlS => z.2) e
  obtain ⟨h1, h2⟩ := He.ba e2
  have key : ∀ p ∈ tf, PySem.W.codeHdIn (frS n h.get?) (He.cT (frS n h.get?) p).1 (He.cT (frS n h.get?) p).2 = true ∧ ∃ o, h.get? (He.cT (frS n h.get?) p).2 = some o ∧ He.emptyTab o = true := fun p hp => by
    obtain ⟨h3, h4⟩ := He.ba (List.all_eq_true.mp h2 p hp)
    refine ⟨h3, ?_⟩
    cases q : h.get? (He.cT (frS n h.get?) p).2 with
    | none =>
      rw [q] at h4
      cases h4
    | some o =>
      rw [q] at h4
      exact ⟨o, rfl, h4⟩
  exact ⟨e1, h1, e3, fun p hp => (key p hp).1, fun p hp => by
    obtain ⟨_, o, q, z⟩ := key p hp
    exact He.frT_none q z, fun p hp => by
    obtain ⟨_, o, q, z⟩ := key p hp
    rw [q, He.emptyTab_eq z]⟩
def hookS (P : Program) (n : Nat) : PySem.W.Hook where
  α := AlS
  obs := fun s => obsS P n s.heap.get?
  val := fun _ => valS
  says := fun _ h => ∃ K : PySem.W.Frag, K.In h ∧ SaysS P h K
  of := fun _ _ e => ⟨_, He.frT_in, saysS_of e⟩
  keeps := fun _ _ _ ⟨K, hK, c⟩ k => ⟨K, PySem.W.Frag.In.keeps hK k, ⟨c.d, c.more, c.sv, c.hd, c.out, fun p hp => k _ _ (c.empty p hp)⟩⟩
theorem obsS_eq {P : Program} {n : Nat} {g : Addr → Option Obj} {s : Shared} (h : ∀ a, g a = s.heap.get? a) : obsS P n g = (hookS P n).obs s := by
  have e : g = s.heap.get? := funext h
  rw [e] <;> rfl
/-! ### what the top leaves -/
theorem str_done : (PySem.Str.ofString "abcd") = SX.S [97, 98, 99, 100] := by decide +kernel
theorem str_undone : (PySem.Str.ofString "ABCD") = SX.S [65, 66, 67, 68] := by decide +kernel
section
variable {P : Program} {h : Heap} {K : PySem.W.Frag} {mg : Str → Option Value}
theorem er_of {x : Str} (X : K.In h) (G : h.Ns mainGlobals mg) (h1 : (He.Fa.glo x).ok K = true) (h2 : (He.Fa.exc x).ok K = true) : Er K mg x (He.ga K x) := by
  obtain ⟨e1, e2, e3, e4⟩ := He.exc_ok h2
  exact ⟨He.glo_ok X G h1, e1, e2, e3, e4⟩
theorem fd_of {x : Str} {st : Stmt} (X : K.In h) (G : h.Ns mainGlobals mg) (h1 : (He.Fa.glo x).ok K = true) (h2 : ∃ fd, FunD K x x (defArgs st) (defBody st) (defScope st) [] [] (He.fAd K (x, none)) fd) : Fd K mg x st := by
  obtain ⟨fd, F⟩ := h2
  exact ⟨He.ga K x, fd, F, He.glo_ok X G h1⟩
theorem fdc_of {x : Str} {st : Stmt} (X : K.In h) (G : h.Ns mainGlobals mg) (h1 : (He.Fa.glo x).ok K = true) (h2 : ∃ fd, FunD K x x (defArgs st) (defBody st) (defScope st) [] [] (He.fAd K (x, none)) fd) : Fdc K mg x st (He.cT K (x, none)).1 := by
  obtain ⟨fd, F⟩ := h2
  refine ⟨He.ga K x, fd, F, He.glo_ok X G h1, ?_⟩
  obtain ⟨oc, od, dV, kV, doc, pm, an, cdv, ct, osl, rfl, lk, hcd, hD, hK⟩ := F.ex
  obtain ⟨c', rfl⟩ := He.codeIn_ref hcd
  have := He.codeOf_eq (K := K) (p := (x, none)) lk rfl
  show Value.ref c' = .ref (He.codeOf K (x, none))
  rw [this]
theorem kit_of {t : Value} {C : Addr} {b : Bool} (h : kitB2 K t C b = true) : PySem.W.kitOne K t (.ref C) = some b := of_decide_eq_true h
theorem done_of (h : ∃ t, mg "DONE" = some (.str "abcd" t)) : ∃ t, mg "DONE" = some (.str (SX.S [97, 98, 99, 100]) t) := by
  rw [← str_done]
  exact h
theorem undone_of (h : ∃ t, mg "UNDONE" = some (.str "ABCD" t)) : ∃ t, mg "UNDONE" = some (.str (SX.S [65, 66, 67, 68]) t) := by
  rw [← str_undone]
  exact h
theorem top_of (X : K.In h) (G : h.Ns mainGlobals mg) (c : SaysS P h K) (tp : (P.main.scope.names.lookup ("super" : Str)).isSome = false) :
    TopF P K mg (He.ga K "BadDeeds") (He.ga K "BadRow") (He.ga K "BadRenaming") (He.ga K "BadText") (He.ga K "KeepError") (He.cT K ("_law_mr_row_texts", none)).1 (He.cT K ("_law_mr_renaming_texts", none)).1 (He.cT K ("law", none)).1 := by
  have d := c.d
  obtain ⟨m1, m⟩ := He.ba c.more
  obtain ⟨m2, m⟩ := He.ba m
  obtain ⟨m3, m⟩ := He.ba m
  obtain ⟨m4, m⟩ := He.ba m
  obtain ⟨m5, m⟩ := He.ba m
  obtain ⟨m6, m⟩ := He.ba m
  obtain ⟨m7, m⟩ := He.ba m
  obtain ⟨m8, m⟩ := He.ba m
  obtain ⟨m9, m⟩ := He.ba m
  obtain ⟨m10, m⟩ := He.ba m
  obtain ⟨m11, m⟩ := He.ba m
  obtain ⟨m12, m⟩ := He.ba m
  obtain ⟨m13, m⟩ := He.ba m
  obtain ⟨m14, m⟩ := He.ba m
  obtain ⟨_, s⟩ := He.ba m1
  obtain ⟨_, s⟩ := He.ba s
  obtain ⟨_, s⟩ := He.ba s
  obtain ⟨s4, s⟩ := He.ba s
  have gT := (He.glo_ok X G (d.fact 58 (f := .glo "BadText") rfl))
  refine ⟨⟨(He.free_ok X G (d.fact 59 (f := .free "isinstance") rfl)), (He.free_ok X G (d.fact 60 (f := .free "int") rfl)), (He.free_ok X G (d.fact 61 (f := .free "bool") rfl)), (He.free_ok X G (d.fact 62 (f := .free "str") rfl)), (He.free_ok X G (d.fact 63 (f := .free "tuple") rfl)), (He.free_ok X G (d.fact 64 (f := .free "list") rfl)), (He.free_ok X G (d.fact 65 (f := .free "len") rfl)), (He.free_ok X G (d.fact 66 (f := .free "all") rfl)), (He.free_ok X G (d.fact 67 (f := .free "abs") rfl)), (He.free_ok X G (d.fact 68 (f := .free "range") rfl)), (He.free_ok X G (d.fact 69 (f := .free "min") rfl)), (He.free_ok X G (d.fact 70 (f := .free "sorted") rfl)), (He.free_ok X G (d.fact 71 (f := .free "reversed") rfl)), (He.free_ok X G (d.fact 72 (f := .free "enumerate") rfl))⟩, He.int_ok X G (d.fact 74 (f := .int "MOST_DEEDS" 4) rfl), He.int_ok X G (d.fact 75 (f := .int "MOST_IN_ROW" 200) rfl), done_of (He.str_ok X G (d.fact 76 (f := .str "DONE" "abcd") rfl)), undone_of (He.str_ok X G (d.fact 77 (f := .str "UNDONE" "ABCD") rfl)), (er_of X G (d.fact 55 (f := .glo "BadDeeds") rfl) (d.fact 78 (f := .exc "BadDeeds") rfl)), (er_of X G (d.fact 56 (f := .glo "BadRow") rfl) (d.fact 79 (f := .exc "BadRow") rfl)), (er_of X G (d.fact 57 (f := .glo "BadRenaming") rfl) (d.fact 80 (f := .exc "BadRenaming") rfl)), sup_facts c.sv m1 gT (He.free_ok X G (d.fact 73 (f := .free "super") rfl)) tp,
    ⟨(He.glo_ok X G (d.fact 54 (f := .glo "KeepError") rfl)), (He.glo_ok X G (d.fact 55 (f := .glo "BadDeeds") rfl)), (He.glo_ok X G (d.fact 56 (f := .glo "BadRow") rfl)), (He.glo_ok X G (d.fact 57 (f := .glo "BadRenaming") rfl)), gT, (He.exm_ok (d.fact 81 (f := .exm "BadDeeds" "KeepError" true) rfl)), (He.exm_ok (d.fact 82 (f := .exm "BadRow" "KeepError" true) rfl)), (He.exm_ok (d.fact 83 (f := .exm "BadRenaming" "KeepError" true) rfl)), (He.exm_ok (d.fact 84 (f := .exm "BadText" "KeepError" true) rfl)), excC_ok m2, excC_ok m3, excC_ok m4, excC_ok m5, kit_of m6, kit_of m7, kit_of m8, kit_of m9, kit_of m10, kit_of m11, kit_of m12, kit_of m13, xfB_ok m14, He.eqO_ok s4⟩,
    (fd_of X G (d.fact 0 (f := .glo "is_whole") rfl) (d.def_ 0 (d := dd "is_whole" My.s_is_whole) rfl)),
    (fd_of X G (d.fact 1 (f := .glo "is_between") rfl) (d.def_ 1 (d := dd "is_between" My.s_is_between) rfl)),
    (fd_of X G (d.fact 2 (f := .glo "need_deeds") rfl) (d.def_ 2 (d := dd "need_deeds" My.s_need_deeds) rfl)),
    (fd_of X G (d.fact 3 (f := .glo "fits_letter") rfl) (d.def_ 3 (d := dd "fits_letter" My.s_fits_letter) rfl)),
    (fd_of X G (d.fact 4 (f := .glo "fits_row") rfl) (d.def_ 4 (d := dd "fits_row" My.s_fits_row) rfl)),
    (fd_of X G (d.fact 5 (f := .glo "plain_of") rfl) (d.def_ 5 (d := dd "plain_of" My.s_plain_of) rfl)),
    (fd_of X G (d.fact 6 (f := .glo "undone_of") rfl) (d.def_ 6 (d := dd "undone_of" My.s_undone_of) rfl)),
    (fd_of X G (d.fact 7 (f := .glo "need_row") rfl) (d.def_ 7 (d := dd "need_row" My.s_need_row) rfl)),
    (fd_of X G (d.fact 9 (f := .glo "letters_gone") rfl) (d.def_ 9 (d := dd "letters_gone" My.s_letters_gone) rfl)),
    (fd_of X G (d.fact 8 (f := .glo "is_plain_row") rfl) (d.def_ 8 (d := dd "is_plain_row" My.s_is_plain_row) rfl)),
    (fd_of X G (d.fact 10 (f := .glo "both_halves") rfl) (d.def_ 10 (d := dd "both_halves" My.s_both_halves) rfl)),
    (fd_of X G (d.fact 11 (f := .glo "nearer_image") rfl) (d.def_ 11 (d := dd "nearer_image" My.s_nearer_image) rfl)),
    (fd_of X G (d.fact 12 (f := .glo "near_step") rfl) (d.def_ 12 (d := dd "near_step" My.s_near_step) rfl)),
    (fd_of X G (d.fact 13 (f := .glo "steps_down") rfl) (d.def_ 13 (d := dd "steps_down" My.s_steps_down) rfl)),
    (fd_of X G (d.fact 14 (f := .glo "is_renaming_in") rfl) (d.def_ 14 (d := dd "is_renaming_in" My.s_is_renaming_in) rfl)),
    (fd_of X G (d.fact 15 (f := .glo "is_renaming") rfl) (d.def_ 15 (d := dd "is_renaming" My.s_is_renaming) rfl)),
    (fd_of X G (d.fact 16 (f := .glo "sign_of") rfl) (d.def_ 16 (d := dd "sign_of" My.s_sign_of) rfl)),
    (fd_of X G (d.fact 17 (f := .glo "letter_of") rfl) (d.def_ 17 (d := dd "letter_of" My.s_letter_of) rfl)),
    (fd_of X G (d.fact 18 (f := .glo "text_of") rfl) (d.def_ 18 (d := dd "text_of" My.s_text_of) rfl)),
    (fd_of X G (d.fact 19 (f := .glo "letters_at") rfl) (d.def_ 19 (d := dd "letters_at" My.s_letters_at) rfl)),
    (fd_of X G (d.fact 20 (f := .glo "row_text") rfl) (d.def_ 20 (d := dd "row_text" My.s_row_text) rfl)),
    (fd_of X G (d.fact 21 (f := .glo "read_letters") rfl) (d.def_ 21 (d := dd "read_letters" My.s_read_letters) rfl)),
    (fd_of X G (d.fact 22 (f := .glo "read_row") rfl) (d.def_ 22 (d := dd "read_row" My.s_read_row) rfl)),
    (fd_of X G (d.fact 24 (f := .glo "behind_head") rfl) (d.def_ 24 (d := dd "behind_head" My.s_behind_head) rfl)),
    (fd_of X G (d.fact 25 (f := .glo "read_renaming") rfl) (d.def_ 25 (d := dd "read_renaming" My.s_read_renaming) rfl)),
    (fd_of X G (d.fact 23 (f := .glo "renaming_text") rfl) (d.def_ 23 (d := dd "renaming_text" My.s_renaming_text) rfl)),
    (fd_of X G (d.fact 27 (f := .glo "_law_blended") rfl) (d.def_ 27 (d := dd "_law_blended" My.s_l_blended) rfl)),
    (fd_of X G (d.fact 28 (f := .glo "_law_draw") rfl) (d.def_ 28 (d := dd "_law_draw" My.s_l_draw) rfl)),
    (fd_of X G (d.fact 29 (f := .glo "_law_pick") rfl) (d.def_ 29 (d := dd "_law_pick" My.s_l_pick) rfl)),
    (fd_of X G (d.fact 26 (f := .glo "_law_begun") rfl) (d.def_ 26 (d := dd "_law_begun" My.s_l_begun) rfl)),
    (fd_of X G (d.fact 31 (f := .glo "_law_mk_plain") rfl) (d.def_ 31 (d := dd "_law_mk_plain" My.s_l_mk_plain) rfl)),
    (fd_of X G (d.fact 32 (f := .glo "_law_mk_undone") rfl) (d.def_ 32 (d := dd "_law_mk_undone" My.s_l_mk_undone) rfl)),
    (fd_of X G (d.fact 33 (f := .glo "_law_mk_letters") rfl) (d.def_ 33 (d := dd "_law_mk_letters" My.s_l_mk_letters) rfl)),
    (fd_of X G (d.fact 34 (f := .glo "_law_mk_row") rfl) (d.def_ 34 (d := dd "_law_mk_row" My.s_l_mk_row) rfl)),
    (fd_of X G (d.fact 42 (f := .glo "_law_mr_times") rfl) (d.def_ 42 (d := dd "_law_mr_times" My.s_l_mr_times) rfl)),
    (fd_of X G (d.fact 43 (f := .glo "_law_mr_turned") rfl) (d.def_ 43 (d := dd "_law_mr_turned" My.s_l_mr_turned) rfl)),
    (fd_of X G (d.fact 35 (f := .glo "_law_mk_raw") rfl) (d.def_ 35 (d := dd "_law_mk_raw" My.s_l_mk_raw) rfl)),
    (fd_of X G (d.fact 44 (f := .glo "_law_mr_row") rfl) (d.def_ 44 (d := dd "_law_mr_row" My.s_l_mr_row) rfl)),
    (fd_of X G (d.fact 40 (f := .glo "_law_mr_whole") rfl) (d.def_ 40 (d := dd "_law_mr_whole" My.s_l_mr_whole) rfl)),
    (fd_of X G (d.fact 41 (f := .glo "_law_mr_same") rfl) (d.def_ 41 (d := dd "_law_mr_same" My.s_l_mr_same) rfl)),
    (fd_of X G (d.fact 38 (f := .glo "_law_mk_bad_deeds") rfl) (d.def_ 38 (d := dd "_law_mk_bad_deeds" My.s_l_mk_bad_deeds) rfl)),
    (fd_of X G (d.fact 39 (f := .glo "_law_mk_bad_row") rfl) (d.def_ 39 (d := dd "_law_mk_bad_row" My.s_l_mk_bad_row) rfl)),
    (fd_of X G (d.fact 45 (f := .glo "_law_mr_text") rfl) (d.def_ 45 (d := dd "_law_mr_text" My.s_l_mr_text) rfl)),
    (fd_of X G (d.fact 47 (f := .glo "_law_mr_letter") rfl) (d.def_ 47 (d := dd "_law_mr_letter" My.s_l_mr_letter) rfl)),
    (fd_of X G (d.fact 46 (f := .glo "_law_mr_images_text") rfl) (d.def_ 46 (d := dd "_law_mr_images_text" My.s_l_mr_images_text) rfl)),
    (fd_of X G (d.fact 48 (f := .glo "_law_mr_read_row") rfl) (d.def_ 48 (d := dd "_law_mr_read_row" My.s_l_mr_read_row) rfl)),
    (fd_of X G (d.fact 50 (f := .glo "_law_mr_near_text") rfl) (d.def_ 50 (d := dd "_law_mr_near_text" My.s_l_mr_near_text) rfl)),
    (fd_of X G (d.fact 49 (f := .glo "_law_mr_read_images") rfl) (d.def_ 49 (d := dd "_law_mr_read_images" My.s_l_mr_read_images) rfl)),
    (fd_of X G (d.fact 36 (f := .glo "_law_mk_renamed") rfl) (d.def_ 36 (d := dd "_law_mk_renamed" My.s_l_mk_renamed) rfl)),
    (fd_of X G (d.fact 37 (f := .glo "_law_mk_renaming") rfl) (d.def_ 37 (d := dd "_law_mk_renaming" My.s_l_mk_renaming) rfl)),
    (fd_of X G (d.fact 30 (f := .glo "_law_caught") rfl) (d.def_ 30 (d := dd "_law_caught" My.s_l_caught) rfl)),
    (fdc_of X G (d.fact 51 (f := .glo "_law_mr_row_texts") rfl) (d.def_ 51 (d := dd "_law_mr_row_texts" My.s_l_mr_row_texts) rfl)),
    (fdc_of X G (d.fact 52 (f := .glo "_law_mr_renaming_texts") rfl) (d.def_ 52 (d := dd "_law_mr_renaming_texts" My.s_l_mr_renaming_texts) rfl)),
    (fdc_of X G (d.fact 53 (f := .glo "law") rfl) (d.def_ 53 (d := dd "law" My.s_law) rfl))⟩
end
end Hd
namespace Hd
open PySem PySem.Spec PyProof.Rows L2 LamX
abbrev R : PySem.W.OpenRow := PySem.W.OpenLaw.row PySem.Challenge.rw_meankept_k60_texts_of_rows_and_renamings
abbrev Pg : Program := (PySem.Challenge.rw_meankept_k60_texts_of_rows_and_renamings).prog
abbrev hk : PySem.W.Hook := hookS Pg 6
def ob (s : PySem.W.SharedT) : AlS := obsS Pg 6 (HandSHeadRun.getT s)
theorem ob_eq (s : PySem.W.SharedT) : ob s = hk.obs s.abs := obsS_eq (HandSHeadRun.getT_eq s)
def nm0 : List PySem.Str := ["BadDeeds", "BadRenaming", "BadRow", "BadText", "DONE", "KeepError", "MOST_DEEDS", "MOST_IN_ROW", "UNDONE", "_law_begun", "_law_blended", "_law_caught", "_law_draw", "_law_mk_bad_deeds", "_law_mk_bad_row", "_law_mk_letters", "_law_mk_plain", "_law_mk_raw", "_law_mk_renamed", "_law_mk_renaming"]
def nm1 : List PySem.Str := ["_law_mk_row", "_law_mk_undone", "_law_mr_images_text", "_law_mr_letter", "_law_mr_near_text", "_law_mr_read_images", "_law_mr_read_row", "_law_mr_renaming_texts", "_law_mr_row", "_law_mr_row_texts", "_law_mr_same", "_law_mr_text", "_law_mr_times", "_law_mr_turned", "_law_mr_whole", "_law_pick", "behind_head", "both_halves", "fits_letter", "fits_row"]
def nm2 : List PySem.Str := ["is_between", "is_plain_row", "is_renaming", "is_renaming_in", "is_whole", "letter_of", "letters_at", "letters_gone", "near_step", "nearer_image", "need_deeds", "need_row", "plain_of", "read_letters", "read_renaming", "read_row", "renaming_text", "row_text", "sign_of", "steps_down"]
def nm3 : List PySem.Str := ["text_of", "undone_of"]
def names : List PySem.Str := nm0 ++ (nm1 ++ (nm2 ++ (nm3)))
theorem run (w : World) : HandSHeadRun.RunEq R (PySem.W.view R.prog [68]) hk ob 4000 names w := by
  intro os
  kernel_rfl
theorem law_at {w : World} {mg : Str → Option Value} {fa0 : Addr} {h : Heap} {K : PySem.W.Frag} (X : K.In h) (G : h.Ns mainGlobals mg) (hfa : mg ("law" : Str) = some (.ref fa0)) (c : SaysS Pg h K) : LawAtS PySem.Challenge.rw_meankept_k60_texts_of_rows_and_renamings w K (L2.CX Pg w) 13 63 "_law_script" mg fa0 h := by
  have tp : (Pg.main.scope.names.lookup ("super" : Str)).isSome = false := by kernel_rfl
  have T := top_of X G c tp
  obtain ⟨m1, m⟩ := He.ba c.more
  obtain ⟨_, m⟩ := He.ba m
  obtain ⟨_, m⟩ := He.ba m
  obtain ⟨_, m⟩ := He.ba m
  obtain ⟨_, m⟩ := He.ba m
  obtain ⟨_, m⟩ := He.ba m
  obtain ⟨_, m⟩ := He.ba m
  obtain ⟨_, m⟩ := He.ba m
  obtain ⟨_, m⟩ := He.ba m
  obtain ⟨_, m⟩ := He.ba m
  obtain ⟨_, m⟩ := He.ba m
  obtain ⟨_, m⟩ := He.ba m
  obtain ⟨_, m⟩ := He.ba m
  obtain ⟨_, m⟩ := He.ba m
  obtain ⟨n12, m⟩ := He.ba m
  obtain ⟨n13, n23⟩ := He.ba m
  have n12 := of_decide_eq_true n12
  have n13 := of_decide_eq_true n13
  have n23 := of_decide_eq_true n23
  obtain ⟨f, fd, F, gm, ec⟩ := T.f_law.ex
  rw [gm] at hfa
  obtain rfl : f = fa0 := Value.ref.inj (Option.some.inj hfa)
  have bA := F.bindsA (ps := ["_law_script"]) fun _ _ _ _ _ _ us hl => match us, hl with | [_], _ => rfl
  refine ⟨fd, tf.map (He.cT K), My.spLaw K (My.lawT (He.cT K ("_law_mr_row_texts", none)).2 (He.cT K ("_law_mr_renaming_texts", none)).2 (He.cT K ("law", none)).2), fun p hp => ?_, fun p hp => ?_, fun p hp => ?_, fun s u => bA s [u] rfl, fun H a ns hl _ hT hS => ?_, fun base KB GB hTB => ?_⟩
  · obtain ⟨q, hq, rfl⟩ := List.mem_map.mp hp
    exact c.empty q hq
  · obtain ⟨q, hq, rfl⟩ := List.mem_map.mp hp
    exact c.out q hq
  · obtain ⟨q, hq, rfl⟩ := List.mem_map.mp hp
    exact PySem.W.codeHd_of_K X (c.hd q hq)
  · refine My.spLaw_i hS (by omega) (fun p hp => ?_) fun _ => rfl
    simp only [My.lawT, List.mem_cons, List.not_mem_nil, or_false] at hp
    rcases hp with rfl | rfl | rfl
    · exact TabS.nil (hT _ (List.mem_map.mpr ⟨_, by simp [tf], rfl⟩))
    · exact TabS.nil (hT _ (List.mem_map.mpr ⟨("_law_mr_renaming_texts", none), by simp [tf], rfl⟩))
    · exact TabS.nil (hT _ (List.mem_map.mpr ⟨("law", none), by simp [tf], rfl⟩))
  · have D := My.all_law (w := w) T (hTB _ (List.mem_map.mpr ⟨("_law_mr_row_texts", none), by simp [tf], rfl⟩)) (hTB _ (List.mem_map.mpr ⟨("_law_mr_renaming_texts", none), by simp [tf], rfl⟩)) (hTB _ (List.mem_map.mpr ⟨("law", none), by simp [tf], rfl⟩)) n12 n13 n23
    obtain ⟨f2, fd2, FO, gm2, _, _, oc2, od2, osl2, lk2⟩ := D.ex
    rw [gm] at gm2
    obtain rfl : f = f2 := Value.ref.inj (Option.some.inj gm2)
    obtain ⟨oc, od, dV, kV, doc, pm, an, cdv, ct, osl, rfl, lk, _⟩ := F.ex
    rw [lk2] at lk
    have efd := Data.func.inj (congrArg Obj.data (Option.some.inj lk))
    subst efd
    exact FO
end Hd
open PySem PySem.W PySem.Calls PyProof.Rows
theorem PySem.Challenge.cw_meankept_k60_texts_of_rows_and_renamings_holds : PySem.Challenge.rw_meankept_k60_texts_of_rows_and_renamings.Holds := by
  w_on; o_law
  refine HandSHeadRun.head_any (r := OpenLaw.row PySem.Challenge.rw_meankept_k60_texts_of_rows_and_renamings) (q := view (OpenLaw.row PySem.Challenge.rw_meankept_k60_texts_of_rows_and_renamings).prog [68]) (H := Hd.hk) (ob := Hd.ob) (M := 4000) (loose := Hd.names) (d := HandSHeadRun.topDef (OpenLaw.row PySem.Challenge.rw_meankept_k60_texts_of_rows_and_renamings).prog 68) (kwd := []) Hd.ob_eq
    (by kernel_rfl) (fun s => by kernel_rfl) Hd.run (by kernel_rfl) (by kernel_rfl) (by kernel_rfl) (by rfl) (by first | assumption | decide +kernel) (by decide +kernel) ⟨rfl, rfl, rfl, rfl, rfl, by decide +kernel⟩ ?hw ?hc
  case hw => w_witness2
  case hc =>
    refine LamX.walk_ofTsE (l := PySem.Challenge.rw_meankept_k60_texts_of_rows_and_renamings) (n := 63) (k := 13) (x := "_law_script") (CX := fun w => L2.CX Hd.Pg w) rfl (by decide) (by kernel_rfl) ⟨rfl, by decide, by decide⟩ ?F (fun _ _ _ _ _ z => by
      obtain ⟨_, _, _, _, _, _, _, _, _, _, _, _, z⟩ := z
      exact z)
    intro w mg fa h Y G hmg0
    obtain ⟨K, KX, c⟩ := Y
    have hmg : mg ("law" : PySem.Str) = some (.ref fa) := by
      have e : (HandSHeadRun.topDef (OpenLaw.row PySem.Challenge.rw_meankept_k60_texts_of_rows_and_renamings).prog 68).name = ("law" : PySem.Str) := by kernel_rfl
      rw [← e]
      exact hmg0
    exact ⟨K, KX, Hd.law_at KX G hmg c⟩
