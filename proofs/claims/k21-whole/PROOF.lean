import PyProof.Rows.All
import Wide.All
import OpenK.AllK
import Wide.FinOn
import KE.KStateDown
import Lean
import HandS.Base
import HandS.Call
import HandS.List
import HandS.Ends
import HandS.EndBits
import HandS.More
import HandS.Words
import HandS.WordsExc
import HandS.Defaults
import HandS.Head0
import HandS.Head1
import HandS.Head2
import HandS.HeadEnd
import HandS.HeadHook1
import HandS.HeadHook2
import HandS.HeadHook3
import HandS.HeadHook4
import HandS.Comp
import HandS.Iter
import HandS.Walk
import HandS.Wide
import HandS.WordsList
import HandS.MakeKw
import HandS.MakeKwOnly
import HandS.IsInst
import HandS.OwnEq
import HandS.Zip
import PyProof.EqAt
import PyProof.EqKinds
import PyProof.TupleCall
import PyProof.InstNe
import PyProof.InstEq
import HandS.Style
import PySem.Challenge.RW_breakerrow_k21_whole_great_outages
set_option Elab.async false
set_option linter.all false
set_option maxRecDepth 100000
set_option maxHeartbeats 4000000
/-! Own operators of classes, called by the layer's rules. -/
namespace L2
open PySem PySem.Spec PyProof.Rows
section
variable {X : Cx} {CX : CXT} {k : Nat} {f C : Addr} {fd : FuncData} {ps : List Str} {sp : Sp} {E : XK}
/-- an own def called from somewhere below the body -/
theorem run_at {A : Around} (sb : Sub X k A) (F : FnOk X.prog X.w X.K X.mg X.base CX k f fd ps sp) (hb : Binds X.K fd ps []) (hx : Passes CX X E)
    {pins : List (Addr × Obj)} {σ : St} {H : Hp} {s : Shared} {Q : VK} {us : List Value} {vs : List V} (I : Inv X pins σ H s) (r : Vals vs us) (h : sp vs H Q E) :
    wpAny (model X.prog X.w) A (call (.ref f) us) (EP X pins σ Q) X.xe s := by
  have e0 : Env0 X.prog X.w X.K X.mg X.base A X.stack s H := by
    have e := I.env0
    exact ⟨by rw [sb.fr]; exact e.frames, e.mod, e.bs, e.bsz, e.funs, e.frf, e.hok, e.bare⟩
  have hl := F.len _ _ _ _ h
  refine wpAny_call (codeAny_mono (F.run A X.stack s H ⟨us, []⟩ us vs Q E sb.room e0 (by
    have := hb s us I.kIn (by simpa [← r.length] using hl)
    simpa using this) r h) fun r s' hq => ?_)
  cases r with
  | error e => exact hx pins σ H s e s' I hq
  | ok fl =>
    cases fl with
    | ret u => exact I.after hq
    | next => exact False.elim hq
    | brk => exact False.elim hq
    | cont => exact False.elim hq
/-- an instance as OpenK sees it -/
theorem inst_of {pins : List (Addr × Obj)} {σ : St} {H : Hp} {s : Shared} {a dx : Addr} {fs : List (Str × V)} (I : Inv X pins σ H s) (h : H a = some (.ins C dx fs)) :
    ∃ od, PySem.W.InstAt s.heap a (PySem.W.instObj C dx) C (some od) := by
  obtain ⟨mA, J, _⟩ := ins_get I.hok h
  obtain ⟨od, J, _⟩ := J.look
  exact ⟨od, J⟩
/-! ### len(o) -/
def rLenO (C : Addr) (sp : Sp) (E : XK) : List V → Hp → VK → Prop := fun xs H Q => ∃ (a dx : Addr) (fs : List (Str × V)), xs = [.ref a] ∧ H a = some (.ins C dx fs) ∧
  sp [.ref a] H (fun v H' => ∃ n : Int, v = .int n ∧ 0 ≤ n ∧ n < 2 ^ 63 ∧ Q (.int n) H') E
theorem call_lenO (F : FnOk X.prog X.w X.K X.mg X.base CX k f fd ps sp) (hr : Room (k + 1) X.A) (hm : Meth X.K C "__len__" f) (hb : Binds X.K fd ps []) (hx : Passes CX X E) : CallR X (.builtin "len") (rLenO C sp E) := by
  rintro pins s σ H xs us Q I r ⟨a, dx, fs, rfl, ha, h⟩
  obtain ⟨u, rfl, ru⟩ := vals1 r
  cases ru
  obtain ⟨od, J⟩ := inst_of I ha
  obtain ⟨m, hF⟩ := I.fr
  refine PySem.W.len_K hF I.ok.mod.kin J hm.at_ hm.fn ?_
  refine thn (run_at ⟨hr.in1, rfl⟩ F hb hx I (vs := [V.ref a]) (.cons rfl .nil) h) fun v s' ⟨z, H', I', rz, n, ez, h0, h1, q⟩ => ?_
  subst ez
  obtain ⟨t, rfl⟩ := rz
  exact ⟨⟨h0, h1⟩, .int n, H', I'.tok _, ⟨_, rfl⟩, q⟩
/-! ### o[i] -/
def rIxO (C : Addr) (sp : Sp) (E : XK) : R2 := fun x y H Q => ∃ (a dx : Addr) (fs : List (Str × V)), x = .ref a ∧ H a = some (.ins C dx fs) ∧ sp [.ref a, y] H Q E
theorem pe_ixO {a b : Expr} {ta tb : TE} {pos : Pos} (F : FnOk X.prog X.w X.K X.mg X.base CX k f fd ps sp) (hr : Room (k + 1) X.A) (hm : Meth X.K C "__getitem__" f) (hfn : PySem.W.fnIn X.K f = true) (hb : Binds X.K fd ps []) (hx : Passes CX X E)
    (ha : PE X a ta) (hb2 : PE X b tb) (hsl : ∀ (x : Addr) (i : Value), subscripted b true (.ref x) i = runValue (.builtin "lifetime.subscript" ⟨[.ref x, i], []⟩) := by intro _ _; with_unfolding_all rfl) :
    PE X (.Subscript a b pos) (tOp (rIxO C sp E) ta tb) := by
  refine ⟨fun pins s σ H Q I h => ?_⟩
  refine Subscript_ (binT ha hb2 I h fun v u s2 x y H2 I2 rx ry q => ?_)
  obtain ⟨a', dx, fs, rfl, h1, q⟩ := q
  cases rx
  obtain ⟨od, J⟩ := inst_of I2 h1
  obtain ⟨m, hF⟩ := I2.fr
  refine PySem.W.sub_K hF I2.ok.mod.kin J hm.at_ hfn hm.fn ?_ (hsl _ _)
  exact run_at ⟨hr.in1, rfl⟩ F hb hx I2 (vs := [V.ref a', y]) (.cons rfl (.cons ry .nil)) q
/-! ### x in o, x not in o -/
def rInO (C : Addr) (sp : Sp) (E : XK) : R2 := fun x y H Q => ∃ (a dx : Addr) (fs : List (Str × V)), y = .ref a ∧ H a = some (.ins C dx fs) ∧ sp [.ref a, x] H (fun v H' => ∃ c, v = .bl c ∧ Q (.bl c) H') E
def rNinO (C : Addr) (sp : Sp) (E : XK) : R2 := fun x y H Q => ∃ (a dx : Addr) (fs : List (Str × V)), y = .ref a ∧ H a = some (.ins C dx fs) ∧ sp [.ref a, x] H (fun v H' => ∃ c, v = .bl c ∧ Q (.bl (!c)) H') E
theorem op_inO (F : FnOk X.prog X.w X.K X.mg X.base CX k f fd ps sp) (hr : Room k X.A) (hm : Meth X.K C "__contains__" f) (hb : Binds X.K fd ps []) (hx : Passes CX X E) : OpR X (compareOp .In) (rInO C sp E) := by
  rintro pins s σ H x y v u Q I rx ry ⟨a, dx, fs, rfl, ha, h⟩
  cases ry
  obtain ⟨od, J⟩ := inst_of I ha
  obtain ⟨m, hF⟩ := I.fr
  refine PySem.W.in_K hF I.ok.mod.kin J hm.at_ hm.fn ?_
  refine thn (run_at ⟨hr, rfl⟩ F hb hx I (vs := [V.ref a, x]) (.cons rfl (.cons rx .nil)) h) fun v s' ⟨z, H', I', rz, c, ez, q⟩ => ?_
  subst ez
  cases rz
  exact wpAny_truthy_bool ⟨.bl c, H', I', rfl, q⟩
theorem op_ninO (F : FnOk X.prog X.w X.K X.mg X.base CX k f fd ps sp) (hr : Room k X.A) (hm : Meth X.K C "__contains__" f) (hb : Binds X.K fd ps []) (hx : Passes CX X E) : OpR X (compareOp .NotIn) (rNinO C sp E) := by
  rintro pins s σ H x y v u Q I rx ry ⟨a, dx, fs, rfl, ha, h⟩
  cases ry
  obtain ⟨od, J⟩ := inst_of I ha
  obtain ⟨m, hF⟩ := I.fr
  refine PySem.W.notIn_K hF I.ok.mod.kin J hm.at_ hm.fn ?_
  refine thn (run_at ⟨hr, rfl⟩ F hb hx I (vs := [V.ref a, x]) (.cons rfl (.cons rx .nil)) h) fun v s' ⟨z, H', I', rz, c, ez, q⟩ => ?_
  subst ez
  cases rz
  exact wpAny_truthy_bool ⟨.bl (!c), H', I', rfl, q⟩
/-! ### o + p, of one class -/
def rAddO (C : Addr) (sp : Sp) (E : XK) : R2 := fun x y H Q => ∃ (a dx b dy : Addr) (fs gs : List (Str × V)), x = .ref a ∧ H a = some (.ins C dx fs) ∧ y = .ref b ∧ H b = some (.ins C dy gs) ∧
  sp [.ref a, .ref b] H (fun v H' => (∃ r, v = .ref r) ∧ Q v H') E
theorem op_addO (F : FnOk X.prog X.w X.K X.mg X.base CX k f fd ps sp) (hr : Room k X.A) (hm : Meth X.K C "__add__" f) (hc : PySem.W.selfFirst X.K C = true) (hb : Binds X.K fd ps []) (hx : Passes CX X E) : OpR X (binaryOp .Add) (rAddO C sp E) := by
  rintro pins s σ H x y v u Q I rx ry ⟨a, dx, b, dy, fs, gs, rfl, ha, rfl, hb', h⟩
  cases rx
  cases ry
  obtain ⟨od, J⟩ := inst_of I ha
  obtain ⟨od', J'⟩ := inst_of I hb'
  obtain ⟨m, hF⟩ := I.fr
  refine PySem.W.binop_K hF I.ok.mod.kin J J'.type hc hm.at_ hm.fn ?_
  refine thn (run_at ⟨hr, rfl⟩ F hb hx I (vs := [V.ref a, V.ref b]) (.cons rfl (.cons rfl .nil)) h) fun v s' ⟨z, H', I', rz, ⟨r, ez⟩, q⟩ => ?_
  subst ez
  cases rz
  exact ⟨.ref r, H', I', rfl, q⟩
/-! ### a < b < c < d -/
def tChain3 (r r' r'' : R2) (ta tb tc td : TE) : TE := fun σ H Q => ta σ H fun x H1 => tb σ H1 fun y H2 => r x y H2 fun z H3 => ∃ k, z = .bl k ∧
  (if k = true then tc σ H3 fun w' H4 => r' y w' H4 fun z' H5 => ∃ k', z' = .bl k' ∧ (if k' = true then td σ H5 fun u' H6 => r'' w' u' H6 Q else Q (.bl false) H5) else Q (.bl false) H3)
theorem pe_chain3 {op op' op'' : CmpOp} {r r' r'' : R2} {a b c d : Expr} {ta tb tc td : TE} {pos : Pos} (ho : OpR X (compareOp op) r) (ho' : OpR X (compareOp op') r') (ho'' : OpR X (compareOp op'') r'') (ha : PE X a ta) (hb : PE X b tb) (hc : PE X c tc) (hd : PE X d td)
    (hm : lastMarks [op, op', op''] [b, c, d] = false := by with_unfolding_all rfl) : PE X (.Compare a [op, op', op''] [b, c, d] pos) (tChain3 r r' r'' ta tb tc td) := by
  refine ⟨fun pins s σ H Q I h => ?_⟩
  refine Compare_chain (thn (ha.run pins s σ H _ I h) fun v s1 ⟨x, H1, I1, r1, q1⟩ => chain_link (thn (hb.run pins s1 σ H1 _ I1 q1) fun u s2 ⟨y, H2, I2, r2, q2⟩ =>
    thn (ho pins s2 σ H2 x y v u _ I2 r1 r2 q2) fun d s3 ⟨z, H3, I3, r3, k, e, q3⟩ => ?_)) hm
  subst e
  cases r3
  refine wpAny_truthy_bool ?_
  cases k with
  | false => exact ite_ff ⟨.bl false, H3, I3, rfl, q3⟩
  | true =>
    refine ite_tt (chain_link (thn (hc.run pins s3 σ H3 _ I3 q3) fun w' s4 ⟨z', H4, I4, r4, q4⟩ => thn (ho' pins s4 σ H4 y z' u w' _ I4 r2 r4 q4) fun d' s5 ⟨z2, H5, I5, r5, k', e', q5⟩ => ?_))
    subst e'
    cases r5
    refine wpAny_truthy_bool ?_
    cases k' with
    | false => exact ite_ff ⟨.bl false, H5, I5, rfl, q5⟩
    | true => exact ite_tt (chain_last (thn (hd.run pins s5 σ H5 _ I5 q5) fun u' s6 ⟨z3, H6, I6, r6, q6⟩ => ho'' pins s6 σ H6 z' z3 w' u' Q I6 r4 r6 q6))
/-! ### o != p, of one class with its own == and no != -/
def rNeO (C : Addr) (sp : Sp) (E : XK) : R2 := fun x y H Q => ∃ (a dx b dy : Addr) (fs gs : List (Str × V)), x = .ref a ∧ H a = some (.ins C dx fs) ∧ y = .ref b ∧ H b = some (.ins C dy gs) ∧
  sp [.ref a, .ref b] H (fun v H' => ∃ c, v = .bl c ∧ Q (.bl (!c)) H') E
/-- the class at C: made by type, over object alone, its own == (f) and no != -/
def eqNoNe (K : PySem.W.Frag) (C f : Addr) : Bool := match K.lookup C with
  | some ⟨.type "type", _, .cls cd, sl⟩ => (match cd.mro, sl.toList with
    | .ref C' :: bm, [_, _, _, _, some (.builtin _), _] => C' == C && bm == [.type "object"] && !cd.hasDel && PySem.W.nsOkIn K cd.ns && PySem.W.nsIn K cd.ns "__ne__" == some none && PySem.W.nsIn K cd.ns "__eq__" == some (some (.ref f))
    | _, _ => false)
  | _ => false
theorem ns_some_of {K : PySem.W.Frag} {h : Heap} {N : Addr} {mg : Str → Option Value} {n : Str} {v : Value} (X : K.In h) (G : h.Ns N mg) (e : PySem.W.nsIn K N n = some (some v)) : mg n = some v := by
  obtain ⟨o, es, ep, ho, hd, _, hf⟩ := G
  unfold PySem.W.nsIn at e
  split at e
  · rename_i c d es' n' sl q
    have := X _ _ q
    rw [ho] at this
    cases this
    cases hd
    split at e
    · rename_i en he
      cases e
      rw [← hf]
      unfold nsFind findBy
      rw [← Array.find?_toList, he]
      rfl
    · split at e <;> cases e
  · cases e
theorem ownEqNoNe_of {K : PySem.W.Frag} {h : Heap} {a C f : Addr} {o : Obj} (X : K.In h) (q : eqNoNe K C f = true) (hf : PySem.W.isFn K (.ref f) = true) (ha : h.get? a = some o) (hc : o.cls = .ref C) : h.OwnEqNoNe a C f "object" [.type "object"] := by
  have hft : ∃ of, K.lookup f = some of ∧ of.cls = .type "function" := by
    have e := beq_iff_eq.mp hf
    have e2 : (K.lookup f).map (·.cls) = some (.type "function") := e
    obtain ⟨o, h1, h2⟩ := Option.map_eq_some_iff.mp e2
    exact ⟨o, h1, h2⟩
  obtain ⟨of, hf1, hf2⟩ := hft
  unfold eqNoNe at q
  split at q
  · rename_i dd cd sl ho
    split at q
    · rename_i C' bm k0 k1 k2 k3 n k5 hm hs
      simp only [Bool.and_eq_true, beq_iff_eq, Bool.not_eq_true'] at q
      obtain ⟨⟨⟨⟨⟨rfl, rfl⟩, hdel⟩, hok⟩, hne⟩, heq⟩ := q
      obtain ⟨nm, bs, mro, ns, qn, hd, sn, sub, ab, col, del⟩ := cd
      dsimp only at hm hdel hok hne heq
      subst hm hdel
      have hsl : sl = #[k0, k1, k2, k3, some (.builtin n), k5] := by
        obtain ⟨l⟩ := sl
        simp only at hs
        rw [hs]
      subst hsl
      have isn := PySem.W.isNs_of_in X hok
      have G : h.Ns ns (h.nsMap ns) := .of_isNs isn
      have e1 : h.nsMap ns "__ne__" = none := PySem.W.ns_none_of X G hne
      have e2 : h.nsMap ns "__eq__" = some (.ref f) := ns_some_of X G heq
      have hy := PySem.F.cmp_object.eq.lookup
      exact ⟨o, of, nm, qn, ns, bs, hd, sn, sub, ab, col, dd, k0, k1, k2, k3, k5, n, h.nsMap ns, _, ha, hc, X _ _ ho, G, e2, X _ _ hf1, hf2, PySem.F.cmp_object.mro, hy, e1⟩
    · cases q
  · cases q
theorem op_neO (F : FnOk X.prog X.w X.K X.mg X.base CX k f fd ps sp) (hr : Room (k + 1) X.A) (hm : Meth X.K C "__eq__" f) (hc : eqNoNe X.K C f = true) (hb : Binds X.K fd ps []) (hx : Passes CX X E) : OpR X (compareOp .NotEq) (rNeO C sp E) := by
  rintro pins s σ H x y v u Q I rx ry ⟨a, dx, b, dy, fs, gs, rfl, ha, rfl, hb', h⟩
  cases rx
  cases ry
  obtain ⟨od, J⟩ := inst_of I ha
  obtain ⟨od', J'⟩ := inst_of I hb'
  have O := ownEqNoNe_of I.kIn hc hm.fn J.at_ J.cls
  have rn := run_at (A := X.A.in1) ⟨hr.in1, rfl⟩ F hb hx I (vs := [V.ref a, V.ref b]) (.cons rfl (.cons rfl .nil)) h
  obtain ⟨hp, g, d, t, os⟩ := s
  refine compareOp_ne_ownEq PySem.F.cmp_object O J'.at_ J'.cls (hu_of hr) ?_
  refine thn rn fun v s' ⟨z, H', I', rz, c, ez, q⟩ => ?_
  subst ez
  cases rz
  exact ⟨c, rfl, .bl (!c), H', I', rfl, q⟩
end
end L2

namespace Br
open PySem PySem.Spec PyProof.Rows L2
/-! ### the text -/
def top (i : Nat) : Stmt := PySem.Challenge.pw_breakerrow_k21_whole_great_outages.main.body.getD i (.Pass ⟨0, 0, 0, 0⟩)
abbrev s_isInt : Stmt := top 11
abbrev s_isBet : Stmt := top 12
abbrev s_chkT : Stmt := top 13
abbrev s_chkB : Stmt := top 14
abbrev s_rup : Stmt := top 15
abbrev s_isBrk : Stmt := top 20
abbrev s_chkBrk : Stmt := top 21
abbrev s_rowI : Stmt := inClass (top 22) 0
abbrev s_rowL : Stmt := inClass (top 22) 2
abbrev s_rowG : Stmt := inClass (top 22) 3
abbrev s_rowC : Stmt := inClass (top 22) 5
abbrev s_rowS : Stmt := inClass (top 22) 9
abbrev s_reqT : Stmt := top 23
abbrev s_firR : Stmt := top 24
abbrev s_isTr : Stmt := top 27
abbrev s_lastO : Stmt := top 28
abbrev s_chkTr : Stmt := top 29
abbrev s_woF : Stmt := top 30
abbrev s_join : Stmt := top 31
abbrev s_allJ : Stmt := top 32
abbrev s_trI : Stmt := inClass (top 33) 0
abbrev s_trE : Stmt := inClass (top 33) 1
abbrev s_trG : Stmt := inClass (top 33) 3
abbrev s_trC : Stmt := inClass (top 33) 5
abbrev s_trA : Stmt := inClass (top 33) 6
abbrev s_isIn : Stmt := top 34
abbrev s_made : Stmt := top 35
abbrev s_tCnt : Stmt := top 36
abbrev s_befI : Stmt := top 37
abbrev s_cntB : Stmt := top 38
abbrev s_nextT : Stmt := top 39
abbrev s_latT : Stmt := top 40
abbrev s_slO : Stmt := top 41
abbrev s_wind : Stmt := top 42
abbrev s_splA : Stmt := top 43
abbrev s_thin : Stmt := top 44
abbrev s_divd : Stmt := top 45
abbrev s_comT : Stmt := top 46
abbrev s_shar : Stmt := top 47
abbrev s_isOut : Stmt := top 52
abbrev s_chkO : Stmt := top 53
abbrev s_pasd : Stmt := top 54
abbrev s_pasL : Stmt := top 55
abbrev s_spI : Stmt := inClass (top 56) 0
abbrev s_spO : Stmt := inClass (top 56) 1
abbrev s_spS : Stmt := inClass (top 56) 2
abbrev s_spW : Stmt := inClass (top 56) 3
abbrev s_spF : Stmt := top 57
abbrev s_spOf : Stmt := top 58
abbrev s_tlI : Stmt := inClass (top 59) 0
abbrev s_tlL : Stmt := inClass (top 59) 2
abbrev s_tlG : Stmt := inClass (top 59) 3
abbrev s_tlS : Stmt := inClass (top 59) 7
abbrev s_spAt : Stmt := top 60
abbrev s_firS : Stmt := top 61
abbrev s_arr : Stmt := top 62
abbrev s_star : Stmt := top 63
abbrev s_opn : Stmt := top 64
abbrev s_lasS : Stmt := top 67
abbrev s_staA : Stmt := top 69
abbrev s_lMix : Stmt := top 71
abbrev s_lWel : Stmt := top 72
abbrev s_lDra : Stmt := top 73
abbrev s_lOne : Stmt := top 74
abbrev s_lPla : Stmt := top 75
abbrev s_lFar : Stmt := top 76
abbrev s_lDow : Stmt := top 77
abbrev s_lSpR : Stmt := top 78
abbrev s_lEnR : Stmt := top 79
abbrev s_lRig : Stmt := top 80
abbrev s_lLaw : Stmt := top 81
def exs (K : PySem.W.Frag) : List Bool :=
  [He.tupB K "CLOSED" [.str "closed", .int 0],
   PySem.W.fnIn K (He.ma K (He.ga K "Row") "__getitem__"), PySem.W.fnIn K (He.ma K (He.ga K "Trains") "__getitem__"), PySem.W.fnIn K (He.ma K (He.ga K "Timeline") "__getitem__"),
   PySem.W.selfFirst K (He.ga K "Trains"), eqNoNe K (He.ga K "Trains") (He.ma K (He.ga K "Trains") "__eq__"),
   PySem.W.findIn K (.ref (He.ga K "Row")) "__class__" == some (some (.builtin "object.__class__")),
   PySem.W.findIn K (.ref (He.ga K "Trains")) "__class__" == some (some (.builtin "object.__class__")),
   PySem.W.specialIn K (.builtin "object.__class__") "__get__" == some (some (.builtin "getset_descriptor.__get__")),
   PySem.W.takesIn K (.builtin "object.__class__") == some true,
   PySem.W.mroIn K (He.ga K "Trains") (.type "object") == some true,
   PySem.W.kitOne K (.ref (He.ga K "Trains")) (.ref (He.ga K "Trains")) == some true,
   He.ga K "Timeline" != He.ga K "Spell", He.ga K "Timeline" != He.ga K "Trains"]
def ex (K : PySem.W.Frag) : Bool := (exs K).all id
def d_isInt : He.DefD := ⟨("is_integer", none), "is_integer", "is_integer", defArgs s_isInt, defBody s_isInt, defScope s_isInt, [], []⟩
def d_isBet : He.DefD := ⟨("is_between", none), "is_between", "is_between", defArgs s_isBet, defBody s_isBet, defScope s_isBet, [], []⟩
def d_chkT : He.DefD := ⟨("check_time", none), "check_time", "check_time", defArgs s_chkT, defBody s_chkT, defScope s_chkT, [], []⟩
def d_chkB : He.DefD := ⟨("check_bound", none), "check_bound", "check_bound", defArgs s_chkB, defBody s_chkB, defScope s_chkB, [], []⟩
def d_rup : He.DefD := ⟨("round_up", none), "round_up", "round_up", defArgs s_rup, defBody s_rup, defScope s_rup, [], []⟩
def d_isBrk : He.DefD := ⟨("is_breaker", none), "is_breaker", "is_breaker", defArgs s_isBrk, defBody s_isBrk, defScope s_isBrk, [], []⟩
def d_chkBrk : He.DefD := ⟨("check_breakers", none), "check_breakers", "check_breakers", defArgs s_chkBrk, defBody s_chkBrk, defScope s_chkBrk, [], []⟩
def d_rowI : He.DefD := ⟨("Row", some "__init__"), "__init__", "Row.__init__", defArgs s_rowI, defBody s_rowI, defScope s_rowI, [], [("phase", .int 0)]⟩
def d_rowL : He.DefD := ⟨("Row", some "__len__"), "__len__", "Row.__len__", defArgs s_rowL, defBody s_rowL, defScope s_rowL, [], []⟩
def d_rowG : He.DefD := ⟨("Row", some "__getitem__"), "__getitem__", "Row.__getitem__", defArgs s_rowG, defBody s_rowG, defScope s_rowG, [], []⟩
def d_rowC : He.DefD := ⟨("Row", some "__contains__"), "__contains__", "Row.__contains__", defArgs s_rowC, defBody s_rowC, defScope s_rowC, [], []⟩
def d_rowS : He.DefD := ⟨("Row", some "step_length"), "step_length", "Row.step_length", defArgs s_rowS, defBody s_rowS, defScope s_rowS, [], []⟩
def d_reqT : He.DefD := ⟨("request_time", none), "request_time", "request_time", defArgs s_reqT, defBody s_reqT, defScope s_reqT, [], []⟩
def d_firR : He.DefD := ⟨("first_request", none), "first_request", "first_request", defArgs s_firR, defBody s_firR, defScope s_firR, [], []⟩
def d_isTr : He.DefD := ⟨("is_train", none), "is_train", "is_train", defArgs s_isTr, defBody s_isTr, defScope s_isTr, [], []⟩
def d_lastO : He.DefD := ⟨("last_of", none), "last_of", "last_of", defArgs s_lastO, defBody s_lastO, defScope s_lastO, [], []⟩
def d_chkTr : He.DefD := ⟨("check_trains", none), "check_trains", "check_trains", defArgs s_chkTr, defBody s_chkTr, defScope s_chkTr, [], []⟩
def d_woF : He.DefD := ⟨("without_first", none), "without_first", "without_first", defArgs s_woF, defBody s_woF, defScope s_woF, [], []⟩
def d_join : He.DefD := ⟨("joined", none), "joined", "joined", defArgs s_join, defBody s_join, defScope s_join, [], []⟩
def d_allJ : He.DefD := ⟨("all_joined", none), "all_joined", "all_joined", defArgs s_allJ, defBody s_allJ, defScope s_allJ, [], []⟩
def d_trI : He.DefD := ⟨("Trains", some "__init__"), "__init__", "Trains.__init__", defArgs s_trI, defBody s_trI, defScope s_trI, [], []⟩
def d_trE : He.DefD := ⟨("Trains", some "__eq__"), "__eq__", "Trains.__eq__", defArgs s_trE, defBody s_trE, defScope s_trE, [], []⟩
def d_trG : He.DefD := ⟨("Trains", some "__getitem__"), "__getitem__", "Trains.__getitem__", defArgs s_trG, defBody s_trG, defScope s_trG, [], []⟩
def d_trC : He.DefD := ⟨("Trains", some "__contains__"), "__contains__", "Trains.__contains__", defArgs s_trC, defBody s_trC, defScope s_trC, [], []⟩
def d_trA : He.DefD := ⟨("Trains", some "__add__"), "__add__", "Trains.__add__", defArgs s_trA, defBody s_trA, defScope s_trA, [], []⟩
def d_isIn : He.DefD := ⟨("is_in", none), "is_in", "is_in", defArgs s_isIn, defBody s_isIn, defScope s_isIn, [], []⟩
def d_made : He.DefD := ⟨("made", none), "made", "made", defArgs s_made, defBody s_made, defScope s_made, [], []⟩
def d_tCnt : He.DefD := ⟨("time_count", none), "time_count", "time_count", defArgs s_tCnt, defBody s_tCnt, defScope s_tCnt, [], []⟩
def d_befI : He.DefD := ⟨("before_in", none), "before_in", "before_in", defArgs s_befI, defBody s_befI, defScope s_befI, [], []⟩
def d_cntB : He.DefD := ⟨("count_before", none), "count_before", "count_before", defArgs s_cntB, defBody s_cntB, defScope s_cntB, [], []⟩
def d_nextT : He.DefD := ⟨("next_time", none), "next_time", "next_time", defArgs s_nextT, defBody s_nextT, defScope s_nextT, [], []⟩
def d_latT : He.DefD := ⟨("latest_time", none), "latest_time", "latest_time", defArgs s_latT, defBody s_latT, defScope s_latT, [], []⟩
def d_slO : He.DefD := ⟨("slice_of", none), "slice_of", "slice_of", defArgs s_slO, defBody s_slO, defScope s_slO, [], []⟩
def d_wind : He.DefD := ⟨("window", none), "window", "window", defArgs s_wind, defBody s_wind, defScope s_wind, [], []⟩
def d_splA : He.DefD := ⟨("split_after", none), "split_after", "split_after", defArgs s_splA, defBody s_splA, defScope s_splA, [], []⟩
def d_thin : He.DefD := ⟨("thinned", none), "thinned", "thinned", defArgs s_thin, defBody s_thin, defScope s_thin, [], []⟩
def d_divd : He.DefD := ⟨("divided", none), "divided", "divided", defArgs s_divd, defBody s_divd, defScope s_divd, [], []⟩
def d_comT : He.DefD := ⟨("common_train", none), "common_train", "common_train", defArgs s_comT, defBody s_comT, defScope s_comT, [], []⟩
def d_shar : He.DefD := ⟨("shared", none), "shared", "shared", defArgs s_shar, defBody s_shar, defScope s_shar, [], []⟩
def d_isOut : He.DefD := ⟨("is_outage", none), "is_outage", "is_outage", defArgs s_isOut, defBody s_isOut, defScope s_isOut, [], []⟩
def d_chkO : He.DefD := ⟨("check_outages", none), "check_outages", "check_outages", defArgs s_chkO, defBody s_chkO, defScope s_chkO, [], []⟩
def d_pasd : He.DefD := ⟨("passed", none), "passed", "passed", defArgs s_pasd, defBody s_pasd, defScope s_pasd, [], []⟩
def d_pasL : He.DefD := ⟨("passes_left", none), "passes_left", "passes_left", defArgs s_pasL, defBody s_pasL, defScope s_pasL, [], []⟩
def d_spI : He.DefD := ⟨("Spell", some "__init__"), "__init__", "Spell.__init__", defArgs s_spI, defBody s_spI, defScope s_spI, [], []⟩
def d_spO : He.DefD := ⟨("Spell", some "opening"), "opening", "Spell.opening", defArgs s_spO, defBody s_spO, defScope s_spO, [], []⟩
def d_spS : He.DefD := ⟨("Spell", some "states_at"), "states_at", "Spell.states_at", defArgs s_spS, defBody s_spS, defScope s_spS, [], []⟩
def d_spW : He.DefD := ⟨("Spell", some "whole"), "whole", "Spell.whole", defArgs s_spW, defBody s_spW, defScope s_spW, [], []⟩
def d_spF : He.DefD := ⟨("spell_from", none), "spell_from", "spell_from", defArgs s_spF, defBody s_spF, defScope s_spF, [], []⟩
def d_spOf : He.DefD := ⟨("spells_of", none), "spells_of", "spells_of", defArgs s_spOf, defBody s_spOf, defScope s_spOf, [], []⟩
def d_tlI : He.DefD := ⟨("Timeline", some "__init__"), "__init__", "Timeline.__init__", defArgs s_tlI, defBody s_tlI, defScope s_tlI, [], []⟩
def d_tlL : He.DefD := ⟨("Timeline", some "__len__"), "__len__", "Timeline.__len__", defArgs s_tlL, defBody s_tlL, defScope s_tlL, [], []⟩
def d_tlG : He.DefD := ⟨("Timeline", some "__getitem__"), "__getitem__", "Timeline.__getitem__", defArgs s_tlG, defBody s_tlG, defScope s_tlG, [], []⟩
def d_tlS : He.DefD := ⟨("Timeline", some "spell"), "spell", "Timeline.spell", defArgs s_tlS, defBody s_tlS, defScope s_tlS, [], []⟩
def d_spAt : He.DefD := ⟨("spell_at", none), "spell_at", "spell_at", defArgs s_spAt, defBody s_spAt, defScope s_spAt, [], []⟩
def d_firS : He.DefD := ⟨("first_success", none), "first_success", "first_success", defArgs s_firS, defBody s_firS, defScope s_firS, [], []⟩
def d_arr : He.DefD := ⟨("arrivals", none), "arrivals", "arrivals", defArgs s_arr, defBody s_arr, defScope s_arr, [], []⟩
def d_star : He.DefD := ⟨("starts", none), "starts", "starts", defArgs s_star, defBody s_star, defScope s_star, [], []⟩
def d_opn : He.DefD := ⟨("openings", none), "openings", "openings", defArgs s_opn, defBody s_opn, defScope s_opn, [], []⟩
def d_lasS : He.DefD := ⟨("last_spell", none), "last_spell", "last_spell", defArgs s_lasS, defBody s_lasS, defScope s_lasS, [], []⟩
def d_staA : He.DefD := ⟨("states_at", none), "states_at", "states_at", defArgs s_staA, defBody s_staA, defScope s_staA, [], []⟩
def d_lMix : He.DefD := ⟨("_law_mixed", none), "_law_mixed", "_law_mixed", defArgs s_lMix, defBody s_lMix, defScope s_lMix, [], []⟩
def d_lWel : He.DefD := ⟨("_law_well", none), "_law_well", "_law_well", defArgs s_lWel, defBody s_lWel, defScope s_lWel, [], []⟩
def d_lDra : He.DefD := ⟨("_law_draw", none), "_law_draw", "_law_draw", defArgs s_lDra, defBody s_lDra, defScope s_lDra, [], []⟩
def d_lOne : He.DefD := ⟨("_law_one", none), "_law_one", "_law_one", defArgs s_lOne, defBody s_lOne, defScope s_lOne, [], []⟩
def d_lPla : He.DefD := ⟨("_law_place", none), "_law_place", "_law_place", defArgs s_lPla, defBody s_lPla, defScope s_lPla, [], []⟩
def d_lFar : He.DefD := ⟨("_law_far", none), "_law_far", "_law_far", defArgs s_lFar, defBody s_lFar, defScope s_lFar, [], []⟩
def d_lDow : He.DefD := ⟨("_law_far_downs", none), "_law_far_downs", "_law_far_downs", defArgs s_lDow, defBody s_lDow, defScope s_lDow, [], []⟩
def d_lSpR : He.DefD := ⟨("_law_spell_right", none), "_law_spell_right", "_law_spell_right", defArgs s_lSpR, defBody s_lSpR, defScope s_lSpR, [], []⟩
def d_lEnR : He.DefD := ⟨("_law_ends_right", none), "_law_ends_right", "_law_ends_right", defArgs s_lEnR, defBody s_lEnR, defScope s_lEnR, [], []⟩
def d_lRig : He.DefD := ⟨("_law_right", none), "_law_right", "_law_right", defArgs s_lRig, defBody s_lRig, defScope s_lRig, [], []⟩
def d_lLaw : He.DefD := ⟨("law", none), "law", "law", defArgs s_lLaw, defBody s_lLaw, defScope s_lLaw, [], []⟩
def fn : List He.DefD := [d_isInt, d_isBet, d_chkT, d_chkB, d_rup, d_isBrk, d_chkBrk, d_rowI, d_rowL, d_rowG, d_rowC, d_rowS, d_reqT, d_firR, d_isTr, d_lastO, d_chkTr, d_woF, d_join, d_allJ, d_trI, d_trE, d_trG, d_trC, d_trA, d_isIn, d_made, d_tCnt, d_befI, d_cntB, d_nextT, d_latT, d_slO, d_wind, d_splA, d_thin] ++ [d_divd, d_comT, d_shar, d_isOut, d_chkO, d_pasd, d_pasL, d_spI, d_spO, d_spS, d_spW, d_spF, d_spOf, d_tlI, d_tlL, d_tlG, d_tlS, d_spAt, d_firS, d_arr, d_star, d_opn, d_lasS, d_staA, d_lMix, d_lWel, d_lDra, d_lOne, d_lPla, d_lFar, d_lDow, d_lSpR, d_lEnR, d_lRig, d_lLaw]
def fa0 : List He.Fa := [.glo "is_integer", .glo "is_between", .glo "check_time", .glo "check_bound", .glo "round_up", .glo "is_breaker", .glo "check_breakers", .glo "request_time", .glo "first_request", .glo "is_train", .glo "last_of", .glo "check_trains", .glo "without_first", .glo "joined", .glo "all_joined", .glo "is_in", .glo "made", .glo "time_count", .glo "before_in", .glo "count_before", .glo "next_time", .glo "latest_time", .glo "slice_of", .glo "window", .glo "split_after", .glo "thinned", .glo "divided", .glo "common_train", .glo "shared", .glo "is_outage"]
def fa1 : List He.Fa := [.glo "check_outages", .glo "passed", .glo "passes_left", .glo "spell_from", .glo "spells_of", .glo "spell_at", .glo "first_success", .glo "arrivals", .glo "starts", .glo "openings", .glo "last_spell", .glo "states_at", .glo "_law_mixed", .glo "_law_well", .glo "_law_draw", .glo "_law_one", .glo "_law_place", .glo "_law_far", .glo "_law_far_downs", .glo "_law_spell_right", .glo "_law_ends_right", .glo "_law_right", .glo "law", .glo "Row", .cls "Row", .mkr "Row", .glo "Trains", .cls "Trains", .mkr "Trains", .glo "Spell"]
def fa2 : List He.Fa := [.cls "Spell", .mkr "Spell", .glo "Timeline", .cls "Timeline", .mkr "Timeline", .noat "Row" "specs", .noat "Row" "pace", .noat "Row" "shift", .noat "Trains" "listed", .noat "Spell" "first", .noat "Spell" "recovered", .noat "Spell" "states", .noat "Spell" "trains", .noat "Timeline" "line", .noat "Timeline" "downs", .noat "Timeline" "spells", .meth "Row" "__init__", .meth "Row" "__len__", .meth "Row" "__getitem__", .meth "Row" "__contains__", .meth "Row" "step_length", .meth "Trains" "__init__", .meth "Trains" "__eq__", .meth "Trains" "__getitem__", .meth "Trains" "__contains__", .meth "Trains" "__add__", .meth "Spell" "__init__", .meth "Spell" "opening", .meth "Spell" "states_at", .meth "Spell" "whole"]
def fa3 : List He.Fa := [.meth "Timeline" "__init__", .meth "Timeline" "__len__", .meth "Timeline" "__getitem__", .meth "Timeline" "spell", .free "isinstance", .free "int", .free "bool", .free "tuple", .free "list", .free "len", .free "max", .free "min", .free "any", .free "all", .free "sum", .free "enumerate", .free "zip", .free "range", .int "MOST_BREAKERS" (12), .int "MOST_COUNT" (1000000000000), .int "MOST_WAIT" (1000000000000000000000000000000), .int "MOST_TRAINS" (1000), .int "MOST_OUTAGES" (50), .int "MOST_END" (1000000000000000000000000000000), .glo "CLOSED"]
def fa : List He.Fa := fa0 ++ fa1 ++ fa2 ++ fa3
set_option maxHeartbeats 0
def names0 : List Str := ["_wall", "__name__", "BreakerError", "InvalidRow", "InvalidTime", "InvalidOutages", "InvalidTrains", "InvalidIndex", "InvalidBound", "LimitExceeded", "is_integer", "is_between"]
def names1 : List Str := ["check_time", "check_bound", "round_up", "MOST_BREAKERS", "MOST_COUNT", "MOST_WAIT", "is_breaker", "check_breakers", "Row", "request_time", "first_request", "MOST_TRAINS"]
def names2 : List Str := ["is_train", "last_of", "check_trains", "without_first", "joined", "all_joined", "Trains", "is_in", "made", "time_count", "before_in", "count_before"]
def names3 : List Str := ["next_time", "latest_time", "slice_of", "window", "split_after", "thinned", "divided", "common_train", "shared", "MOST_OUTAGES", "MOST_END", "CLOSED"]
def names4 : List Str := ["is_outage", "check_outages", "passed", "passes_left", "Spell", "spell_from", "spells_of", "Timeline", "spell_at", "first_success", "arrivals", "starts"]
def names5 : List Str := ["openings", "OPEN", "last_spell", "state_in", "states_at", "_law_mixed", "_law_well", "_law_draw", "_law_one", "_law_place", "_law_far", "_law_far_downs"]
def names6 : List Str := ["_law_spell_right", "_law_ends_right", "_law_right"]
def names : List Str := names0 ++ names1 ++ names2 ++ names3 ++ names4 ++ names5 ++ names6
abbrev R : PySem.W.OpenRow := PySem.W.OpenLaw.row PySem.Challenge.rw_breakerrow_k21_whole_great_outages
/-- what some addresses reach in n steps, step by step -/
def hReach (g : Addr → Option Obj) : Nat → List Addr → List Addr
  | 0, l => l
  | n + 1, l => l ++ hReach g n (l.flatMap fun b => (g b).elim [] He.refsD)
def hSeen (g : Addr → Option Obj) : PySem.W.Frag := He.frT g (hReach g 4 [mainGlobals])
def hA (g : Addr → Option Obj) : Bool := (fa.all fun f => f.ok (hSeen g)) && ex (hSeen g)
def hB (g : Addr → Option Obj) : Bool × List He.FnW := (fn.all fun d => d.ok (hSeen g), fn.map fun d => He.fnW (hSeen g) d.at_)
theorem hSays {w : World} {h : Heap} (e : (hA h.get?, hB h.get?) = (true, true, fn.map He.DefD.val)) : He.SaysX fa fn [] [] ex w h (hSeen h.get?) := by
  obtain ⟨e1, e2⟩ := Prod.mk.inj e
  obtain ⟨e3, e4⟩ := Prod.mk.inj e2
  obtain ⟨e5, e6⟩ := He.ba e1
  exact ⟨Prod.ext (Prod.ext (Bool.and_eq_true_iff.mpr ⟨e5, e3⟩) e4) rfl, e6, fun _ q => (List.not_mem_nil q).elim, fun _ q => (List.not_mem_nil q).elim, fun _ q => (List.not_mem_nil q).elim⟩
def hk : PySem.W.Hook where
  α := Bool × Bool × List He.FnW
  obs s := (hA s.heap.get?, hB s.heap.get?)
  val _ := (true, true, fn.map He.DefD.val)
  says w h := ∃ K : PySem.W.Frag, K.In h ∧ He.SaysX fa fn [] [] ex w h K
  of _ _ e := ⟨_, He.frT_in, hSays e⟩
  keeps _ _ _ q k := by
    obtain ⟨K, i, c⟩ := q
    exact ⟨K, i.keeps k, ⟨c.t, c.more, c.hd, c.out, fun p hp => k _ _ (c.empty p hp)⟩⟩
def ob (s : PySem.W.SharedT) : Bool × Bool × List He.FnW := (hA (HandSHeadRun.getT s), hB (HandSHeadRun.getT s))
theorem ob_eq (s : PySem.W.SharedT) : ob s = hk.obs s.abs := by
  have e : HandSHeadRun.getT s = s.abs.heap.get? := funext (HandSHeadRun.getT_eq s)
  unfold ob
  rw [e]
  rfl
/-! the run three times, each with a part of the looks: less memory than once with all of them -/
noncomputable abbrev hEnd (w : World) (os : OsState) : Option PySem.W.SharedT := HandSHeadRun.endF (HandSHeadRun.stepQ (HandSHeadRun.denQ HandSHeadRun.tabQ) R.prog w) 8000 R.prog w os
noncomputable abbrev hLook (w : World) (s : PySem.W.SharedT) : Bool := HandSHeadRun.looksF R.prog (PySem.W.boot_heap w.params) s.abs
noncomputable abbrev hS (s : PySem.W.SharedT) := HandSHeadRun.seenQ (PySem.W.view R.prog [81]) names (importedModules R.prog.main.body) (fun s => PySem.W.xlAt (PySem.W.view R.prog [81]) [] s && PySem.W.recOk R.toRowW.records s) s.abs
theorem run1 (w : World) (os : OsState) : (hEnd w os).map (fun s => (hLook w s, hS s)) = some (true, PySem.W.openGood (PySem.W.view R.prog [81]) names) := by
  kernel_rfl
theorem run2 (w : World) (os : OsState) : (hEnd w os).map (fun s => hA (HandSHeadRun.getT s)) = some true := by
  kernel_rfl
theorem run3 (w : World) (os : OsState) : (hEnd w os).map (fun s => hB (HandSHeadRun.getT s)) = some (true, fn.map He.DefD.val) := by
  kernel_rfl
theorem hJoin {A B C D E : Type} {o : Option A} {f : A → B} {g : A → C} {i : A → D} {j : A → E} {b : B} {c : C} {d : D} {e : E} (h1 : o.map (fun s => (f s, g s)) = some (b, c)) (h2 : o.map i = some d) (h3 : o.map j = some e) :
    o.map (fun s => (f s, g s, i s, j s)) = some (b, c, d, e) := by
  cases o with
  | none => cases h1
  | some s =>
    have e1 : (f s, g s) = (b, c) := Option.some.inj h1
    have e2 : i s = d := Option.some.inj h2
    have e3 : j s = e := Option.some.inj h3
    obtain ⟨e4, e5⟩ := Prod.mk.inj e1
    show some (f s, g s, i s, j s) = some (b, c, d, e)
    rw [e4, e5, e2, e3]
theorem run (w : World) : HandSHeadRun.RunEq R (PySem.W.view R.prog [81]) hk ob 8000 names w := fun os => hJoin (run1 w os) (run2 w os) (run3 w os)

set_option maxHeartbeats 4000000
end Br

/-! Trains: the plain mathematics. -/
namespace Br
structure Tr where
  s : Int
  d : Int
  c : Option Int
  deriving DecidableEq
def lastOf (t : Tr) : Int := t.s + t.d * (t.c.getD 0 - 1)
def woFirst (t : Tr) : List Tr := if t.c = some 1 then [] else [⟨t.s + t.d, if t.c = some 2 then 1 else t.d, t.c.map (· - 1)⟩]
def nrm1 (t : Tr) : Tr := ⟨t.s, if t.c = some 1 then 1 else t.d, t.c⟩
def joinS (l t : Tr) : List Tr :=
  if 1 < l.c.getD 0 ∧ t.s - lastOf l ≠ l.d then [l, nrm1 t]
  else if t.d = t.s - lastOf l ∧ t.c ≠ some 1 then [⟨l.s, t.s - lastOf l, t.c.map (l.c.getD 0 + ·)⟩]
  else ⟨l.s, t.s - lastOf l, some (l.c.getD 0 + 1)⟩ :: woFirst t
def joinM (l : Option Tr) (t : Tr) : List Tr := match l with
  | none => [nrm1 t]
  | some l => joinS l t
def stepJ (found : List Tr) (t : Tr) : List Tr := found.dropLast ++ joinM found.getLast? t
def allJ (ts : List Tr) : List Tr := ts.foldl stepJ []

def Mem (t : Tr) (x : Int) : Prop := ∃ k : Int, 0 ≤ k ∧ x = t.s + k * t.d ∧ ∀ c, t.c = some c → k < c
def MemL (ts : List Tr) (x : Int) : Prop := ∃ t, t ∈ ts ∧ Mem t x
structure OkT (t : Tr) : Prop where
  s0 : 0 ≤ t.s
  d1 : 1 ≤ t.d
  c1 : ∀ c, t.c = some c → 1 ≤ c
def Ord : List Tr → Prop
  | [] => True
  | [t] => OkT t
  | a :: b :: r => OkT a ∧ a.c ≠ none ∧ lastOf a < b.s ∧ Ord (b :: r)
def NF : List Tr → Prop
  | [] => True
  | [t] => OkT t ∧ (t.c = some 1 → t.d = 1)
  | a :: b :: r => OkT a ∧ (∃ m, a.c = some m ∧ 2 ≤ m) ∧ lastOf a < b.s ∧ b.s - lastOf a ≠ a.d ∧ NF (b :: r)

theorem memL_nil {x : Int} : MemL [] x ↔ False := ⟨fun ⟨_, h, _⟩ => by simp at h, False.elim⟩
theorem memL_cons {t : Tr} {r : List Tr} {x : Int} : MemL (t :: r) x ↔ Mem t x ∨ MemL r x := by
  constructor
  · rintro ⟨u, hu, hx⟩
    rcases List.mem_cons.mp hu with e | h
    · subst e; exact .inl hx
    · exact .inr ⟨u, h, hx⟩
  · rintro (h | ⟨u, hu, hx⟩)
    · exact ⟨t, List.mem_cons_self, h⟩
    · exact ⟨u, List.mem_cons_of_mem _ hu, hx⟩
theorem memL_append {a b : List Tr} {x : Int} : MemL (a ++ b) x ↔ MemL a x ∨ MemL b x := by
  constructor
  · rintro ⟨u, hu, hx⟩
    rcases List.mem_append.mp hu with h | h
    · exact .inl ⟨u, h, hx⟩
    · exact .inr ⟨u, h, hx⟩
  · rintro (⟨u, hu, hx⟩ | ⟨u, hu, hx⟩)
    · exact ⟨u, List.mem_append_left _ hu, hx⟩
    · exact ⟨u, List.mem_append_right _ hu, hx⟩
theorem Ord.ok {t : Tr} {r : List Tr} (h : Ord (t :: r)) : OkT t := by
  cases r with
  | nil => exact h
  | cons b r => exact h.1
theorem Ord.tail {t : Tr} {r : List Tr} (h : Ord (t :: r)) : Ord r := by
  cases r with
  | nil => trivial
  | cons b r => exact h.2.2.2
theorem Ord.all : ∀ {ts : List Tr}, Ord ts → ∀ t, t ∈ ts → OkT t
  | [], _, t, ht => by simp at ht
  | a :: r, h, t, ht => by
    rcases List.mem_cons.mp ht with e | ht
    · subst e; exact h.ok
    · exact Ord.all h.tail t ht
theorem NF.ord : ∀ {ts : List Tr}, NF ts → Ord ts
  | [], _ => trivial
  | [t], h => h.1
  | a :: b :: r, h => ⟨h.1, by obtain ⟨m, e, _⟩ := h.2.1; rw [e]; simp, h.2.2.1, NF.ord h.2.2.2.2⟩
theorem NF.tail {t : Tr} {r : List Tr} (h : NF (t :: r)) : NF r := by
  cases r with
  | nil => trivial
  | cons b r => exact h.2.2.2.2
theorem mul_mono {a b d : Int} (h : a ≤ b) (hd : 0 ≤ d) : a * d ≤ b * d := Int.mul_le_mul_of_nonneg_right h hd
theorem Mem.ge {t : Tr} {x : Int} (o : OkT t) (h : Mem t x) : t.s ≤ x := by
  obtain ⟨k, k0, rfl, _⟩ := h
  have := Int.mul_nonneg k0 (show 0 ≤ t.d by have := o.d1; omega)
  omega
theorem Mem.le {t : Tr} {x c : Int} (o : OkT t) (h : Mem t x) (hc : t.c = some c) : x ≤ lastOf t := by
  obtain ⟨k, k0, rfl, hk⟩ := h
  have h1 := hk c hc
  have := mul_mono (show k ≤ c - 1 by omega) (show 0 ≤ t.d by have := o.d1; omega)
  unfold lastOf
  rw [hc]
  show t.s + k * t.d ≤ t.s + t.d * (c - 1)
  rw [Int.mul_comm t.d]
  omega
theorem Mem.first {t : Tr} (o : OkT t) : Mem t t.s := ⟨0, Int.le_refl _, by omega, fun c hc => by have := o.c1 c hc; omega⟩
theorem Mem.last {t : Tr} {c : Int} (o : OkT t) (hc : t.c = some c) : Mem t (lastOf t) := by
  refine ⟨c - 1, by have := o.c1 c hc; omega, ?_, fun c' h => ?_⟩
  · unfold lastOf
    rw [hc, Int.mul_comm (c - 1)]
    rfl
  · rw [hc] at h
    cases h
    omega
theorem OkT.sle {t : Tr} {c : Int} (o : OkT t) (hc : t.c = some c) : t.s ≤ lastOf t := (Mem.last o hc).ge o
/-- what follows an ordered train lies behind it -/
theorem Ord.behind : ∀ {r : List Tr} {t : Tr}, Ord (t :: r) → ∀ u, u ∈ r → lastOf t < u.s
  | [], t, _, u, hu => by simp at hu
  | b :: r, t, h, u, hu => by
    obtain ⟨_, h2, h3, h4⟩ := h
    rcases List.mem_cons.mp hu with e | hu
    · subst e; exact h3
    · have h5 := Ord.behind h4 u hu
      have hb := h4.ok
      cases hc : b.c with
      | none =>
        cases r with
        | nil => simp at hu
        | cons a r => exact absurd hc h4.2.1
      | some c =>
        have := hb.sle hc
        omega
theorem Ord.behindX {r : List Tr} {t : Tr} (h : Ord (t :: r)) {x : Int} (hx : MemL r x) : lastOf t < x := by
  obtain ⟨u, hu, hm⟩ := hx
  have h1 := h.behind u hu
  have h2 := hm.ge (h.tail.all u hu)
  omega

/-! ### the normal form -/
def aj (l : Tr) : List Tr → List Tr
  | [] => [l]
  | t :: r => match joinS l t with
    | [x] => aj x r
    | x :: y :: _ => x :: aj y r
    | [] => []
theorem joinS_two (l t : Tr) : (∃ x, joinS l t = [x]) ∨ ∃ x y, joinS l t = [x, y] := by
  unfold joinS woFirst
  split
  · exact .inr ⟨_, _, rfl⟩
  · split
    · exact .inl ⟨_, rfl⟩
    · split
      · exact .inl ⟨_, rfl⟩
      · exact .inr ⟨_, _, rfl⟩
theorem fold_aj : ∀ (ts : List Tr) (pre : List Tr) (l : Tr), ts.foldl stepJ (pre ++ [l]) = pre ++ aj l ts
  | [], pre, l => rfl
  | t :: r, pre, l => by
    rw [List.foldl_cons]
    have e : stepJ (pre ++ [l]) t = pre ++ joinS l t := by
      unfold stepJ joinM
      rw [List.dropLast_concat, List.getLast?_concat]
    rw [e]
    unfold aj
    rcases joinS_two l t with ⟨x, e1⟩ | ⟨x, y, e1⟩
    · rw [e1]
      exact fold_aj r pre x
    · rw [e1]
      have := fold_aj r (pre ++ [x]) y
      rw [List.append_assoc] at this
      show List.foldl stepJ (pre ++ [x, y]) r = pre ++ x :: aj y r
      have e2 : pre ++ [x, y] = pre ++ ([x] ++ [y]) := rfl
      rw [e2, this, List.append_assoc] <;> rfl
theorem allJ_cons (t : Tr) (r : List Tr) : allJ (t :: r) = aj (nrm1 t) r := by
  have := fold_aj r [] (nrm1 t)
  simpa [allJ, stepJ, joinM] using this
theorem allJ_nil : allJ [] = [] := rfl

/-- membership under a start and a step -/
theorem mem_congr {t u : Tr} {x : Int} (hs : t.s = u.s) (hd : t.d = u.d) (hc : t.c = u.c) : Mem t x ↔ Mem u x := by
  unfold Mem
  rw [hs, hd, hc]
theorem nrm1_mem {t : Tr} {x : Int} (o : OkT t) : Mem (nrm1 t) x ↔ Mem t x := by
  unfold nrm1
  by_cases h : t.c = some 1
  · rw [if_pos h]
    constructor
    · rintro ⟨k, k0, e, hk⟩
      have k1 := hk 1 h
      have : k = 0 := by omega
      subst this
      refine ⟨0, k0, ?_, hk⟩
      simp at e ⊢
      exact e
    · rintro ⟨k, k0, e, hk⟩
      have k1 := hk 1 h
      have : k = 0 := by omega
      subst this
      refine ⟨0, k0, ?_, hk⟩
      simp at e ⊢
      exact e
  · rw [if_neg h]
theorem nrm1_ok {t : Tr} (o : OkT t) : OkT (nrm1 t) := by
  refine ⟨o.s0, ?_, o.c1⟩
  show 1 ≤ (if t.c = some 1 then (1 : Int) else t.d)
  have := o.d1
  split <;> omega
theorem nrm1_one {t : Tr} : (nrm1 t).c = some 1 → (nrm1 t).d = 1 := fun h => by
  have h2 : t.c = some 1 := h
  show (if t.c = some 1 then (1 : Int) else t.d) = 1
  rw [if_pos h2]
theorem nrm1_last {t : Tr} : lastOf (nrm1 t) = lastOf t := by
  unfold lastOf nrm1
  by_cases h : t.c = some 1
  · simp [h]
  · simp [h]
/-- a train's times: the first one and the others -/
theorem woFirst_mem {t : Tr} {x : Int} (o : OkT t) : Mem t x ↔ x = t.s ∨ MemL (woFirst t) x := by
  unfold woFirst
  by_cases h1 : t.c = some 1
  · rw [if_pos h1]
    simp only [memL_nil, or_false]
    constructor
    · rintro ⟨k, k0, e, hk⟩
      have k1 := hk 1 h1
      have : k = 0 := by omega
      subst this
      simpa using e
    · rintro rfl
      exact Mem.first o
  · rw [if_neg h1]
    rw [show MemL [(⟨t.s + t.d, if t.c = some 2 then 1 else t.d, t.c.map (· - 1)⟩ : Tr)] x ↔ Mem ⟨t.s + t.d, if t.c = some 2 then 1 else t.d, t.c.map (· - 1)⟩ x by rw [memL_cons, memL_nil, or_false]]
    constructor
    · rintro ⟨k, k0, e, hk⟩
      by_cases hk0 : k = 0
      · subst hk0
        exact .inl (by simpa using e)
      · refine .inr ⟨k - 1, by omega, ?_, fun c hc => ?_⟩
        · show x = t.s + t.d + (k - 1) * (if t.c = some 2 then 1 else t.d)
          by_cases h2 : t.c = some 2
          · have := hk 2 h2
            have : k = 1 := by omega
            subst this
            rw [if_pos h2]
            omega
          · rw [if_neg h2, e, Int.sub_mul]
            omega
        · simp only [Option.map_eq_some_iff] at hc
          obtain ⟨c', hc', rfl⟩ := hc
          have := hk c' hc'
          omega
    · rintro (rfl | ⟨k, k0, e, hk⟩)
      · exact Mem.first o
      · have hk2 : ∀ c, t.c = some c → k < c - 1 := fun c hc => hk (c - 1) (by simp [hc])
        refine ⟨k + 1, by omega, ?_, fun c hc => by have := hk2 c hc; omega⟩
        have e2 : x = t.s + t.d + k * (if t.c = some 2 then 1 else t.d) := e
        by_cases h2 : t.c = some 2
        · have := hk2 2 h2
          have : k = 0 := by omega
          subst this
          rw [if_pos h2] at e2
          rw [e2]
          omega
        · rw [if_neg h2] at e2
          rw [e2, Int.add_mul]
          omega

theorem woFirst_ok {t : Tr} (o : OkT t) : ∀ u, u ∈ woFirst t → OkT u ∧ (u.c = some 1 → u.d = 1) ∧ u.s = t.s + t.d ∧ (u.c = none ↔ t.c = none) ∧ (t.c ≠ none → lastOf u = lastOf t) := by
  intro u hu
  unfold woFirst at hu
  by_cases h1 : t.c = some 1
  · rw [if_pos h1] at hu
    simp at hu
  · rw [if_neg h1] at hu
    have e := List.mem_singleton.mp hu
    have s0 := o.s0
    have d1 := o.d1
    subst e
    refine ⟨⟨by show 0 ≤ t.s + t.d; omega, ?_, fun c hc => ?_⟩, fun hc => ?_, rfl, by simp, ?_⟩
    · show 1 ≤ (if t.c = some 2 then (1 : Int) else t.d)
      split <;> omega
    · simp only [Option.map_eq_some_iff] at hc
      obtain ⟨c', hc', rfl⟩ := hc
      have := o.c1 c' hc'
      have : c' ≠ 1 := fun e => h1 (by rw [hc', e])
      omega
    · simp only [Option.map_eq_some_iff] at hc
      obtain ⟨c', hc', e⟩ := hc
      have : t.c = some 2 := by rw [hc']; congr 1; omega
      show (if t.c = some 2 then (1 : Int) else t.d) = 1
      rw [if_pos this]
    · intro hn
      unfold lastOf
      cases hc : t.c with
      | none => exact absurd hc hn
      | some c =>
        show t.s + t.d + (if some c = some 2 then 1 else t.d) * (c - 1 - 1) = t.s + t.d * (c - 1)
        by_cases h2 : c = 2
        · subst h2
          rw [if_pos rfl]
          omega
        · rw [if_neg (by simpa using h2), Int.mul_sub t.d (c - 1) 1]
          omega
/-- one more train joined -/
theorem joinS_spec {l t : Tr} (ol : OkT l) (ot : OkT t) (hl : l.c ≠ none) (h1 : l.c = some 1 → l.d = 1) (hlt : lastOf l < t.s) :
    (∃ x, joinS l t = [x] ∧ OkT x ∧ (x.c = some 1 → x.d = 1) ∧ x.s = l.s ∧ (x.c = none ↔ t.c = none) ∧ (t.c ≠ none → lastOf x = lastOf t) ∧ ∀ z, Mem x z ↔ Mem l z ∨ Mem t z) ∨
    (∃ x y, joinS l t = [x, y] ∧ OkT x ∧ (∃ m, x.c = some m ∧ 2 ≤ m) ∧ x.s = l.s ∧ lastOf x < y.s ∧ y.s - lastOf x ≠ x.d ∧ OkT y ∧ (y.c = some 1 → y.d = 1) ∧ (y.c = none ↔ t.c = none) ∧ (t.c ≠ none → lastOf y = lastOf t) ∧
      (∀ z, (Mem x z ∨ Mem y z) ↔ Mem l z ∨ Mem t z) ∧ lastOf x ≤ t.s) := by
  obtain ⟨m, hm⟩ : ∃ m, l.c = some m := by
    cases h : l.c with
    | none => exact absurd h hl
    | some m => exact ⟨m, rfl⟩
  have m1 := ol.c1 m hm
  have hg : l.c.getD 0 = m := by rw [hm]; rfl
  have hlast : lastOf l = l.s + l.d * (m - 1) := by unfold lastOf; rw [hg]
  have ls := ol.sle hm
  have l0 := ol.s0
  have ld := ol.d1
  have td := ot.d1
  unfold joinS
  rw [hg]
  by_cases hA : 1 < m ∧ t.s - lastOf l ≠ l.d
  · rw [if_pos hA]
    refine .inr ⟨l, nrm1 t, rfl, ol, ⟨m, hm, by omega⟩, rfl, hlt, hA.2, nrm1_ok ot, nrm1_one, Iff.rfl, fun _ => nrm1_last, fun z => ?_, Int.le_of_lt hlt⟩
    rw [nrm1_mem ot]
  · rw [if_neg hA]
    have hd : m = 1 ∨ t.s - lastOf l = l.d := by
      rcases Int.lt_or_le 1 m with h | h
      · exact .inr (Decidable.byContradiction fun q => hA ⟨h, q⟩)
      · exact .inl (by omega)
    -- the times of l, under the new step
    have step : lastOf l = l.s + (t.s - lastOf l) * (m - 1) := by
      rcases hd with e | e
      · rw [hlast, e]; simp
      · rw [hlast] at e ⊢; rw [e]
    have lmem : ∀ z, Mem l z ↔ ∃ k, 0 ≤ k ∧ z = l.s + k * (t.s - lastOf l) ∧ k < m := by
      intro z
      constructor
      · rintro ⟨k, k0, e, hk⟩
        have := hk m hm
        refine ⟨k, k0, ?_, this⟩
        rcases hd with q | q
        · have : k = 0 := by omega
          subst this
          simpa using e
        · rw [q]; exact e
      · rintro ⟨k, k0, e, hk⟩
        refine ⟨k, k0, ?_, fun c hc => by rw [hm] at hc; cases hc; exact hk⟩
        rcases hd with q | q
        · have : k = 0 := by omega
          subst this
          simpa using e
        · rw [q] at e; exact e
    by_cases hB : t.d = t.s - lastOf l ∧ t.c ≠ some 1
    · rw [if_pos hB]
      have e1 : t.s = l.s + m * (t.s - lastOf l) := by
        have : m * (t.s - lastOf l) = (t.s - lastOf l) * (m - 1) + (t.s - lastOf l) := by
          rw [Int.mul_comm m, Int.mul_sub]; omega
        omega
      refine .inl ⟨_, rfl, ⟨l0, ?_, fun c hc => ?_⟩, fun hc => ?_, rfl, by simp, fun hn => ?_, fun z => ?_⟩
      · show 1 ≤ t.s - lastOf l
        omega
      · simp only [Option.map_eq_some_iff] at hc
        obtain ⟨c', hc', rfl⟩ := hc
        have := ot.c1 c' hc'
        omega
      · simp only [Option.map_eq_some_iff] at hc
        obtain ⟨c', hc', e⟩ := hc
        have := ot.c1 c' hc'
        omega
      · cases hc : t.c with
        | none => exact absurd hc hn
        | some c =>
          unfold lastOf
          rw [hc]
          show l.s + (t.s - lastOf l) * (m + c - 1) = t.s + t.d * (c - 1)
          have q : (t.s - lastOf l) * (m + c - 1) = m * (t.s - lastOf l) + (t.s - lastOf l) * (c - 1) := by
            rw [show m + c - 1 = m + (c - 1) by omega, Int.mul_add, Int.mul_comm m]
          rw [q, hB.1]
          omega
      · rw [lmem]
        constructor
        · rintro ⟨k, k0, e, hk⟩
          have e : z = l.s + k * (t.s - lastOf l) := e
          by_cases hkm : k < m
          · exact .inl ⟨k, k0, e, hkm⟩
          · refine .inr ⟨k - m, by omega, ?_, fun c hc => ?_⟩
            · rw [hB.1, Int.sub_mul]
              omega
            · have := hk (m + c) (by simp [hc])
              omega
        · rintro (⟨k, k0, e, hk⟩ | ⟨k, k0, e, hk⟩)
          · refine ⟨k, k0, e, fun c hc => ?_⟩
            simp only [Option.map_eq_some_iff] at hc
            obtain ⟨c', hc', rfl⟩ := hc
            have := ot.c1 c' hc'
            omega
          · refine ⟨m + k, by omega, ?_, fun c hc => ?_⟩
            · show z = l.s + (m + k) * (t.s - lastOf l)
              rw [hB.1] at e
              rw [Int.add_mul]
              omega
            · simp only [Option.map_eq_some_iff] at hc
              obtain ⟨c', hc', rfl⟩ := hc
              have := hk c' hc'
              omega
    · rw [if_neg hB]
      have e1 : t.s = l.s + m * (t.s - lastOf l) := by
        have : m * (t.s - lastOf l) = (t.s - lastOf l) * (m - 1) + (t.s - lastOf l) := by
          rw [Int.mul_comm m, Int.mul_sub]; omega
        omega
      have ox : OkT ⟨l.s, t.s - lastOf l, some (m + 1)⟩ := ⟨l0, by show 1 ≤ t.s - lastOf l; omega, fun c hc => by cases hc; omega⟩
      have lx : lastOf ⟨l.s, t.s - lastOf l, some (m + 1)⟩ = t.s := by
        show l.s + (t.s - lastOf l) * (m + 1 - 1) = t.s
        rw [show m + 1 - 1 = m by omega, Int.mul_comm]
        omega
      have xmem : ∀ z, Mem ⟨l.s, t.s - lastOf l, some (m + 1)⟩ z ↔ Mem l z ∨ z = t.s := by
        intro z
        rw [lmem]
        constructor
        · rintro ⟨k, k0, e, hk⟩
          have e : z = l.s + k * (t.s - lastOf l) := e
          have := hk (m + 1) rfl
          by_cases hkm : k < m
          · exact .inl ⟨k, k0, e, hkm⟩
          · have : k = m := by omega
            subst this
            exact .inr (by omega)
        · rintro (⟨k, k0, e, hk⟩ | rfl)
          · exact ⟨k, k0, e, fun c hc => by cases hc; omega⟩
          · exact ⟨m, by omega, e1, fun c hc => by cases hc; omega⟩
      have both : ∀ z, (Mem ⟨l.s, t.s - lastOf l, some (m + 1)⟩ z ∨ MemL (woFirst t) z) ↔ Mem l z ∨ Mem t z := by
        intro z
        rw [xmem, woFirst_mem ot (x := z), or_assoc]
      cases hw : woFirst t with
      | nil =>
        have hc1 : t.c = some 1 := by
          unfold woFirst at hw
          by_cases q : t.c = some 1
          · exact q
          · rw [if_neg q] at hw; cases hw
        refine .inl ⟨_, rfl, ox, fun hc => ?_, rfl, by simp [hc1], fun _ => ?_, fun z => ?_⟩
        · have : m + 1 = 1 := Option.some.inj hc
          omega
        · rw [lx]
          unfold lastOf
          rw [hc1]
          show t.s = t.s + t.d * (1 - 1)
          simp
        · have := both z
          rw [hw, memL_nil, or_false] at this
          exact this
      | cons y r =>
        have hr : r = [] := by
          unfold woFirst at hw
          split at hw
          · cases hw
          · injection hw with _ h2
            exact h2.symm
        subst hr
        obtain ⟨oy, y1, ys, yn, yl⟩ := woFirst_ok ot y (by rw [hw]; exact List.mem_cons_self)
        refine .inr ⟨_, y, rfl, ox, ⟨m + 1, rfl, by omega⟩, rfl, by rw [lx]; omega, ?_, oy, y1, yn, yl, fun z => ?_, by rw [lx]; exact Int.le_refl _⟩
        · show y.s - lastOf ⟨l.s, t.s - lastOf l, some (m + 1)⟩ ≠ t.s - lastOf l
          rw [lx, ys]
          intro q
          refine hB ⟨by omega, fun hc1 => ?_⟩
          unfold woFirst at hw
          rw [if_pos hc1] at hw
          cases hw
        · have := both z
          rw [hw] at this
          rw [← this]
          rw [memL_cons, memL_nil, or_false]
theorem aj_spec : ∀ (ts : List Tr) (l : Tr), OkT l → (l.c = some 1 → l.d = 1) → (ts ≠ [] → l.c ≠ none) → Ord ts → (∀ t r, ts = t :: r → lastOf l < t.s) →
    NF (aj l ts) ∧ (∃ h tl, aj l ts = h :: tl ∧ h.s = l.s) ∧ (∀ x, MemL (aj l ts) x ↔ Mem l x ∨ MemL ts x) ∧ (aj l ts).length ≤ ts.length + 1
  | [], l, ol, l1, _, _, _ => ⟨⟨ol, l1⟩, ⟨l, [], rfl, rfl⟩, fun x => by show MemL [l] x ↔ _; rw [memL_cons], Nat.le_refl _⟩
  | t :: r, l, ol, l1, ln, ho, hb => by
    have lt := hb t r rfl
    have ot := ho.ok
    have nx : ∀ {y : Tr}, (y.c = none ↔ t.c = none) → (t.c ≠ none → lastOf y = lastOf t) → (r ≠ [] → y.c ≠ none) ∧ (∀ u q, r = u :: q → lastOf y < u.s) := by
      intro y yn yl
      have tn : r ≠ [] → t.c ≠ none := fun hr => by
        cases r with
        | nil => exact absurd rfl hr
        | cons b q => exact ho.2.1
      refine ⟨fun hr q => tn hr (yn.mp q), fun u q e => ?_⟩
      subst e
      rw [yl (tn (by simp))]
      exact ho.2.2.1
    rcases joinS_spec ol ot (ln (by simp)) l1 lt with ⟨x, e, ox, x1, xs, xn, xl, xm⟩ | ⟨x, y, e, ox, x2, xs, hlt, hne, oy, y1, yn, yl, xm, _⟩
    · have ee : aj l (t :: r) = aj x r := by
        show (match joinS l t with | [x] => aj x r | x :: y :: _ => x :: aj y r | [] => []) = aj x r
        rw [e]
      rw [ee]
      obtain ⟨h1, h2⟩ := nx xn xl
      obtain ⟨i1, ⟨h, tl, i2, i3⟩, i4, i5⟩ := aj_spec r x ox x1 h1 ho.tail h2
      refine ⟨i1, ⟨h, tl, i2, by rw [i3, xs]⟩, fun z => ?_, by rw [List.length_cons]; omega⟩
      rw [i4, xm, memL_cons, or_assoc]
    · have ee : aj l (t :: r) = x :: aj y r := by
        show (match joinS l t with | [x] => aj x r | x :: y :: _ => x :: aj y r | [] => []) = x :: aj y r
        rw [e]
      rw [ee]
      obtain ⟨h1, h2⟩ := nx yn yl
      obtain ⟨i1, ⟨h, tl, i2, i3⟩, i4, i5⟩ := aj_spec r y oy y1 h1 ho.tail h2
      refine ⟨?_, ⟨x, aj y r, rfl, xs⟩, fun z => ?_, by rw [List.length_cons, List.length_cons]; omega⟩
      · rw [i2] at i1 ⊢
        exact ⟨ox, x2, by rw [i3]; exact hlt, by rw [i3]; exact hne, i1⟩
      · rw [memL_cons, i4, ← or_assoc, xm, memL_cons, or_assoc]
theorem allJ_nf {ts : List Tr} (h : Ord ts) : NF (allJ ts) := by
  cases ts with
  | nil => trivial
  | cons t r =>
    rw [allJ_cons]
    refine (aj_spec r (nrm1 t) (nrm1_ok h.ok) nrm1_one (fun hr => ?_) h.tail fun u q e => ?_).1
    · cases r with
      | nil => exact absurd rfl hr
      | cons b q => exact h.2.1
    · subst e
      rw [nrm1_last]
      exact h.2.2.1
theorem allJ_mem {ts : List Tr} (h : Ord ts) (x : Int) : MemL (allJ ts) x ↔ MemL ts x := by
  cases ts with
  | nil => exact Iff.rfl
  | cons t r =>
    rw [allJ_cons]
    rw [(aj_spec r (nrm1 t) (nrm1_ok h.ok) nrm1_one (fun hr => ?_) h.tail fun u q e => ?_).2.2.1, nrm1_mem h.ok, memL_cons]
    · cases r with
      | nil => exact absurd rfl hr
      | cons b q => exact h.2.1
    · subst e
      rw [nrm1_last]
      exact h.2.2.1
theorem allJ_len {ts : List Tr} (h : Ord ts) : (allJ ts).length ≤ ts.length := by
  cases ts with
  | nil => exact Nat.le_refl _
  | cons t r =>
    rw [allJ_cons]
    refine (aj_spec r (nrm1 t) (nrm1_ok h.ok) nrm1_one (fun hr => ?_) h.tail fun u q e => ?_).2.2.2
    · cases r with
      | nil => exact absurd rfl hr
      | cons b q => exact h.2.1
    · subst e
      rw [nrm1_last]
      exact h.2.2.1
end Br

namespace Br
/-! ### the normal form is unique -/
theorem NF.ok {t : Tr} {r : List Tr} (h : NF (t :: r)) : OkT t := h.ord.ok
theorem NF.min {t : Tr} {r : List Tr} (h : NF (t :: r)) {x : Int} (hx : MemL (t :: r) x) : t.s ≤ x := by
  rcases memL_cons.mp hx with hx | hx
  · exact hx.ge h.ok
  · have h1 := h.ord.behindX hx
    cases r with
    | nil => exact (memL_nil.mp hx).elim
    | cons b q =>
      obtain ⟨m, hm, _⟩ := h.2.1
      have := h.ok.sle hm
      omega
theorem NF.mem {t : Tr} {r : List Tr} (h : NF (t :: r)) : MemL (t :: r) t.s := memL_cons.mpr (.inl (Mem.first h.ok))
/-- a train that is not alone with one time has a second one, at its step; nothing lies between -/
theorem NF.second {t : Tr} {r : List Tr} (h : NF (t :: r)) (hc : t.c ≠ some 1) : MemL (t :: r) (t.s + t.d) ∧ ∀ x, MemL (t :: r) x → x ≤ t.s ∨ t.s + t.d ≤ x := by
  have o := h.ok
  have d1 := o.d1
  refine ⟨memL_cons.mpr (.inl ⟨1, by omega, by omega, fun c hc' => ?_⟩), fun x hx => ?_⟩
  · have := o.c1 c hc'
    have : c ≠ 1 := fun e => hc (by rw [hc', e])
    omega
  · rcases memL_cons.mp hx with ⟨k, k0, e, hk⟩ | hx
    · by_cases k1 : k = 0
      · subst k1
        exact .inl (by omega)
      · have := mul_mono (show 1 ≤ k by omega) (show 0 ≤ t.d by omega)
        exact .inr (by omega)
    · have h1 := h.ord.behindX hx
      cases r with
      | nil => exact (memL_nil.mp hx).elim
      | cons b q =>
        obtain ⟨m, hm, hm2⟩ := h.2.1
        have h2 : lastOf t = t.s + t.d * (m - 1) := by unfold lastOf; rw [hm]; rfl
        have := mul_mono (show 1 ≤ m - 1 by omega) (show 0 ≤ t.d by omega)
        rw [Int.mul_comm t.d] at h2
        exact .inr (by omega)
theorem NF.one {t : Tr} {r : List Tr} (h : NF (t :: r)) (hc : t.c = some 1) : r = [] ∧ t.d = 1 := by
  cases r with
  | nil => exact ⟨rfl, h.2 hc⟩
  | cons b q =>
    obtain ⟨m, hm, hm2⟩ := h.2.1
    rw [hc] at hm
    cases hm
    omega
theorem one_only {t : Tr} (hc : t.c = some 1) {x : Int} (h : Mem t x) : x = t.s := by
  obtain ⟨k, k0, e, hk⟩ := h
  have := hk 1 hc
  have : k = 0 := by omega
  subst this
  simpa using e
/-- behind a finite train of a normal form its next place is free -/
theorem NF.gap {t : Tr} {r : List Tr} {m : Int} (h : NF (t :: r)) (hc : t.c = some m) (h2 : m ≠ 1) : ¬ MemL (t :: r) (lastOf t + t.d) ∨ ∃ x, MemL (t :: r) x ∧ lastOf t < x ∧ x < lastOf t + t.d := by
  have o := h.ok
  have d1 := o.d1
  cases r with
  | nil =>
    refine .inl fun hx => ?_
    rcases memL_cons.mp hx with hx | hx
    · have := hx.le o hc
      omega
    · exact memL_nil.mp hx
  | cons b q =>
    obtain ⟨_, _, h3, h4, h5⟩ := id h
    by_cases hb : b.s < lastOf t + t.d
    · exact .inr ⟨b.s, memL_cons.mpr (.inr h5.mem), h3, hb⟩
    · refine .inl fun hx => ?_
      rcases memL_cons.mp hx with hx | hx
      · have := hx.le o hc
        omega
      · have := h5.min hx
        omega
theorem nf_count {a b : Tr} {r q : List Tr} (ha : NF (a :: r)) (hb : NF (b :: q)) (h : ∀ x, MemL (a :: r) x ↔ MemL (b :: q) x) (hs : a.s = b.s) (hd : a.d = b.d) (m : Int) (hm : a.c = some m) (m2 : m ≠ 1) (hn : ∀ n, b.c = some n → m < n) : False := by
  have o := ha.ok
  have d1 := o.d1
  have m1 := o.c1 m hm
  have ob := hb.ok
  have hl : lastOf a = a.s + a.d * (m - 1) := by unfold lastOf; rw [hm]; rfl
  have e1 : lastOf a + a.d = b.s + m * b.d := by
    rw [hl, hs, hd, Int.mul_sub, Int.mul_comm m]
    omega
  have inb : Mem b (lastOf a + a.d) := ⟨m, by omega, e1, hn⟩
  rcases ha.gap hm m2 with g | ⟨x, hx, x1, x2⟩
  · exact g ((h _).mpr (memL_cons.mpr (.inl inb)))
  · rcases memL_cons.mp ((h x).mp hx) with hx | hx
    · obtain ⟨k, k0, e, _⟩ := hx
      have e2 : lastOf a = b.s + (m - 1) * b.d := by rw [hl, hs, hd, Int.mul_comm]
      have k1 : m - 1 < k := by
        rcases Int.lt_or_le (m - 1) k with z | z
        · exact z
        · have := mul_mono z (show 0 ≤ b.d by have := ob.d1; omega)
          omega
      have := mul_mono (show m ≤ k by omega) (show 0 ≤ b.d by have := ob.d1; omega)
      omega
    · have := hb.ord.behindX hx
      cases q with
      | nil => exact memL_nil.mp hx
      | cons u v =>
        obtain ⟨n, hn1, _⟩ := hb.2.1
        have := inb.le ob hn1
        omega
theorem nf_unique : ∀ {l1 l2 : List Tr}, NF l1 → NF l2 → (∀ x, MemL l1 x ↔ MemL l2 x) → l1 = l2
  | [], [], _, _, _ => rfl
  | [], b :: q, _, hb, h => (memL_nil.mp ((h _).mpr hb.mem)).elim
  | a :: r, [], ha, _, h => (memL_nil.mp ((h _).mp ha.mem)).elim
  | a :: r, b :: q, ha, hb, h => by
    have oa := ha.ok
    have ob := hb.ok
    have hs : a.s = b.s := by
      have h1 := ha.min ((h _).mpr hb.mem)
      have h2 := hb.min ((h _).mp ha.mem)
      omega
    by_cases ca : a.c = some 1
    · obtain ⟨e1, e2⟩ := ha.one ca
      subst e1
      have cb : b.c = some 1 := by
        apply Decidable.byContradiction
        intro cb
        obtain ⟨h1, _⟩ := hb.second cb
        rcases memL_cons.mp ((h _).mpr h1) with h2 | h2
        · have := one_only ca h2
          have := ob.d1
          omega
        · exact memL_nil.mp h2
      obtain ⟨e3, e4⟩ := hb.one cb
      subst e3
      obtain ⟨as, ad, ac⟩ := a
      obtain ⟨bs, bd, bc⟩ := b
      simp only at hs e2 e4 ca cb
      rw [hs, e2, e4, ca, cb]
    · have cb : b.c ≠ some 1 := by
        intro cb
        obtain ⟨e3, e4⟩ := hb.one cb
        subst e3
        obtain ⟨h1, _⟩ := ha.second ca
        rcases memL_cons.mp ((h _).mp h1) with h2 | h2
        · have := one_only cb h2
          have := oa.d1
          omega
        · exact memL_nil.mp h2
      have hd : a.d = b.d := by
        obtain ⟨a1, a2⟩ := ha.second ca
        obtain ⟨b1, b2⟩ := hb.second cb
        have := a2 _ ((h _).mpr b1)
        have := b2 _ ((h _).mp a1)
        have := oa.d1
        have := ob.d1
        omega
      have hc : a.c = b.c := by
        cases ea : a.c with
        | none =>
          cases eb : b.c with
          | none => rfl
          | some n => exact (nf_count hb ha (fun x => (h x).symm) hs.symm hd.symm n eb (fun e => cb (by rw [eb, e])) (fun n' e => by rw [ea] at e; cases e)).elim
        | some m =>
          cases eb : b.c with
          | none => exact (nf_count ha hb h hs hd m ea (fun e => ca (by rw [ea, e])) (fun n' e => by rw [eb] at e; cases e)).elim
          | some n =>
            rcases Int.lt_trichotomy m n with z | z | z
            · exact (nf_count ha hb h hs hd m ea (fun e => ca (by rw [ea, e])) (fun n' e => by rw [eb] at e; cases e; exact z)).elim
            · rw [z]
            · exact (nf_count hb ha (fun x => (h x).symm) hs.symm hd.symm n eb (fun e => cb (by rw [eb, e])) (fun n' e => by rw [ea] at e; cases e; exact z)).elim
      have hab : a = b := by
        obtain ⟨as, ad, ac⟩ := a
        obtain ⟨bs, bd, bc⟩ := b
        simp only at hs hd hc
        rw [hs, hd, hc]
      subst hab
      have tl : ∀ x, MemL r x → MemL (a :: q) x → MemL q x := by
        intro x hx hy
        rcases memL_cons.mp hy with hy | hy
        · have h1 := ha.ord.behindX hx
          cases r with
          | nil => exact (memL_nil.mp hx).elim
          | cons u v =>
            obtain ⟨m, hm, _⟩ := ha.2.1
            have := hy.le oa hm
            omega
        · exact hy
      have tl2 : ∀ x, MemL q x → MemL (a :: r) x → MemL r x := by
        intro x hx hy
        rcases memL_cons.mp hy with hy | hy
        · have h1 := hb.ord.behindX hx
          cases q with
          | nil => exact (memL_nil.mp hx).elim
          | cons u v =>
            obtain ⟨m, hm, _⟩ := hb.2.1
            have := hy.le oa hm
            omega
        · exact hy
      rw [nf_unique ha.tail hb.tail fun x => ⟨fun hx => tl x hx ((h x).mp (memL_cons.mpr (.inr hx))), fun hx => tl2 x hx ((h x).mpr (memL_cons.mpr (.inr hx)))⟩]
theorem allJ_id {ts : List Tr} (h : NF ts) : allJ ts = ts := nf_unique (allJ_nf h.ord) h fun x => allJ_mem h.ord x

/-! ### counting -/
/-- how many times of a train are before a time -/
def befI (t : Tr) (x : Int) : Int := if x ≤ t.s then 0 else match t.c with
  | none => (x - t.s + t.d - 1) / t.d
  | some c => if (x - t.s + t.d - 1) / t.d < c then (x - t.s + t.d - 1) / t.d else c
def cntB (ts : List Tr) (x : Int) : Int := (ts.map fun t => befI t x).sum
def nthT : List Tr → Int → Option Int
  | [], _ => none
  | t :: r, k => match t.c with
    | none => some (t.s + k * t.d)
    | some c => if k < c then some (t.s + k * t.d) else nthT r (k - c)
theorem ceil_lt {a d k : Int} (hd : 1 ≤ d) : k < (a + d - 1) / d ↔ k * d < a := by
  rw [Int.lt_iff_add_one_le, Int.le_ediv_iff_mul_le (by omega), Int.add_mul]
  omega
theorem befI_lt {t : Tr} (o : OkT t) {x k : Int} (k0 : 0 ≤ k) (hk : ∀ c, t.c = some c → k < c) : t.s + k * t.d < x ↔ k < befI t x := by
  have d1 := o.d1
  have kd := Int.mul_nonneg k0 (show 0 ≤ t.d by omega)
  unfold befI
  by_cases hx : x ≤ t.s
  · rw [if_pos hx]
    omega
  · rw [if_neg hx]
    have e := ceil_lt (a := x - t.s) (d := t.d) (k := k) d1
    cases hc : t.c with
    | none =>
      show _ ↔ k < (x - t.s + t.d - 1) / t.d
      rw [e]
      omega
    | some c =>
      have := hk c hc
      show _ ↔ k < if (x - t.s + t.d - 1) / t.d < c then (x - t.s + t.d - 1) / t.d else c
      split
      · rw [e]
        omega
      · rename_i q
        have e2 := ceil_lt (a := x - t.s) (d := t.d) (k := k) d1
        have : k < (x - t.s + t.d - 1) / t.d := by omega
        have := e2.mp this
        omega
theorem befI_nn {t : Tr} (o : OkT t) (x : Int) : 0 ≤ befI t x := by
  have d1 := o.d1
  unfold befI
  split
  · exact Int.le_refl _
  · rename_i hx
    have : 0 ≤ (x - t.s + t.d - 1) / t.d := Int.ediv_nonneg (by omega) (by omega)
    cases hc : t.c with
    | none => exact this
    | some c =>
      have := o.c1 c hc
      show 0 ≤ if (x - t.s + t.d - 1) / t.d < c then (x - t.s + t.d - 1) / t.d else c
      split <;> omega
theorem befI_le {t : Tr} (o : OkT t) {x c : Int} (hc : t.c = some c) : befI t x ≤ c := by
  have := o.c1 c hc
  unfold befI
  rw [hc]
  split
  · omega
  · show (if (x - t.s + t.d - 1) / t.d < c then (x - t.s + t.d - 1) / t.d else c) ≤ c
    split <;> omega
/-- a place below the count is a time before -/
theorem befI_at {t : Tr} (o : OkT t) {x k : Int} (k0 : 0 ≤ k) (hk : k < befI t x) : Mem t (t.s + k * t.d) ∧ t.s + k * t.d < x := by
  have hc : ∀ c, t.c = some c → k < c := fun c hc => by
    have := befI_le o (x := x) hc
    omega
  exact ⟨⟨k, k0, rfl, hc⟩, (befI_lt o k0 hc).mpr hk⟩
theorem befI_behind {t : Tr} (o : OkT t) {x c : Int} (hc : t.c = some c) (h : lastOf t < x) : befI t x = c := by
  have c1 := o.c1 c hc
  have h1 : lastOf t = t.s + (c - 1) * t.d := by unfold lastOf; rw [hc, Int.mul_comm (c - 1)]; rfl
  have h2 := (befI_lt o (x := x) (k := c - 1) (by omega) (fun c' e => by rw [hc] at e; cases e; omega)).mp (by omega)
  have := befI_le o (x := x) hc
  omega
theorem befI_ahead {t : Tr} {x : Int} (h : x ≤ t.s) : befI t x = 0 := by
  unfold befI
  rw [if_pos h]
theorem cntB_nil (x : Int) : cntB [] x = 0 := rfl
theorem cntB_cons (t : Tr) (r : List Tr) (x : Int) : cntB (t :: r) x = befI t x + cntB r x := by
  unfold cntB
  rw [List.map_cons, List.sum_cons]
theorem cntB_nn : ∀ {ts : List Tr}, Ord ts → ∀ x, 0 ≤ cntB ts x
  | [], _, x => Int.le_refl _
  | t :: r, h, x => by
    rw [cntB_cons]
    have := befI_nn h.ok x
    have := cntB_nn h.tail x
    omega
theorem cntB_ahead : ∀ {ts : List Tr} {x : Int}, (∀ u, u ∈ ts → x ≤ u.s) → cntB ts x = 0
  | [], x, _ => rfl
  | t :: r, x, h => by
    rw [cntB_cons, befI_ahead (h t List.mem_cons_self), cntB_ahead fun u hu => h u (List.mem_cons_of_mem _ hu)]
    rfl
theorem Ord.fin {t b : Tr} {r : List Tr} (h : Ord (t :: b :: r)) : ∃ c, t.c = some c := by
  cases hc : t.c with
  | none => exact absurd hc h.2.1
  | some c => exact ⟨c, rfl⟩
/-- what stands at a place -/
theorem nthT_spec : ∀ {ts : List Tr} {k x : Int}, Ord ts → 0 ≤ k → nthT ts k = some x → MemL ts x ∧ cntB ts x = k
  | [], k, x, _, _, e => by cases e
  | t :: r, k, x, h, k0, e => by
    have o := h.ok
    have here : ∀ (hk : ∀ c, t.c = some c → k < c), x = t.s + k * t.d → MemL (t :: r) x ∧ cntB (t :: r) x = k := by
      intro hk e1
      subst e1
      refine ⟨memL_cons.mpr (.inl ⟨k, k0, rfl, hk⟩), ?_⟩
      rw [cntB_cons]
      have h1 : befI t (t.s + k * t.d) = k := by
        have nn := befI_nn o (t.s + k * t.d)
        rcases Int.lt_trichotomy (befI t (t.s + k * t.d)) k with z | z | z
        · have := (befI_lt o (x := t.s + k * t.d) nn (fun c hc => by have := hk c hc; omega)).mp (by
            have := mul_mono (show befI t (t.s + k * t.d) + 1 ≤ k by omega) (show 0 ≤ t.d by have := o.d1; omega)
            rw [Int.add_mul] at this
            have := o.d1
            omega)
          omega
        · exact z
        · have := (befI_lt o (x := t.s + k * t.d) k0 hk).mpr z
          omega
      have h2 : cntB r (t.s + k * t.d) = 0 := by
        refine cntB_ahead fun u hu => ?_
        have hb := h.behind u hu
        cases r with
        | nil => simp at hu
        | cons b q =>
          obtain ⟨c, hc⟩ := h.fin
          have : Mem t (t.s + k * t.d) := ⟨k, k0, rfl, hk⟩
          have := this.le o hc
          omega
      omega
    unfold nthT at e
    cases hc : t.c with
    | none =>
      rw [hc] at e
      exact here (fun c q => by rw [hc] at q; cases q) (Option.some.inj e).symm
    | some c =>
      rw [hc] at e
      have e : (if k < c then some (t.s + k * t.d) else nthT r (k - c)) = some x := e
      by_cases hk : k < c
      · rw [if_pos hk] at e
        exact here (fun c' q => by rw [hc] at q; cases q; exact hk) (Option.some.inj e).symm
      · rw [if_neg hk] at e
        obtain ⟨h1, h2⟩ := nthT_spec h.tail (by omega) e
        refine ⟨memL_cons.mpr (.inr h1), ?_⟩
        rw [cntB_cons, h2, befI_behind o hc (h.behindX h1)]
        omega
theorem nthT_mem : ∀ {ts : List Tr} {x : Int}, Ord ts → MemL ts x → nthT ts (cntB ts x) = some x
  | [], x, _, hx => (memL_nil.mp hx).elim
  | t :: r, x, h, hx => by
    have o := h.ok
    rw [cntB_cons]
    rcases memL_cons.mp hx with hm | hm
    · have h2 : cntB r x = 0 := by
        refine cntB_ahead fun u hu => ?_
        have hb := h.behind u hu
        cases r with
        | nil => simp at hu
        | cons b q =>
          obtain ⟨c, hc⟩ := h.fin
          have := hm.le o hc
          omega
      rw [h2]
      obtain ⟨k, k0, e, hk⟩ := hm
      have h1 : befI t x = k := by
        have nn := befI_nn o x
        rcases Int.lt_trichotomy (befI t x) k with z | z | z
        · have := (befI_lt o (x := x) nn (fun c hc => by have := hk c hc; omega)).mp (by
            have := mul_mono (show befI t x + 1 ≤ k by omega) (show 0 ≤ t.d by have := o.d1; omega)
            rw [Int.add_mul] at this
            have := o.d1
            omega)
          omega
        · exact z
        · have := (befI_lt o (x := x) k0 hk).mpr z
          omega
      rw [h1]
      unfold nthT
      rw [show k + 0 = k by omega]
      cases hc : t.c with
      | none => rw [e]
      | some c =>
        show (if k < c then some (t.s + k * t.d) else nthT r (k - c)) = some x
        rw [if_pos (hk c hc), e]
    · have hb := h.behindX hm
      cases r with
      | nil => exact (memL_nil.mp hm).elim
      | cons b q =>
        obtain ⟨c, hc⟩ := h.fin
        rw [befI_behind o hc hb]
        have nn := cntB_nn h.tail x
        unfold nthT
        rw [hc]
        show (if c + cntB (b :: q) x < c then some (t.s + (c + cntB (b :: q) x) * t.d) else nthT (b :: q) (c + cntB (b :: q) x - c)) = some x
        rw [if_neg (by omega), show c + cntB (b :: q) x - c = cntB (b :: q) x by omega]
        exact nthT_mem h.tail hm
end Br

namespace Br
/-! ### counting on -/
theorem befI_step {t : Tr} (o : OkT t) (x : Int) : (Mem t x → befI t (x + 1) = befI t x + 1) ∧ (¬ Mem t x → befI t (x + 1) = befI t x) := by
  have d1 := o.d1
  have n0 := befI_nn o x
  have n1 := befI_nn o (x + 1)
  have up : ∀ k, 0 ≤ k → k < befI t x → k < befI t (x + 1) := fun k k0 hk => by
    obtain ⟨h1, h2⟩ := befI_at o k0 hk
    refine (befI_lt o k0 fun c hc => ?_).mp (by omega)
    have := befI_le o (x := x) hc
    omega
  have le : befI t x ≤ befI t (x + 1) := by
    rcases Int.lt_or_le (befI t (x + 1)) (befI t x) with z | z
    · have := up _ n1 z
      omega
    · exact z
  constructor
  · rintro ⟨k, k0, e, hk⟩
    have h1 : ¬ k < befI t x := fun z => by
      have := (befI_lt o k0 hk).mpr z
      omega
    have h2 : k < befI t (x + 1) := (befI_lt o k0 hk).mp (by omega)
    have h3 : ¬ befI t x < k := fun z => by
      have q := (befI_lt o (x := x) n0 fun c hc => by have := hk c hc; omega).mp (by
        have := mul_mono (show befI t x + 1 ≤ k by omega) (show 0 ≤ t.d by omega)
        rw [Int.add_mul] at this
        omega)
      omega
    have h4 : ¬ k + 1 < befI t (x + 1) := fun z => by
      obtain ⟨_, q⟩ := befI_at o (show 0 ≤ k + 1 by omega) z
      rw [Int.add_mul] at q
      omega
    omega
  · intro hn
    rcases Int.lt_or_le (befI t x) (befI t (x + 1)) with z | z
    · obtain ⟨⟨k, k0, e, hk⟩, q⟩ := befI_at o n0 z
      have h2 : ¬ t.s + befI t x * t.d < x := fun w => by
        have := (befI_lt o n0 fun c hc => by
          have := befI_le o (x := x + 1) hc
          omega).mp w
        omega
      exact (hn ⟨befI t x, n0, by omega, fun c hc => by
        have := befI_le o (x := x + 1) hc
        omega⟩).elim
    · omega
theorem cntB_step : ∀ {ts : List Tr}, Ord ts → ∀ x, (MemL ts x → cntB ts (x + 1) = cntB ts x + 1) ∧ (¬ MemL ts x → cntB ts (x + 1) = cntB ts x)
  | [], _, x => ⟨fun h => (memL_nil.mp h).elim, fun _ => rfl⟩
  | t :: r, h, x => by
    obtain ⟨a1, a2⟩ := befI_step h.ok x
    obtain ⟨b1, b2⟩ := cntB_step h.tail x
    rw [cntB_cons, cntB_cons]
    constructor
    · intro hx
      rcases memL_cons.mp hx with hm | hm
      · have : ¬ MemL r x := fun q => by
          have hb := h.behindX q
          cases r with
          | nil => exact memL_nil.mp q
          | cons b q' =>
            obtain ⟨c, hc⟩ := h.fin
            have := hm.le h.ok hc
            omega
        rw [a1 hm, b2 this]
        omega
      · have : ¬ Mem t x := fun q => by
          have hb := h.behindX hm
          cases r with
          | nil => exact memL_nil.mp hm
          | cons b q' =>
            obtain ⟨c, hc⟩ := h.fin
            have := q.le h.ok hc
            omega
        rw [a2 this, b1 hm]
        omega
    · intro hx
      rw [a2 fun q => hx (memL_cons.mpr (.inl q)), b2 fun q => hx (memL_cons.mpr (.inr q))]
theorem cntB_zero {ts : List Tr} (h : Ord ts) : cntB ts 0 = 0 := cntB_ahead fun u hu => (h.all u hu).s0
/-- the count is told by the times -/
theorem cnt_congr {us ts : List Tr} (hu : Ord us) (ht : Ord ts) : ∀ n : Nat, (∀ y : Int, y < n → (MemL us y ↔ MemL ts y)) → cntB us n = cntB ts n
  | 0, _ => by
    show cntB us ((0 : Nat) : Int) = cntB ts ((0 : Nat) : Int)
    rw [show ((0 : Nat) : Int) = 0 from rfl, cntB_zero hu, cntB_zero ht]
  | n + 1, h => by
    have ih := cnt_congr hu ht n fun y hy => h y (by omega)
    rw [show ((n + 1 : Nat) : Int) = (n : Int) + 1 by omega]
    have e := h n (by omega)
    by_cases q : MemL us n
    · rw [(cntB_step hu n).1 q, (cntB_step ht n).1 (e.mp q), ih]
    · rw [(cntB_step hu n).2 q, (cntB_step ht n).2 fun z => q (e.mpr z), ih]
theorem cnt_eq {us ts : List Tr} (hu : Ord us) (ht : Ord ts) {x : Int} (x0 : 0 ≤ x) (h : ∀ y : Int, y < x → (MemL us y ↔ MemL ts y)) : cntB us x = cntB ts x := by
  obtain ⟨n, rfl⟩ := Int.eq_ofNat_of_zero_le x0
  exact cnt_congr hu ht n h
theorem cntB_mono {ts : List Tr} (h : Ord ts) {x : Int} : ∀ n : Nat, cntB ts x ≤ cntB ts (x + n)
  | 0 => by rw [show x + ((0 : Nat) : Int) = x by omega]; exact Int.le_refl _
  | n + 1 => by
    have ih := cntB_mono h (x := x) n
    rw [show x + ((n + 1 : Nat) : Int) = x + n + 1 by omega]
    obtain ⟨a, b⟩ := cntB_step h (x + n)
    by_cases q : MemL ts (x + n)
    · rw [a q]; omega
    · rw [b q]; omega
theorem cntB_le {ts : List Tr} (h : Ord ts) {x y : Int} (hxy : x ≤ y) : cntB ts x ≤ cntB ts y := by
  have := cntB_mono h (x := x) (y - x).toNat
  rwa [show x + ((y - x).toNat : Int) = y by omega] at this
/-- a time lies below a bound just if its place is below the bound's count -/
theorem lt_iff_cnt {ts : List Tr} (h : Ord ts) {x y : Int} (hx : MemL ts x) : x < y ↔ cntB ts x < cntB ts y := by
  constructor
  · intro q
    have h1 := (cntB_step h x).1 hx
    have := cntB_le h (show x + 1 ≤ y by omega)
    omega
  · intro q
    rcases Int.lt_or_le x y with z | z
    · exact z
    · have := cntB_le h z
      omega
theorem cnt_inj {ts : List Tr} (h : Ord ts) {x y : Int} (hx : MemL ts x) (hy : MemL ts y) (e : cntB ts x = cntB ts y) : x = y := by
  have a := nthT_mem h hx
  have b := nthT_mem h hy
  rw [e, b] at a
  exact (Option.some.inj a).symm

/-! ### with an end, without -/
def Inf : List Tr → Prop
  | [] => False
  | [t] => t.c = none
  | _ :: b :: r => Inf (b :: r)
def Fin (ts : List Tr) : Prop := ∀ t, t ∈ ts → t.c ≠ none
theorem Inf.nth : ∀ {ts : List Tr}, Inf ts → ∀ k, ∃ x, nthT ts k = some x
  | [], h, k => h.elim
  | [t], h, k => by
    unfold nthT
    rw [show t.c = none from h]
    exact ⟨_, rfl⟩
  | a :: b :: r, h, k => by
    unfold nthT
    cases hc : a.c with
    | none => exact ⟨_, rfl⟩
    | some c =>
      show ∃ x, (if k < c then some (a.s + k * a.d) else nthT (b :: r) (k - c)) = some x
      split
      · exact ⟨_, rfl⟩
      · exact Inf.nth (ts := b :: r) h (k - c)
theorem Inf.no_fin : ∀ {ts : List Tr}, Inf ts → Fin ts → False
  | [], h, _ => h.elim
  | [t], h, f => f t List.mem_cons_self h
  | _ :: b :: r, h, f => Inf.no_fin (ts := b :: r) h fun t ht => f t (List.mem_cons_of_mem _ ht)
theorem Inf.ne {ts : List Tr} (h : Inf ts) : ts ≠ [] := fun e => by subst e; exact h
theorem inf_or_fin : ∀ {ts : List Tr}, Ord ts → Inf ts ∨ Fin ts
  | [], _ => .inr fun t ht => by simp at ht
  | [t], _ => by
    cases hc : t.c with
    | none => exact .inl hc
    | some c => exact .inr fun u hu => by rw [List.mem_singleton.mp hu, hc]; simp
  | a :: b :: r, h => by
    rcases inf_or_fin (ts := b :: r) h.tail with q | q
    · exact .inl q
    · refine .inr fun t ht => ?_
      rcases List.mem_cons.mp ht with e | ht
      · rw [e]; exact h.2.1
      · exact q t ht
/-- endless: some time lies behind each -/
theorem Inf.far {ts : List Tr} (h : Inf ts) (o : Ord ts) (x : Int) : ∃ y, MemL ts y ∧ x < y := by
  have nn := cntB_nn o (x + 1)
  obtain ⟨y, hy⟩ := h.nth (cntB ts (x + 1))
  obtain ⟨h1, h2⟩ := nthT_spec o nn hy
  refine ⟨y, h1, ?_⟩
  rcases Int.lt_or_le x y with z | z
  · exact z
  · have := (lt_iff_cnt o (y := x + 1) h1).mp (by omega)
    omega
def maxL : List Tr → Int
  | [] => 0
  | t :: r => if lastOf t < maxL r then maxL r else lastOf t
theorem Fin.near : ∀ {ts : List Tr}, Fin ts → Ord ts → ∀ y, MemL ts y → y ≤ maxL ts
  | [], _, _, y, hy => (memL_nil.mp hy).elim
  | t :: r, f, o, y, hy => by
    unfold maxL
    have hc : ∃ c, t.c = some c := by
      cases hc : t.c with
      | none => exact absurd hc (f t List.mem_cons_self)
      | some c => exact ⟨c, rfl⟩
    obtain ⟨c, hc⟩ := hc
    rcases memL_cons.mp hy with hm | hm
    · have := hm.le o.ok hc
      split <;> omega
    · have := Fin.near (ts := r) (fun u hu => f u (List.mem_cons_of_mem _ hu)) o.tail y hm
      split <;> omega
/-- the same times: endless both or none -/
theorem inf_congr {us ts : List Tr} (ou : Ord us) (ot : Ord ts) (h : ∀ x, MemL us x ↔ MemL ts x) (i : Inf ts) : Inf us := by
  rcases inf_or_fin ou with q | q
  · exact q
  · obtain ⟨y, hy, hl⟩ := i.far ot (maxL us)
    have := q.near ou y ((h y).mpr hy)
    omega
theorem fin_congr {us ts : List Tr} (ou : Ord us) (ot : Ord ts) (h : ∀ x, MemL us x → MemL ts x) (i : Fin ts) : Fin us := by
  rcases inf_or_fin ou with q | q
  · obtain ⟨y, hy, hl⟩ := q.far ou (maxL ts)
    have := i.near ot y (h y hy)
    omega
  · exact q
/-- the next time, the latest time -/
theorem next_spec {ts : List Tr} (o : Ord ts) {x y : Int} (h : nthT ts (cntB ts x) = some y) : MemL ts y ∧ x ≤ y ∧ ∀ z, MemL ts z → x ≤ z → y ≤ z := by
  obtain ⟨h1, h2⟩ := nthT_spec o (cntB_nn o x) h
  refine ⟨h1, ?_, fun z hz hx => ?_⟩
  · rcases Int.lt_or_le y x with q | q
    · have := (lt_iff_cnt o (y := x) h1).mp q
      omega
    · exact q
  · rcases Int.lt_or_le z y with q | q
    · have := (lt_iff_cnt o (y := y) hz).mp q
      have := cntB_le o hx
      omega
    · exact q
theorem latest_spec {ts : List Tr} (o : Ord ts) {x y : Int} (h0 : 0 ≤ cntB ts (x + 1) - 1) (h : nthT ts (cntB ts (x + 1) - 1) = some y) : MemL ts y ∧ y ≤ x ∧ ∀ z, MemL ts z → z ≤ x → z ≤ y := by
  obtain ⟨h1, h2⟩ := nthT_spec o h0 h
  refine ⟨h1, ?_, fun z hz hx => ?_⟩
  · have := (lt_iff_cnt o (y := x + 1) h1).mpr (by omega)
    omega
  · rcases Int.lt_or_le y z with q | q
    · have := (lt_iff_cnt o (y := z) h1).mp q
      have := (lt_iff_cnt o (y := x + 1) hz).mp (by omega)
      omega
    · exact q
/-- a place below some count holds a time -/
theorem nth_below {ts : List Tr} (o : Ord ts) : ∀ (n : Nat) {k : Int}, 0 ≤ k → k < cntB ts n → ∃ x, nthT ts k = some x ∧ x < n
  | 0, k, k0, h => by
    rw [show ((0 : Nat) : Int) = 0 from rfl, cntB_zero o] at h
    omega
  | n + 1, k, k0, h => by
    rw [show ((n + 1 : Nat) : Int) = (n : Int) + 1 by omega] at h
    obtain ⟨a, b⟩ := cntB_step o n
    by_cases q : MemL ts n
    · rw [a q] at h
      by_cases hk : k < cntB ts n
      · obtain ⟨x, h1, h2⟩ := nth_below o n k0 hk
        exact ⟨x, h1, by omega⟩
      · have : k = cntB ts n := by omega
        subst this
        exact ⟨n, nthT_mem o q, by omega⟩
    · rw [b q] at h
      obtain ⟨x, h1, h2⟩ := nth_below o n k0 h
      exact ⟨x, h1, by omega⟩

/-! ### the number of times -/
def tCnt : List Tr → Option Int
  | [] => some 0
  | t :: r => match t.c, tCnt r with
    | some c, some n => some (c + n)
    | _, _ => none
theorem tCnt_fin : ∀ {ts : List Tr}, Ord ts → Fin ts → ∀ x, (∀ y, MemL ts y → y < x) → tCnt ts = some (cntB ts x)
  | [], _, _, x, _ => rfl
  | t :: r, o, f, x, h => by
    obtain ⟨c, hc⟩ : ∃ c, t.c = some c := by
      cases hc : t.c with
      | none => exact absurd hc (f t List.mem_cons_self)
      | some c => exact ⟨c, rfl⟩
    have ih := tCnt_fin (ts := r) o.tail (fun u hu => f u (List.mem_cons_of_mem _ hu)) x fun y hy => h y (memL_cons.mpr (.inr hy))
    unfold tCnt
    rw [hc, ih, cntB_cons, befI_behind o.ok hc (h _ (memL_cons.mpr (.inl (Mem.last o.ok hc))))]
theorem tCnt_inf : ∀ {ts : List Tr}, Inf ts → tCnt ts = none
  | [], h => h.elim
  | [t], h => by
    unfold tCnt
    rw [show t.c = none from h]
  | a :: b :: r, h => by
    unfold tCnt
    rw [tCnt_inf (ts := b :: r) h]
    cases a.c <;> rfl

/-! ### parts of trains -/
/-- a train whose times lie within another's span -/
structure Sub (t u : Tr) : Prop where
  ok : OkT u
  ge : t.s ≤ u.s
  le : ∀ c, t.c = some c → u.c ≠ none ∧ lastOf u ≤ lastOf t
inductive Thin : List Tr → List Tr → Prop where
  | nil : Thin [] []
  | drop {t : Tr} {ts us : List Tr} : Thin ts us → Thin (t :: ts) us
  | keep {t u : Tr} {ts us : List Tr} : Sub t u → Thin ts us → Thin (t :: ts) (u :: us)
theorem Thin.behind : ∀ {ts us : List Tr}, Thin ts us → ∀ x : Int, (∀ t, t ∈ ts → x < t.s) → ∀ u, u ∈ us → x < u.s
  | _, _, .nil, x, _, u, hu => by simp at hu
  | _, _, .drop h, x, hx, u, hu => Thin.behind h x (fun t ht => hx t (List.mem_cons_of_mem _ ht)) u hu
  | _, _, .keep s h, x, hx, u, hu => by
    rcases List.mem_cons.mp hu with e | hu
    · subst e
      have := hx _ List.mem_cons_self
      have := s.ge
      omega
    · exact Thin.behind h x (fun t ht => hx t (List.mem_cons_of_mem _ ht)) u hu
theorem Thin.ord : ∀ {ts us : List Tr}, Thin ts us → Ord ts → Ord us
  | _, _, .nil, _ => trivial
  | _, _, .drop h, o => Thin.ord h o.tail
  | _, _, .keep (t := t) (u := u) (ts := ts) (us := us) s h, o => by
    have ih := Thin.ord h o.tail
    cases us with
    | nil => exact s.ok
    | cons v vs =>
      have hb := h.behind (lastOf t) (o.behind) v List.mem_cons_self
      cases ts with
      | nil => cases h
      | cons b q =>
        obtain ⟨c, hc⟩ := o.fin
        obtain ⟨h1, h2⟩ := s.le c hc
        exact ⟨s.ok, h1, by omega, ih⟩
theorem Thin.len : ∀ {ts us : List Tr}, Thin ts us → us.length ≤ ts.length
  | _, _, .nil => Nat.le_refl _
  | _, _, .drop h => by rw [List.length_cons]; have := Thin.len h; omega
  | _, _, .keep s h => by rw [List.length_cons, List.length_cons]; have := Thin.len h; omega
/-- times of a part of a train, by places -/
def hiOf : Option Int → Option Int → Option Int
  | none, c => c
  | some h, some c => if c < h then some c else some h
  | some h, none => some h
def slC (s d low : Int) : Option Int → List Tr
  | none => [⟨s + low * d, d, none⟩]
  | some h => if h ≤ low then [] else [⟨s + low * d, d, some (h - low)⟩]
def slO (t : Tr) (low : Int) (high : Option Int) : List Tr := slC t.s t.d low (hiOf high t.c)
theorem slC_spec {t : Tr} (o : OkT t) {low : Int} {high : Option Int} (l0 : 0 ≤ low) (e : Option Int) (he : ∀ k, (∀ c, e = some c → k < c) ↔ (∀ c, t.c = some c → k < c) ∧ ∀ h, high = some h → k < h)
    (hn : e = none → t.c = none ∧ high = none) (hle : ∀ c h, t.c = some c → e = some h → h ≤ c) :
    (slC t.s t.d low e = [] ∧ ∀ k, low ≤ k → (∀ c, t.c = some c → k < c) → (∀ h, high = some h → k < h) → False) ∨
    (∃ u, slC t.s t.d low e = [u] ∧ Sub t u ∧ u.s = t.s + low * t.d ∧ u.d = t.d ∧ (∀ x, Mem u x ↔ ∃ k, low ≤ k ∧ x = t.s + k * t.d ∧ (∀ c, t.c = some c → k < c) ∧ ∀ h, high = some h → k < h) ∧ (high ≠ none → u.c ≠ none)) := by
  have d1 := o.d1
  have ld := Int.mul_nonneg l0 (show 0 ≤ t.d by omega)
  cases e with
  | none =>
    obtain ⟨h1, h2⟩ := hn rfl
    refine .inr ⟨⟨t.s + low * t.d, t.d, none⟩, rfl, ⟨⟨by have := o.s0; show 0 ≤ t.s + low * t.d; omega, d1, fun c hc => by cases hc⟩, by show t.s ≤ t.s + low * t.d; omega, fun c hc => by rw [h1] at hc; cases hc⟩, rfl, rfl, fun x => ?_, fun z => absurd h2 z⟩
    constructor
    · rintro ⟨k, k0, e, _⟩
      have e : x = t.s + low * t.d + k * t.d := e
      exact ⟨low + k, by omega, by rw [Int.add_mul]; omega, (he _).mp fun c hc => by cases hc⟩
    · rintro ⟨k, k0, e, _⟩
      refine ⟨k - low, by omega, ?_, fun c hc => by cases hc⟩
      show x = t.s + low * t.d + (k - low) * t.d
      rw [Int.sub_mul]
      omega
  | some h =>
    by_cases hl : h ≤ low
    · refine .inl ⟨if_pos hl, fun k k0 k1 k2 => ?_⟩
      have := (he k).mpr ⟨k1, k2⟩ h rfl
      omega
    · refine .inr ⟨⟨t.s + low * t.d, t.d, some (h - low)⟩, if_neg hl, ⟨⟨by have := o.s0; show 0 ≤ t.s + low * t.d; omega, d1, fun c hc => by cases hc; omega⟩, by show t.s ≤ t.s + low * t.d; omega, fun c hc => ⟨by simp, ?_⟩⟩, rfl, rfl, fun x => ?_, fun _ => by simp⟩
      · have hle' := hle c h hc rfl
        show t.s + low * t.d + t.d * (h - low - 1) ≤ lastOf t
        unfold lastOf
        rw [hc]
        show t.s + low * t.d + t.d * (h - low - 1) ≤ t.s + t.d * (c - 1)
        have := mul_mono (show low + (h - low - 1) ≤ c - 1 by omega) (show 0 ≤ t.d by omega)
        rw [Int.add_mul, Int.mul_comm (h - low - 1), Int.mul_comm (c - 1)] at this
        omega
      · constructor
        · rintro ⟨k, k0, e, hk⟩
          have e : x = t.s + low * t.d + k * t.d := e
          have hk := hk (h - low) rfl
          exact ⟨low + k, by omega, by rw [Int.add_mul]; omega, (he (low + k)).mp (fun c hc => by cases hc; omega)⟩
        · rintro ⟨k, k0, e, q⟩
          have := (he k).mpr q h rfl
          refine ⟨k - low, by omega, ?_, fun c hc => by cases hc; omega⟩
          show x = t.s + low * t.d + (k - low) * t.d
          rw [Int.sub_mul]
          omega
/-- what a slice is: nothing, or one train -/
theorem slO_spec {t : Tr} (o : OkT t) {low : Int} {high : Option Int} (l0 : 0 ≤ low) :
    (slO t low high = [] ∧ ∀ k, low ≤ k → (∀ c, t.c = some c → k < c) → (∀ h, high = some h → k < h) → False) ∨
    (∃ u, slO t low high = [u] ∧ Sub t u ∧ u.s = t.s + low * t.d ∧ u.d = t.d ∧ (∀ x, Mem u x ↔ ∃ k, low ≤ k ∧ x = t.s + k * t.d ∧ (∀ c, t.c = some c → k < c) ∧ ∀ h, high = some h → k < h) ∧ (high ≠ none → u.c ≠ none)) := by
  unfold slO
  refine slC_spec o l0 _ (fun k => ?_) (fun e => ?_) fun c h q1 q2 => ?_
  · cases high with
    | none => exact ⟨fun q => ⟨q, fun h e => by cases e⟩, fun q => q.1⟩
    | some h =>
      cases hc : t.c with
      | none => exact ⟨fun q => ⟨fun c e => (by cases e), fun h' e => q h' e⟩, fun q => q.2⟩
      | some c =>
        show (∀ c', (if c < h then some c else some h) = some c' → k < c') ↔ _
        by_cases q : c < h
        · rw [if_pos q]
          exact ⟨fun z => ⟨z, fun h' e => by cases e; have := z c rfl; omega⟩, fun z => z.1⟩
        · rw [if_neg q]
          exact ⟨fun z => ⟨fun c' e => by cases e; have := z h rfl; omega, z⟩, fun z => z.2⟩
  · cases high with
    | none => exact ⟨e, rfl⟩
    | some h =>
      cases hc : t.c with
      | none => rw [hc] at e; cases e
      | some c =>
        rw [hc] at e
        have e : (if c < h then some c else some h) = none := e
        split at e <;> cases e
  · rw [q1] at q2
    cases high with
    | none => cases q2; exact Int.le_refl _
    | some h' =>
      have q2 : (if c < h' then some c else some h') = some h := q2
      split at q2 <;> cases q2 <;> omega
end Br

namespace Br
theorem memL_flat {f : Tr → List Tr} {x : Int} : ∀ {ts : List Tr}, MemL (ts.flatMap f) x ↔ ∃ t, t ∈ ts ∧ MemL (f t) x
  | [] => ⟨fun h => (memL_nil.mp h).elim, fun ⟨_, h, _⟩ => by simp at h⟩
  | t :: r => by
    rw [List.flatMap_cons, memL_append, memL_flat (ts := r)]
    constructor
    · rintro (h | ⟨u, hu, hx⟩)
      · exact ⟨t, List.mem_cons_self, h⟩
      · exact ⟨u, List.mem_cons_of_mem _ hu, hx⟩
    · rintro ⟨u, hu, hx⟩
      rcases List.mem_cons.mp hu with e | hu
      · subst e; exact .inl hx
      · exact .inr ⟨u, hu, hx⟩
theorem thin_flat {f : Tr → List Tr} : ∀ {ts : List Tr}, (∀ t, t ∈ ts → f t = [] ∨ ∃ u, f t = [u] ∧ Sub t u) → Thin ts (ts.flatMap f)
  | [], _ => .nil
  | t :: r, h => by
    have ih := thin_flat (f := f) (ts := r) fun u hu => h u (List.mem_cons_of_mem _ hu)
    rw [List.flatMap_cons]
    rcases h t List.mem_cons_self with e | ⟨u, e, s⟩
    · rw [e]
      exact .drop ih
    · rw [e]
      exact .keep s ih
/-! ### a window from 0 on -/
def winL (ts : List Tr) (after : Int) : List Tr := ts.flatMap fun t => slO t (befI t 0) (some (befI t after))
def winM (ts : List Tr) (after : Int) : List Tr := allJ (winL ts after)
theorem winL_spec {ts : List Tr} (o : Ord ts) (after : Int) : Thin ts (winL ts after) ∧ Fin (winL ts after) ∧ ∀ x, MemL (winL ts after) x ↔ MemL ts x ∧ x < after := by
  have b0 : ∀ t, t ∈ ts → befI t 0 = 0 := fun t ht => befI_ahead (o.all t ht).s0
  refine ⟨thin_flat fun t ht => ?_, fun u hu => ?_, fun x => ?_⟩
  · rcases slO_spec (o.all t ht) (low := befI t 0) (high := some (befI t after)) (by rw [b0 t ht]; exact Int.le_refl _) with ⟨e, _⟩ | ⟨u, e, s, _⟩
    · exact .inl e
    · exact .inr ⟨u, e, s⟩
  · obtain ⟨t, ht, hu⟩ := List.mem_flatMap.mp hu
    rcases slO_spec (o.all t ht) (low := befI t 0) (high := some (befI t after)) (by rw [b0 t ht]; exact Int.le_refl _) with ⟨e, _⟩ | ⟨u', e, _, _, _, _, h⟩
    · rw [e] at hu; simp at hu
    · rw [e] at hu
      rw [List.mem_singleton.mp hu]
      exact h (by simp)
  · unfold winL
    rw [memL_flat]
    constructor
    · rintro ⟨t, ht, hx⟩
      have ot := o.all t ht
      rcases slO_spec ot (low := befI t 0) (high := some (befI t after)) (by rw [b0 t ht]; exact Int.le_refl _) with ⟨e, _⟩ | ⟨u', e, _, _, _, h, _⟩
      · rw [e] at hx; exact (memL_nil.mp hx).elim
      · rw [e] at hx
        rcases memL_cons.mp hx with hx | hx
        · obtain ⟨k, k0, e1, h1, h2⟩ := (h x).mp hx
          rw [b0 t ht] at k0
          refine ⟨⟨t, ht, k, k0, e1, h1⟩, ?_⟩
          rw [e1]
          exact (befI_lt ot k0 h1).mpr (h2 _ rfl)
        · exact (memL_nil.mp hx).elim
    · rintro ⟨⟨t, ht, k, k0, e1, h1⟩, hlt⟩
      have ot := o.all t ht
      refine ⟨t, ht, ?_⟩
      have hk : k < befI t after := (befI_lt ot k0 h1).mp (by rw [← e1]; exact hlt)
      rcases slO_spec ot (low := befI t 0) (high := some (befI t after)) (by rw [b0 t ht]; exact Int.le_refl _) with ⟨_, q⟩ | ⟨u', e, _, _, _, h, _⟩
      · exact (q k (by rw [b0 t ht]; exact k0) h1 fun h e => by cases e; exact hk).elim
      · rw [e]
        exact memL_cons.mpr (.inl ((h x).mpr ⟨k, by rw [b0 t ht]; exact k0, e1, h1, fun h e => by cases e; exact hk⟩))
theorem winM_spec {ts : List Tr} (o : Ord ts) (after : Int) : NF (winM ts after) ∧ Fin (winM ts after) ∧ ∀ x, MemL (winM ts after) x ↔ MemL ts x ∧ x < after := by
  obtain ⟨h1, h2, h3⟩ := winL_spec o after
  have ol := h1.ord o
  refine ⟨allJ_nf ol, fin_congr (allJ_nf ol).ord ol (fun x => (allJ_mem ol x).mp) h2, fun x => ?_⟩
  unfold winM
  rw [allJ_mem ol, h3]

/-! ### the first so many times, and the others -/
def nl (t : Tr) (left : Int) : Int := match t.c with
  | none => 0
  | some c => if left - c > 0 then left - c else 0
def splL : List Tr → Int → List Tr
  | [], _ => []
  | t :: r, left => (if 0 < left then slO t 0 (some left) else []) ++ splL r (nl t left)
def splR : List Tr → Int → List Tr
  | [], _ => []
  | t :: r, left => slO t left none ++ splR r (nl t left)
theorem nl_nn (t : Tr) (left : Int) : 0 ≤ nl t left := by
  unfold nl
  split
  · exact Int.le_refl _
  · split <;> omega
theorem spl_spec : ∀ {ts : List Tr} {left : Int}, Ord ts → 0 ≤ left →
    (Thin ts (splL ts left) ∧ Fin (splL ts left) ∧ ∀ x, MemL (splL ts left) x ↔ MemL ts x ∧ cntB ts x < left) ∧
    (Thin ts (splR ts left) ∧ ∀ x, MemL (splR ts left) x ↔ MemL ts x ∧ left ≤ cntB ts x)
  | [], left, _, _ => ⟨⟨.nil, fun t ht => by simp [splL] at ht, fun x => ⟨fun h => (memL_nil.mp h).elim, fun h => (memL_nil.mp h.1).elim⟩⟩, .nil, fun x => ⟨fun h => (memL_nil.mp h).elim, fun h => (memL_nil.mp h.1).elim⟩⟩
  | t :: r, left, o, l0 => by
    have ot := o.ok
    obtain ⟨⟨i1, i2, i3⟩, j1, j2⟩ := spl_spec (ts := r) (left := nl t left) o.tail (nl_nn t left)
    -- the place of a time
    have plT : ∀ x k, 0 ≤ k → x = t.s + k * t.d → (∀ c, t.c = some c → k < c) → cntB (t :: r) x = k := fun x k k0 e hk => by
      have hm : Mem t x := ⟨k, k0, e, hk⟩
      have e2 : nthT (t :: r) k = some x := by
        unfold nthT
        cases hc : t.c with
        | none => rw [e]
        | some c =>
          show (if k < c then some (t.s + k * t.d) else nthT r (k - c)) = some x
          rw [if_pos (hk c hc), e]
      exact (nthT_spec o k0 e2).2
    have plR : ∀ x, MemL r x → ∃ c, t.c = some c ∧ cntB (t :: r) x = c + cntB r x ∧ 0 ≤ cntB r x := fun x hx => by
      have hb := o.behindX hx
      cases r with
      | nil => exact (memL_nil.mp hx).elim
      | cons b q =>
        obtain ⟨c, hc⟩ := o.fin
        exact ⟨c, hc, by rw [cntB_cons, befI_behind ot hc hb], cntB_nn o.tail x⟩
    have nlc : ∀ c, t.c = some c → nl t left = if left - c > 0 then left - c else 0 := fun c hc => by
      unfold nl
      rw [hc]
    have hA : (if 0 < left then slO t 0 (some left) else []) = [] ∧ (∀ k, 0 ≤ k → (∀ c, t.c = some c → k < c) → k < left → False) ∨
        ∃ u, (if 0 < left then slO t 0 (some left) else []) = [u] ∧ Sub t u ∧ (∀ x, Mem u x ↔ ∃ k, 0 ≤ k ∧ x = t.s + k * t.d ∧ (∀ c, t.c = some c → k < c) ∧ k < left) ∧ u.c ≠ none := by
      by_cases hl : 0 < left
      · rw [if_pos hl]
        rcases slO_spec ot (low := 0) (high := some left) (Int.le_refl _) with ⟨e, q⟩ | ⟨u, e, s, _, _, h, hn⟩
        · exact .inl ⟨e, fun k k0 k1 k2 => q k k0 k1 fun h e => by cases e; exact k2⟩
        · refine .inr ⟨u, e, s, fun x => ?_, hn (by simp)⟩
          rw [h]
          exact ⟨fun ⟨k, a, b, c, d⟩ => ⟨k, a, b, c, d _ rfl⟩, fun ⟨k, a, b, c, d⟩ => ⟨k, a, b, c, fun h e => by cases e; exact d⟩⟩
      · rw [if_neg hl]
        exact .inl ⟨rfl, fun k k0 _ k2 => by omega⟩
    refine ⟨⟨?_, fun u hu => ?_, fun x => ?_⟩, ?_, fun x => ?_⟩
    · show Thin (t :: r) ((if 0 < left then slO t 0 (some left) else []) ++ splL r (nl t left))
      rcases hA with ⟨e, _⟩ | ⟨u, e, s, _⟩
      · rw [e]; exact .drop i1
      · rw [e]; exact .keep s i1
    · have hu : u ∈ (if 0 < left then slO t 0 (some left) else []) ++ splL r (nl t left) := hu
      rcases List.mem_append.mp hu with hu | hu
      · rcases hA with ⟨e, _⟩ | ⟨u', e, _, _, h⟩
        · rw [e] at hu; simp at hu
        · rw [e] at hu
          rw [List.mem_singleton.mp hu]
          exact h
      · exact i2 u hu
    · show MemL ((if 0 < left then slO t 0 (some left) else []) ++ splL r (nl t left)) x ↔ _
      rw [memL_append, i3]
      constructor
      · rintro (hx | ⟨hx, hl⟩)
        · rcases hA with ⟨e, _⟩ | ⟨u, e, _, h, _⟩
          · rw [e] at hx; exact (memL_nil.mp hx).elim
          · rw [e] at hx
            rcases memL_cons.mp hx with hx | hx
            · obtain ⟨k, k0, e1, h1, h2⟩ := (h x).mp hx
              refine ⟨memL_cons.mpr (.inl ⟨k, k0, e1, h1⟩), ?_⟩
              rw [plT x k k0 e1 h1]
              exact h2
            · exact (memL_nil.mp hx).elim
        · obtain ⟨c, hc, e, nn⟩ := plR x hx
          refine ⟨memL_cons.mpr (.inr hx), ?_⟩
          rw [nlc c hc] at hl
          rw [e]
          split at hl <;> omega
      · rintro ⟨hx, hl⟩
        rcases memL_cons.mp hx with ⟨k, k0, e1, h1⟩ | hx
        · rw [plT x k k0 e1 h1] at hl
          rcases hA with ⟨_, q⟩ | ⟨u, e, _, h, _⟩
          · exact (q k k0 h1 hl).elim
          · rw [e]
            exact .inl (memL_cons.mpr (.inl ((h x).mpr ⟨k, k0, e1, h1, hl⟩)))
        · obtain ⟨c, hc, e, nn⟩ := plR x hx
          refine .inr ⟨hx, ?_⟩
          rw [nlc c hc]
          rw [e] at hl
          split <;> omega
    · show Thin (t :: r) (slO t left none ++ splR r (nl t left))
      rcases slO_spec ot (low := left) (high := none) l0 with ⟨e, _⟩ | ⟨u, e, s, _⟩
      · rw [e]; exact .drop j1
      · rw [e]; exact .keep s j1
    · show MemL (slO t left none ++ splR r (nl t left)) x ↔ _
      rw [memL_append, j2]
      constructor
      · rintro (hx | ⟨hx, hl⟩)
        · rcases slO_spec ot (low := left) (high := none) l0 with ⟨e, _⟩ | ⟨u, e, _, _, _, h, _⟩
          · rw [e] at hx; exact (memL_nil.mp hx).elim
          · rw [e] at hx
            rcases memL_cons.mp hx with hx | hx
            · obtain ⟨k, k0, e1, h1, _⟩ := (h x).mp hx
              refine ⟨memL_cons.mpr (.inl ⟨k, by omega, e1, h1⟩), ?_⟩
              rw [plT x k (by omega) e1 h1]
              exact k0
            · exact (memL_nil.mp hx).elim
        · obtain ⟨c, hc, e, nn⟩ := plR x hx
          refine ⟨memL_cons.mpr (.inr hx), ?_⟩
          rw [nlc c hc] at hl
          rw [e]
          split at hl <;> omega
      · rintro ⟨hx, hl⟩
        rcases memL_cons.mp hx with ⟨k, k0, e1, h1⟩ | hx
        · rw [plT x k k0 e1 h1] at hl
          rcases slO_spec ot (low := left) (high := none) l0 with ⟨_, q⟩ | ⟨u, e, _, _, _, h, _⟩
          · exact (q k hl h1 fun h e => by cases e).elim
          · rw [e]
            exact .inl (memL_cons.mpr (.inl ((h x).mpr ⟨k, hl, e1, h1, fun h e => by cases e⟩)))
        · obtain ⟨c, hc, e, nn⟩ := plR x hx
          refine .inr ⟨hx, ?_⟩
          rw [nlc c hc]
          rw [e] at hl
          split <;> omega

/-! ### thinned -/
def lowOf (t : Tr) (w since : Int) : Int := if (since + w - t.s + t.d - 1) / t.d > 0 then (since + w - t.s + t.d - 1) / t.d else 0
def strOf (t : Tr) (w : Int) : Int := (w + t.d - 1) / t.d
def thT (t : Tr) (w since : Int) : Tr := ⟨t.s + lowOf t w since * t.d, t.d * strOf t w, t.c.map fun c => (c - 1 - lowOf t w since) / strOf t w + 1⟩
def thinL : List Tr → Int → Int → List Tr
  | [], _, _ => []
  | t :: r, w, since => match t.c with
    | none => thT t w since :: thinL r w since
    | some c => if lowOf t w since < c then thT t w since :: thinL r w (lastOf (thT t w since)) else thinL r w since
theorem lowOf_nn (t : Tr) (w since : Int) : 0 ≤ lowOf t w since := by
  unfold lowOf
  split <;> omega
theorem lowOf_ge {t : Tr} (o : OkT t) (w since : Int) : since + w ≤ t.s + lowOf t w since * t.d := by
  have d1 := o.d1
  unfold lowOf
  have e := ceil_lt (a := since + w - t.s) (d := t.d) (k := (since + w - t.s + t.d - 1) / t.d) d1
  have : ¬ ((since + w - t.s + t.d - 1) / t.d * t.d < since + w - t.s) := fun q => by
    have := e.mpr q
    omega
  split
  · omega
  · rename_i h
    have e0 := ceil_lt (a := since + w - t.s) (d := t.d) (k := 0) d1
    have : ¬ (0 * t.d < since + w - t.s) := fun q => by
      have := e0.mpr q
      omega
    omega
theorem lowOf_le {t : Tr} (o : OkT t) (w since : Int) : lowOf t w since * t.d ≤ since + w - t.s + t.d - 1 ∨ lowOf t w since = 0 := by
  have d1 := o.d1
  unfold lowOf
  split
  · exact .inl (Int.ediv_mul_le _ (by omega))
  · exact .inr rfl
theorem strOf_ge {t : Tr} (o : OkT t) {w : Int} (w1 : 1 ≤ w) : 1 ≤ strOf t w := by
  have d1 := o.d1
  have := (ceil_lt (a := w) (d := t.d) (k := 0) d1).mpr (by omega)
  unfold strOf
  omega
theorem strOf_le {t : Tr} (o : OkT t) (w : Int) : strOf t w * t.d ≤ w + t.d - 1 := Int.ediv_mul_le _ (by have := o.d1; omega)
theorem thT_sub {t : Tr} (o : OkT t) {w : Int} (w1 : 1 ≤ w) (since : Int) (h : ∀ c, t.c = some c → lowOf t w since < c) :
    Sub t (thT t w since) ∧ (∀ x, Mem (thT t w since) x → Mem t x) ∧ since + w ≤ (thT t w since).s ∧ ((thT t w since).c = none ↔ t.c = none) := by
  have d1 := o.d1
  have l0 := lowOf_nn t w since
  have st := strOf_ge o w1
  have ld := Int.mul_nonneg l0 (show 0 ≤ t.d by omega)
  have key : ∀ c k, t.c = some c → 0 ≤ k → k < (c - 1 - lowOf t w since) / strOf t w + 1 → lowOf t w since + k * strOf t w ≤ c - 1 := fun c k hc k0 hk => by
    have h1 := Int.ediv_mul_le (c - 1 - lowOf t w since) (b := strOf t w) (by omega)
    have h2 := mul_mono (show k ≤ (c - 1 - lowOf t w since) / strOf t w by omega) (show 0 ≤ strOf t w by omega)
    omega
  have cnn : ∀ c, t.c = some c → 0 ≤ (c - 1 - lowOf t w since) / strOf t w := fun c hc => by
    have := h c hc
    exact Int.ediv_nonneg (by omega) (by omega)
  refine ⟨⟨⟨?_, ?_, fun c hc => ?_⟩, ?_, fun c hc => ⟨?_, ?_⟩⟩, ?_, ?_, ?_⟩
  · show 0 ≤ t.s + lowOf t w since * t.d
    have := o.s0
    omega
  · show 1 ≤ t.d * strOf t w
    have := mul_mono (show 1 ≤ t.d by omega) (show 0 ≤ strOf t w by omega)
    omega
  · simp only [thT, Option.map_eq_some_iff] at hc
    obtain ⟨c', hc', rfl⟩ := hc
    have := cnn c' hc'
    omega
  · show t.s ≤ t.s + lowOf t w since * t.d
    omega
  · simp [thT, hc]
  · unfold lastOf thT
    rw [hc]
    show t.s + lowOf t w since * t.d + t.d * strOf t w * ((c - 1 - lowOf t w since) / strOf t w + 1 - 1) ≤ t.s + t.d * (c - 1)
    have := key c ((c - 1 - lowOf t w since) / strOf t w) hc (cnn c hc) (by omega)
    have := mul_mono this (show 0 ≤ t.d by omega)
    rw [Int.add_mul] at this
    have e : t.d * strOf t w * ((c - 1 - lowOf t w since) / strOf t w + 1 - 1) = (c - 1 - lowOf t w since) / strOf t w * strOf t w * t.d := by
      rw [show (c - 1 - lowOf t w since) / strOf t w + 1 - 1 = (c - 1 - lowOf t w since) / strOf t w by omega, Int.mul_comm, Int.mul_comm t.d, ← Int.mul_assoc]
    rw [e, Int.mul_comm t.d]
    omega
  · rintro x ⟨k, k0, e, hk⟩
    have e : x = t.s + lowOf t w since * t.d + k * (t.d * strOf t w) := e
    refine ⟨lowOf t w since + k * strOf t w, ?_, ?_, fun c hc => ?_⟩
    · have := Int.mul_nonneg k0 (show 0 ≤ strOf t w by omega)
      omega
    · rw [e, Int.add_mul, Int.mul_comm t.d, ← Int.mul_assoc]
      omega
    · have := key c k hc k0 (hk _ (by simp [thT, hc]))
      omega
  · exact lowOf_ge o w since
  · simp [thT]
theorem thin_spec : ∀ {ts : List Tr} {w since : Int}, Ord ts → 1 ≤ w → 
    Thin ts (thinL ts w since) ∧ (∀ x, MemL (thinL ts w since) x → MemL ts x) ∧ (∀ u, u ∈ thinL ts w since → since + w ≤ u.s) ∧ (Inf ts → Inf (thinL ts w since))
  | [], w, since, _, _ => ⟨.nil, fun x h => h, fun u hu => by simp [thinL] at hu, fun h => h⟩
  | t :: r, w, since, o, w1 => by
    have ot := o.ok
    cases hc : t.c with
    | none =>
      have eq : thinL (t :: r) w since = thT t w since :: thinL r w since := by
        show (match t.c with | none => thT t w since :: thinL r w since | some c => if lowOf t w since < c then thT t w since :: thinL r w (lastOf (thT t w since)) else thinL r w since) = _
        rw [hc]
      rw [eq]
      have hr : r = [] := by
        cases r with
        | nil => rfl
        | cons b q => exact absurd hc o.2.1
      subst hr
      obtain ⟨s, h1, h2, h3⟩ := thT_sub ot w1 since (fun c q => by rw [hc] at q; cases q)
      refine ⟨.keep s .nil, fun x hx => ?_, fun u hu => ?_, fun _ => h3.mpr hc⟩
      · rcases memL_cons.mp hx with hx | hx
        · exact memL_cons.mpr (.inl (h1 x hx))
        · exact (memL_nil.mp hx).elim
      · rw [List.mem_singleton.mp hu]
        exact h2
    | some c =>
      have eq : thinL (t :: r) w since = if lowOf t w since < c then thT t w since :: thinL r w (lastOf (thT t w since)) else thinL r w since := by
        show (match t.c with | none => thT t w since :: thinL r w since | some c => if lowOf t w since < c then thT t w since :: thinL r w (lastOf (thT t w since)) else thinL r w since) = _
        rw [hc]
      rw [eq]
      by_cases hl : lowOf t w since < c
      · rw [if_pos hl]
        obtain ⟨s, h1, h2, h3⟩ := thT_sub ot w1 since (fun c' q => by rw [hc] at q; cases q; exact hl)
        obtain ⟨i1, i2, i3, i4⟩ := thin_spec (ts := r) (w := w) (since := lastOf (thT t w since)) o.tail w1
        refine ⟨.keep s i1, fun x hx => ?_, fun u hu => ?_, fun hi => ?_⟩
        · rcases memL_cons.mp hx with hx | hx
          · exact memL_cons.mpr (.inl (h1 x hx))
          · exact memL_cons.mpr (.inr (i2 x hx))
        · rcases List.mem_cons.mp hu with e | hu
          · rw [e]; exact h2
          · have := i3 u hu
            have hf : (thT t w since).c ≠ none := (s.le c hc).1
            cases hcc : (thT t w since).c with
            | none => exact absurd hcc hf
            | some c' =>
              have := s.ok.sle hcc
              omega
        · cases r with
          | nil => rw [show t.c = none from hi] at hc; cases hc
          | cons b q =>
            have hi' := i4 hi
            cases e : thinL (b :: q) w (lastOf (thT t w since)) with
            | nil => rw [e] at hi'; exact hi'.elim
            | cons v vs => rw [e] at hi'; exact hi'
      · rw [if_neg hl]
        obtain ⟨i1, i2, i3, i4⟩ := thin_spec (ts := r) (w := w) (since := since) o.tail w1
        refine ⟨.drop i1, fun x hx => memL_cons.mpr (.inr (i2 x hx)), i3, fun hi => ?_⟩
        cases r with
        | nil => rw [show t.c = none from hi] at hc; cases hc
        | cons b q => exact i4 hi
end Br

namespace Br
/-! ### bounds -/
structure Bd (M : Int) (t : Tr) : Prop where
  d : t.d ≤ M
  s : t.s ≤ M
  l : t.c ≠ none → lastOf t ≤ M
def BdL (M : Int) (ts : List Tr) : Prop := ∀ t, t ∈ ts → Bd M t
theorem Bd.mono {M N : Int} {t : Tr} (h : M ≤ N) (b : Bd M t) : Bd N t := ⟨by have := b.d; omega, by have := b.s; omega, fun q => by have := b.l q; omega⟩
theorem BdL.mono {M N : Int} {ts : List Tr} (h : M ≤ N) (b : BdL M ts) : BdL N ts := fun t ht => (b t ht).mono h
theorem Bd.fin {M c : Int} {t : Tr} (o : OkT t) (hc : t.c = some c) (h1 : c = 1 → t.d = 1) (hl : lastOf t ≤ M) (m1 : 1 ≤ M) : Bd M t := by
  have c1 := o.c1 c hc
  have sl := o.sle hc
  refine ⟨?_, by omega, fun _ => hl⟩
  by_cases q : c = 1
  · have := h1 q; omega
  · have e : lastOf t = t.s + t.d * (c - 1) := by unfold lastOf; rw [hc]; rfl
    have := mul_mono (show 1 ≤ c - 1 by omega) (show 0 ≤ t.d by have := o.d1; omega)
    rw [Int.mul_comm t.d] at e
    have := o.s0
    omega
theorem Bd.cnt {M c : Int} {t : Tr} (b : Bd M t) (o : OkT t) (hc : t.c = some c) : c ≤ M + 1 := by
  have e : lastOf t = t.s + t.d * (c - 1) := by unfold lastOf; rw [hc]; rfl
  have := o.c1 c hc
  have := mul_mono (show 1 ≤ t.d by have := o.d1; omega) (show 0 ≤ c - 1 by omega)
  have := b.l (by rw [hc]; simp)
  have := o.s0
  omega
theorem joinS_ds (l t : Tr) : ∀ u, u ∈ joinS l t → (u.d = l.d ∨ u.d = t.d ∨ u.d = 1 ∨ u.d = t.s - lastOf l) ∧ (u.s = l.s ∨ u.s = t.s ∨ u.s = t.s + t.d) := by
  intro u hu
  unfold joinS at hu
  split at hu
  · rcases List.mem_cons.mp hu with e | hu
    · subst e; exact ⟨.inl rfl, .inl rfl⟩
    · rw [List.mem_singleton.mp hu]
      refine ⟨?_, .inr (.inl rfl)⟩
      show (if t.c = some 1 then (1 : Int) else t.d) = _ ∨ (if t.c = some 1 then (1 : Int) else t.d) = _ ∨ (if t.c = some 1 then (1 : Int) else t.d) = _ ∨ _
      split
      · exact .inr (.inr (.inl rfl))
      · exact .inr (.inl rfl)
  · split at hu
    · rw [List.mem_singleton.mp hu]
      exact ⟨.inr (.inr (.inr rfl)), .inl rfl⟩
    · rcases List.mem_cons.mp hu with e | hu
      · subst e
        exact ⟨.inr (.inr (.inr rfl)), .inl rfl⟩
      · unfold woFirst at hu
        split at hu
        · simp at hu
        · rw [List.mem_singleton.mp hu]
          refine ⟨?_, .inr (.inr rfl)⟩
          show (if t.c = some 2 then (1 : Int) else t.d) = _ ∨ (if t.c = some 2 then (1 : Int) else t.d) = _ ∨ (if t.c = some 2 then (1 : Int) else t.d) = _ ∨ _
          split
          · exact .inr (.inr (.inl rfl))
          · exact .inr (.inl rfl)
theorem joinS_bd {l t : Tr} {M : Int} (m1 : 1 ≤ M) (ol : OkT l) (ot : OkT t) (hl : l.c ≠ none) (h1 : l.c = some 1 → l.d = 1) (hlt : lastOf l < t.s) (bl : Bd M l) (bt : Bd M t) :
    ∀ u, u ∈ joinS l t → (u.c ≠ none → Bd M u) ∧ (u.c = none → Bd (2 * M) u) := by
  have ll : 0 ≤ lastOf l := by
    cases hc : l.c with
    | none => exact absurd hc hl
    | some c => have := ol.sle hc; have := ol.s0; omega
  have b1 := bl.d
  have b2 := bl.s
  have b3 := bt.d
  have b4 := bt.s
  have gen : ∀ u, u ∈ joinS l t → u.c = none → Bd (2 * M) u := fun u hu hc => by
    obtain ⟨e1, e2⟩ := joinS_ds l t u hu
    exact ⟨by omega, by omega, fun q => absurd hc q⟩
  intro u hu
  refine ⟨fun hn => ?_, gen u hu⟩
  obtain ⟨c, hc⟩ : ∃ c, u.c = some c := by
    cases hc : u.c with
    | none => exact absurd hc hn
    | some c => exact ⟨c, rfl⟩
  rcases joinS_spec ol ot hl h1 hlt with ⟨x, e, ox, x1, xs, xn, xl, xm⟩ | ⟨x, y, e, ox, ⟨m, hm, m2⟩, xs, hlt2, hne, oy, y1, yn, yl, xm, xle⟩
  · rw [e] at hu
    have eu := List.mem_singleton.mp hu
    subst eu
    have tn : t.c ≠ none := fun q => hn (xn.mpr q)
    exact Bd.fin ox hc (fun q => x1 (by rw [hc, q])) (by rw [xl tn]; exact bt.l tn) m1
  · rw [e] at hu
    rcases List.mem_cons.mp hu with eu | hu
    · subst eu
      rw [hm] at hc
      cases hc
      exact Bd.fin ox hm (fun q => by omega) (by omega) m1
    · have eu := List.mem_singleton.mp hu
      subst eu
      have tn : t.c ≠ none := fun q => hn (yn.mpr q)
      exact Bd.fin oy hc (fun q => y1 (by rw [hc, q])) (by rw [yl tn]; exact bt.l tn) m1
theorem aj_bd {M : Int} (m1 : 1 ≤ M) : ∀ (ts : List Tr) (l : Tr), OkT l → (l.c = some 1 → l.d = 1) → (ts ≠ [] → l.c ≠ none) → Ord ts → (∀ t r, ts = t :: r → lastOf l < t.s) → BdL M ts → (l.c ≠ none → Bd M l) → (l.c = none → Bd (2 * M) l) → BdL (2 * M) (aj l ts)
  | [], l, _, _, _, _, _, _, b1, b2 => fun u hu => by
    have hu : u ∈ [l] := hu
    rw [List.mem_singleton.mp hu]
    by_cases q : l.c = none
    · exact b2 q
    · exact (b1 q).mono (by omega)
  | t :: r, l, ol, l1, ln, ho, hb, bt, b1, b2 => by
    have lt := hb t r rfl
    have ot := ho.ok
    have lnn := ln (by simp)
    have jb := joinS_bd m1 ol ot lnn l1 lt (b1 lnn) (bt t List.mem_cons_self)
    have nx : ∀ {y : Tr}, (y.c = none ↔ t.c = none) → (t.c ≠ none → lastOf y = lastOf t) → (r ≠ [] → y.c ≠ none) ∧ (∀ u q, r = u :: q → lastOf y < u.s) := by
      intro y yn yl
      have tn : r ≠ [] → t.c ≠ none := fun hr => by
        cases r with
        | nil => exact absurd rfl hr
        | cons b q => exact ho.2.1
      refine ⟨fun hr q => tn hr (yn.mp q), fun u q e => ?_⟩
      subst e
      rw [yl (tn (by simp))]
      exact ho.2.2.1
    rcases joinS_spec ol ot lnn l1 lt with ⟨x, e, ox, x1, xs, xn, xl, xm⟩ | ⟨x, y, e, ox, ⟨m, hm, m2⟩, xs, hlt, hne, oy, y1, yn, yl, xm, _⟩
    · have ee : aj l (t :: r) = aj x r := by
        show (match joinS l t with | [x] => aj x r | x :: y :: _ => x :: aj y r | [] => []) = aj x r
        rw [e]
      rw [ee]
      obtain ⟨h1, h2⟩ := nx xn xl
      obtain ⟨k1, k2⟩ := jb x (by rw [e]; simp)
      exact aj_bd m1 r x ox x1 h1 ho.tail h2 (fun u hu => bt u (List.mem_cons_of_mem _ hu)) k1 k2
    · have ee : aj l (t :: r) = x :: aj y r := by
        show (match joinS l t with | [x] => aj x r | x :: y :: _ => x :: aj y r | [] => []) = x :: aj y r
        rw [e]
      rw [ee]
      obtain ⟨h1, h2⟩ := nx yn yl
      obtain ⟨k1, k2⟩ := jb y (by rw [e]; simp)
      have ih := aj_bd m1 r y oy y1 h1 ho.tail h2 (fun u hu => bt u (List.mem_cons_of_mem _ hu)) k1 k2
      intro u hu
      rcases List.mem_cons.mp hu with eu | hu
      · subst eu
        exact ((jb u (by rw [e]; simp)).1 (by rw [hm]; simp)).mono (by omega)
      · exact ih u hu
theorem allJ_bd {M : Int} {ts : List Tr} (m1 : 1 ≤ M) (o : Ord ts) (b : BdL M ts) : BdL (2 * M) (allJ ts) := by
  cases ts with
  | nil => intro u hu; simp [allJ_nil] at hu
  | cons t r =>
    rw [allJ_cons]
    have bt := b t List.mem_cons_self
    have bn : Bd M (nrm1 t) := ⟨by
      show (if t.c = some 1 then (1 : Int) else t.d) ≤ M
      have := bt.d
      split <;> omega, bt.s, fun q => by rw [nrm1_last]; exact bt.l q⟩
    refine aj_bd m1 r (nrm1 t) (nrm1_ok o.ok) nrm1_one (fun hr => ?_) o.tail (fun u q e => ?_) (fun u hu => b u (List.mem_cons_of_mem _ hu)) (fun _ => bn) (fun _ => bn.mono (by omega))
    · cases r with
      | nil => exact absurd rfl hr
      | cons b q => exact o.2.1
    · subst e
      rw [nrm1_last]
      exact o.2.2.1
/-- finite alone -/
theorem allJ_bdF {M : Int} {ts : List Tr} (m1 : 1 ≤ M) (o : Ord ts) (f : Fin ts) (b : BdL M ts) : BdL M (allJ ts) := by
  have nf := allJ_nf o
  have ff := fin_congr nf.ord o (fun x => (allJ_mem o x).mp) f
  intro u hu
  have ou := nf.ord.all u hu
  obtain ⟨c, hc⟩ : ∃ c, u.c = some c := by
    cases hc : u.c with
    | none => exact absurd hc (ff u hu)
    | some c => exact ⟨c, rfl⟩
  have one : ∀ {l : List Tr}, NF l → u ∈ l → c = 1 → u.d = 1 := by
    intro l
    induction l with
    | nil => intro _ h; simp at h
    | cons a r ih =>
      intro hn h e
      rcases List.mem_cons.mp h with q | h
      · subst q
        exact (hn.one (by rw [hc, e])).2
      · exact ih hn.tail h e
  have hl : lastOf u ≤ M := by
    obtain ⟨t, ht, hm⟩ := (allJ_mem o (lastOf u)).mp ⟨u, hu, Mem.last ou hc⟩
    cases hct : t.c with
    | none => exact absurd hct (f t ht)
    | some c' =>
      have := hm.le (o.all t ht) hct
      have := (b t ht).l (by rw [hct]; simp)
      omega
  exact Bd.fin ou hc (one nf hu) hl m1
theorem slO_bd {t : Tr} {M L low : Int} {high : Option Int} (o : OkT t) (b : Bd M t) (l0 : 0 ≤ low) (hl : low ≤ L) (hh : ∀ h, high = some h → h ≤ L) : BdL (M + L * M) (slO t low high) := by
  have d1 := o.d1
  have b1 := b.d
  have m0 : 0 ≤ M := by omega
  have lm : ∀ k, 0 ≤ k → k ≤ L → k * t.d ≤ L * M := fun k k0 k1 => by
    have := mul_mono k1 (show 0 ≤ t.d by omega)
    have := Int.mul_le_mul_of_nonneg_left b1 (show 0 ≤ L by omega)
    omega
  have L0 : 0 ≤ L * M := Int.mul_nonneg (by omega) m0
  intro u hu
  rcases slO_spec o (low := low) (high := high) l0 with ⟨e, _⟩ | ⟨u', e, s, es, ed, hm, hn⟩
  · rw [e] at hu; simp at hu
  · rw [e] at hu
    have eu := List.mem_singleton.mp hu
    subst eu
    have := lm low l0 hl
    have := b.s
    refine ⟨by omega, by omega, fun hc => ?_⟩
    obtain ⟨c, hc⟩ : ∃ c, u.c = some c := by
      cases hc' : u.c with
      | none => exact absurd hc' hc
      | some c => exact ⟨c, rfl⟩
    obtain ⟨k, k0, e1, h1, h2⟩ := (hm (lastOf u)).mp (Mem.last s.ok hc)
    cases htc : t.c with
    | some c' =>
      have := (s.le c' htc).2
      have := b.l (by rw [htc]; simp)
      omega
    | none =>
      cases hh' : high with
      | none =>
        -- then u would be endless
        exfalso
        have hm2 := (hm (t.s + (k + 1) * t.d)).mpr ⟨k + 1, by omega, rfl, (fun c q => by rw [htc] at q; cases q), (fun h q => by rw [hh'] at q; cases q)⟩
        have := hm2.le s.ok hc
        rw [Int.add_mul] at this
        omega
      | some h =>
        have q1 := h2 h hh'
        have q2 := hh h hh'
        have := lm k (by omega) (by omega)
        omega
theorem winL_bd {ts : List Tr} {M after : Int} (o : Ord ts) (b : BdL M ts) (ha : after ≤ M) : BdL M (winL ts after) := by
  intro u hu
  obtain ⟨t, ht, hu⟩ := List.mem_flatMap.mp hu
  have ot := o.all t ht
  have bt := b t ht
  have b0 : befI t 0 = 0 := befI_ahead ot.s0
  rcases slO_spec ot (low := befI t 0) (high := some (befI t after)) (by rw [b0]; exact Int.le_refl _) with ⟨e, _⟩ | ⟨u', e, s, es, ed, hm, hn⟩
  · rw [e] at hu; simp at hu
  · rw [e] at hu
    have eu := List.mem_singleton.mp hu
    subst eu
    rw [b0] at es
    have := bt.d
    have := bt.s
    refine ⟨by omega, by omega, fun hc => ?_⟩
    obtain ⟨c, hc⟩ : ∃ c, u.c = some c := by
      cases hc' : u.c with
      | none => exact absurd hc' hc
      | some c => exact ⟨c, rfl⟩
    obtain ⟨k, k0, e1, h1, h2⟩ := (hm (lastOf u)).mp (Mem.last s.ok hc)
    have := (befI_lt ot (by omega) h1).mpr (h2 _ rfl)
    omega
theorem winM_bd {ts : List Tr} {M after : Int} (m1 : 1 ≤ M) (o : Ord ts) (b : BdL M ts) (ha : after ≤ M) : BdL M (winM ts after) := by
  obtain ⟨h1, h2, _⟩ := winL_spec o after
  exact allJ_bdF m1 (h1.ord o) h2 (winL_bd o b ha)
theorem spl_bd {M L : Int} : ∀ {ts : List Tr} {left : Int}, Ord ts → BdL M ts → 0 ≤ left → left ≤ L → BdL (M + L * M) (splL ts left) ∧ BdL (M + L * M) (splR ts left)
  | [], _, _, _, _, _ => ⟨fun u hu => by simp [splL] at hu, fun u hu => by simp [splR] at hu⟩
  | t :: r, left, o, b, l0, l1 => by
    have ih := spl_bd (M := M) (L := L) (ts := r) (left := nl t left) o.tail (fun u hu => b u (List.mem_cons_of_mem _ hu)) (nl_nn t left) (by
      unfold nl
      split
      · omega
      · rename_i c hc
        have := o.ok.c1 c hc
        split <;> omega)
    have bt := b t List.mem_cons_self
    refine ⟨fun u hu => ?_, fun u hu => ?_⟩
    · have hu : u ∈ (if 0 < left then slO t 0 (some left) else []) ++ splL r (nl t left) := hu
      rcases List.mem_append.mp hu with hu | hu
      · split at hu
        · exact slO_bd o.ok bt (Int.le_refl _) (by omega) (fun h e => by cases e; exact l1) u hu
        · simp at hu
      · exact ih.1 u hu
    · have hu : u ∈ slO t left none ++ splR r (nl t left) := hu
      rcases List.mem_append.mp hu with hu | hu
      · exact slO_bd o.ok bt l0 l1 (fun h e => by cases e) u hu
      · exact ih.2 u hu
theorem thT_bd {t : Tr} {M w since : Int} (o : OkT t) (b : Bd M t) (w1 : 1 ≤ w) (hw : w ≤ M) (hs : since ≤ M) (h : ∀ c, t.c = some c → lowOf t w since < c) : Bd (3 * M) (thT t w since) := by
  have d1 := o.d1
  have b1 := b.d
  have b2 := b.s
  obtain ⟨s, _, _, hn⟩ := thT_sub o w1 since h
  refine ⟨?_, ?_, fun q => ?_⟩
  · show t.d * strOf t w ≤ 3 * M
    have := strOf_le o w
    rw [Int.mul_comm]
    omega
  · show t.s + lowOf t w since * t.d ≤ 3 * M
    rcases lowOf_le o w since with z | z
    · omega
    · rw [z]; omega
  · have tn : t.c ≠ none := fun z => q (hn.mpr z)
    have := b.l tn
    cases hc : t.c with
    | none => exact absurd hc tn
    | some c =>
      have := (s.le c hc).2
      omega
theorem thin_bd {M w : Int} (w1 : 1 ≤ w) (hw : w ≤ M) : ∀ {ts : List Tr} {since : Int}, Ord ts → BdL M ts → since ≤ M → BdL (3 * M) (thinL ts w since)
  | [], since, _, _, _ => fun u hu => by simp [thinL] at hu
  | t :: r, since, o, b, hs => by
    have ot := o.ok
    have bt := b t List.mem_cons_self
    have br : BdL M r := fun u hu => b u (List.mem_cons_of_mem _ hu)
    cases hc : t.c with
    | none =>
      have eq : thinL (t :: r) w since = thT t w since :: thinL r w since := by
        show (match t.c with | none => thT t w since :: thinL r w since | some c => if lowOf t w since < c then thT t w since :: thinL r w (lastOf (thT t w since)) else thinL r w since) = _
        rw [hc]
      rw [eq]
      intro u hu
      rcases List.mem_cons.mp hu with e | hu
      · subst e
        exact thT_bd ot bt w1 hw hs (fun c q => by rw [hc] at q; cases q)
      · exact thin_bd w1 hw o.tail br hs u hu
    | some c =>
      have eq : thinL (t :: r) w since = if lowOf t w since < c then thT t w since :: thinL r w (lastOf (thT t w since)) else thinL r w since := by
        show (match t.c with | none => thT t w since :: thinL r w since | some c => if lowOf t w since < c then thT t w since :: thinL r w (lastOf (thT t w since)) else thinL r w since) = _
        rw [hc]
      rw [eq]
      by_cases hl : lowOf t w since < c
      · rw [if_pos hl]
        have hlow : ∀ c', t.c = some c' → lowOf t w since < c' := fun c' q => by rw [hc] at q; cases q; exact hl
        obtain ⟨s, _, _, hn⟩ := thT_sub ot w1 since hlow
        have := (s.le c hc).2
        have := bt.l (by rw [hc]; simp)
        intro u hu
        rcases List.mem_cons.mp hu with e | hu
        · subst e
          exact thT_bd ot bt w1 hw hs hlow
        · exact thin_bd w1 hw o.tail br (by omega) u hu
      · rw [if_neg hl]
        exact thin_bd w1 hw o.tail br hs

/-! ### what a breaker passes -/
def passedM (coming : List Tr) (left w : Int) : List Tr :=
  allJ (allJ (splL coming left) ++ allJ (thinL (allJ (splR coming left)) w ((nthT coming (left - 1)).getD 0)))
theorem ord_append : ∀ {a b : List Tr}, Ord a → Ord b → Fin a → (∀ t, t ∈ a → ∀ u, u ∈ b → lastOf t < u.s) → Ord (a ++ b)
  | [], b, _, hb, _, _ => hb
  | [t], [], ha, _, _, _ => ha
  | [t], u :: r, ha, hb, f, h => ⟨ha, f t List.mem_cons_self, h t List.mem_cons_self u List.mem_cons_self, hb⟩
  | t :: t' :: q, b, ha, hb, f, h => ⟨ha.1, ha.2.1, ha.2.2.1, ord_append (a := t' :: q) ha.2.2.2 hb (fun u hu => f u (List.mem_cons_of_mem _ hu)) fun u hu => h u (List.mem_cons_of_mem _ hu)⟩
theorem inf_append : ∀ {a b : List Tr}, Inf b → Inf (a ++ b)
  | [], b, h => h
  | [t], [], h => h.elim
  | [t], u :: r, h => h
  | t :: t' :: q, b, h => inf_append (a := t' :: q) h
structure PassFacts (coming : List Tr) (left w : Int) : Prop where
  oneO : Ord (splL coming left)
  othO : Ord (splR coming left)
  thO : Ord (thinL (allJ (splR coming left)) w ((nthT coming (left - 1)).getD 0))
  time : ∃ time, nthT coming (left - 1) = some time ∧ 0 ≤ time
  joinO : Ord (allJ (splL coming left) ++ allJ (thinL (allJ (splR coming left)) w ((nthT coming (left - 1)).getD 0)))
  nf : NF (passedM coming left w)
  inf : Inf (passedM coming left w)
  sub : ∀ x, MemL (passedM coming left w) x → MemL coming x
  has : ∀ x, MemL coming x → cntB coming x < left → MemL (passedM coming left w) x
  len : (passedM coming left w).length ≤ 2 * coming.length
theorem passed_facts {coming : List Tr} {left w : Int} (n : NF coming) (i : Inf coming) (l1 : 1 ≤ left) (w1 : 1 ≤ w) : PassFacts coming left w := by
  have o := n.ord
  obtain ⟨⟨a1, a2, a3⟩, b1, b2⟩ := spl_spec (ts := coming) (left := left) o (by omega)
  have oneO := a1.ord o
  have othO := b1.ord o
  have oneN := allJ_nf oneO
  have othN := allJ_nf othO
  obtain ⟨time, ht⟩ := i.nth (left - 1)
  obtain ⟨t1, t2⟩ := nthT_spec o (by omega) ht
  have tg : (nthT coming (left - 1)).getD 0 = time := by rw [ht]; rfl
  have t0 : 0 ≤ time := by
    obtain ⟨u, hu, hm⟩ := t1
    have := hm.ge (o.all u hu)
    have := (o.all u hu).s0
    omega
  obtain ⟨c1, c2, c3, c4⟩ := thin_spec (ts := allJ (splR coming left)) (w := w) (since := time) othN.ord w1
  have thO := c1.ord othN.ord
  have othI : Inf (splR coming left) := by
    rcases inf_or_fin othO with q | q
    · exact q
    · obtain ⟨y, hy, hl⟩ := i.far o (maxL (splR coming left) + time + 1)
      have nm := q.near othO
      by_cases z : cntB coming y < left
      · have := (lt_iff_cnt o (x := time) (y := y) t1).mp
        rcases Int.lt_or_le time y with zz | zz
        · have := this zz
          omega
        · -- then y ≤ time
          exfalso
          have mx : 0 ≤ maxL (splR coming left) ∨ splR coming left = [] := by
            cases e : splR coming left with
            | nil => exact .inr rfl
            | cons a r =>
              refine .inl ?_
              have := nm a.s (by rw [e]; exact memL_cons.mpr (.inl (Mem.first (by rw [e] at othO; exact othO.ok))))
              have := (show OkT a by rw [e] at othO; exact othO.ok).s0
              rw [e] at *
              omega
          rcases mx with mx | mx
          · omega
          · rw [mx] at hl
            have : maxL [] = 0 := rfl
            omega
      · have := nm y ((b2 y).mpr ⟨hy, by omega⟩)
        have mt : 0 ≤ time := t0
        omega
  have joinO : Ord (allJ (splL coming left) ++ allJ (thinL (allJ (splR coming left)) w time)) := by
    refine ord_append oneN.ord (allJ_nf thO).ord (fin_congr oneN.ord oneO (fun x => (allJ_mem oneO x).mp) a2) fun t ht' u hu => ?_
    have ff := fin_congr oneN.ord oneO (fun x => (allJ_mem oneO x).mp) a2
    have ot := oneN.ord.all t ht'
    cases hc : t.c with
    | none => exact absurd hc (ff t ht')
    | some c =>
      obtain ⟨q1, q2⟩ := (a3 _).mp ((allJ_mem oneO _).mp ⟨t, ht', Mem.last ot hc⟩)
      have h1 : lastOf t ≤ time := by
        rcases Int.lt_or_le time (lastOf t) with z | z
        · have := (lt_iff_cnt o t1).mp z
          omega
        · exact z
      have ou := (allJ_nf thO).ord.all u hu
      obtain ⟨v, hv, hm⟩ := (allJ_mem thO u.s).mp ⟨u, hu, Mem.first ou⟩
      have := c3 v hv
      have := hm.ge (thO.all v hv)
      omega
  have jm : ∀ x, MemL (allJ (allJ (splL coming left) ++ allJ (thinL (allJ (splR coming left)) w time))) x ↔ MemL (splL coming left) x ∨ MemL (thinL (allJ (splR coming left)) w time) x := fun x => by
    rw [allJ_mem joinO, memL_append, allJ_mem oneO, allJ_mem thO]
  have e : passedM coming left w = allJ (allJ (splL coming left) ++ allJ (thinL (allJ (splR coming left)) w time)) := by
    unfold passedM
    rw [tg]
  refine ⟨oneO, othO, by rw [tg]; exact thO, ⟨time, ht, t0⟩, by rw [tg]; exact joinO, by rw [e]; exact allJ_nf joinO, ?_, fun x hx => ?_, fun x hx hl => ?_, ?_⟩
  · rw [e]
    refine inf_congr (allJ_nf joinO).ord joinO (allJ_mem joinO) (inf_append ?_)
    exact inf_congr (allJ_nf thO).ord thO (allJ_mem thO) (c4 (inf_congr othN.ord othO (allJ_mem othO) othI))
  · rw [e] at hx
    rcases (jm x).mp hx with q | q
    · exact ((a3 x).mp q).1
    · exact ((b2 x).mp ((allJ_mem othO x).mp (c2 x q))).1
  · rw [e]
    exact (jm x).mpr (.inl ((a3 x).mpr ⟨hx, hl⟩))
  · rw [e]
    have l1 := allJ_len joinO
    rw [List.length_append] at l1
    have l2 := allJ_len oneO
    have l3 := a1.len
    have l4 := allJ_len thO
    have l5 := c1.len
    have l6 := allJ_len othO
    have l7 := b1.len
    omega
theorem passed_bd {coming : List Tr} {left w M L : Int} (n : NF coming) (i : Inf coming) (l1 : 1 ≤ left) (hl : left ≤ L) (w1 : 1 ≤ w) (hw : w ≤ M) (b : BdL M coming) :
    BdL (24 * (M + L * M)) (passedM coming left w) ∧ (nthT coming (left - 1)).getD 0 ≤ 2 * (M + L * M) ∧ BdL (M + L * M) (splL coming left) ∧ BdL (M + L * M) (splR coming left) ∧ BdL (2 * (M + L * M)) (allJ (splL coming left)) ∧
      BdL (2 * (M + L * M)) (allJ (splR coming left)) ∧ BdL (6 * (M + L * M)) (thinL (allJ (splR coming left)) w ((nthT coming (left - 1)).getD 0)) ∧ BdL (12 * (M + L * M)) (allJ (thinL (allJ (splR coming left)) w ((nthT coming (left - 1)).getD 0))) := by
  have F := passed_facts n i l1 w1
  have o := n.ord
  have m1 : 1 ≤ M := by omega
  have lm : 0 ≤ L * M := Int.mul_nonneg (by omega) (by omega)
  obtain ⟨k1, k2⟩ := spl_bd (M := M) (L := L) (ts := coming) (left := left) o b (by omega) hl
  have k3 := allJ_bd (show 1 ≤ M + L * M by omega) F.oneO k1
  have k4 := allJ_bd (show 1 ≤ M + L * M by omega) F.othO k2
  obtain ⟨time, ht, t0⟩ := F.time
  have tg : (nthT coming (left - 1)).getD 0 = time := by rw [ht]; rfl
  have tl : time ≤ 2 * (M + L * M) := by
    obtain ⟨t1, t2⟩ := nthT_spec o (by omega) ht
    obtain ⟨⟨a1, a2, a3⟩, _⟩ := spl_spec (ts := coming) (left := left) o (by omega)
    obtain ⟨u, hu, hm⟩ := (a3 time).mpr ⟨t1, by omega⟩
    cases hc : u.c with
    | none => exact absurd hc (a2 u hu)
    | some c =>
      have := hm.le (F.oneO.all u hu) hc
      have := (k1 u hu).l (by rw [hc]; simp)
      omega
  have k5 := thin_bd (M := 2 * (M + L * M)) w1 (by omega) (allJ_nf F.othO).ord k4 (since := time) tl
  have k5' : BdL (6 * (M + L * M)) (thinL (allJ (splR coming left)) w time) := k5.mono (by omega)
  have thO := F.thO
  rw [tg] at thO
  have k6 := allJ_bd (show 1 ≤ 6 * (M + L * M) by omega) thO k5'
  have k6' : BdL (12 * (M + L * M)) (allJ (thinL (allJ (splR coming left)) w time)) := k6.mono (by omega)
  have jo := F.joinO
  rw [tg] at jo ⊢
  refine ⟨?_, tl, k1, k2, k3, k4, k5', k6'⟩
  have := allJ_bd (M := 12 * (M + L * M)) (by omega) jo fun u hu => by
    rcases List.mem_append.mp hu with hu | hu
    · exact (k3 u hu).mono (by omega)
    · exact k6' u hu
  unfold passedM
  rw [tg]
  exact this.mono (by omega)
end Br

namespace Br
/-! ### rows -/
abbrev Spec := Int × Int × Int
structure RowM where
  specs : List Spec
  pace : Int
  shift : Int
structure RowOk (r : RowM) : Prop where
  len : r.specs.length ≤ 5
  sp : ∀ p, p ∈ r.specs → (1 ≤ p.1 ∧ p.1 ≤ 1000000000000) ∧ (1 ≤ p.2.1 ∧ p.2.1 ≤ 1000000000000000000000000) ∧ (1 ≤ p.2.2 ∧ p.2.2 ≤ 1000000000000)
  p1 : 1 ≤ r.pace
  p2 : r.pace ≤ 10000000000
  s1 : 0 ≤ r.shift
  s2 : r.shift ≤ 100000000000000000000
def rup (v u : Int) : Int := (v + u - 1) / u * u
def firR (r : RowM) (t : Int) : Int := if rup (t - r.shift) r.pace / r.pace > 0 then rup (t - r.shift) r.pace / r.pace else 0
def reqM (r : RowM) (n : Int) : Int := r.shift + n * r.pace
def fstM (r : RowM) (t : Int) : Int := reqM r (firR r t)
def InD (r : RowM) (x : Int) : Prop := ∃ n : Int, 0 ≤ n ∧ x = r.shift + n * r.pace
theorem rup_div {r : RowM} (ok : RowOk r) (v : Int) : rup v r.pace / r.pace = (v + r.pace - 1) / r.pace := by
  unfold rup
  exact Int.mul_ediv_cancel _ (by have := ok.p1; omega)
theorem firR_nn (r : RowM) (t : Int) : 0 ≤ firR r t := by
  unfold firR
  split <;> omega
theorem fstM_in (r : RowM) (t : Int) : InD r (fstM r t) := ⟨firR r t, firR_nn r t, rfl⟩
theorem fstM_ge {r : RowM} (ok : RowOk r) (t : Int) : t ≤ fstM r t := by
  have p1 := ok.p1
  unfold fstM reqM firR
  rw [rup_div ok]
  split
  · have e := ceil_lt (a := t - r.shift) (d := r.pace) (k := (t - r.shift + r.pace - 1) / r.pace) p1
    rcases Int.lt_or_le ((t - r.shift + r.pace - 1) / r.pace * r.pace) (t - r.shift) with z | z
    · have := e.mpr z; omega
    · omega
  · rename_i h
    have e := ceil_lt (a := t - r.shift) (d := r.pace) (k := 0) p1
    rcases Int.lt_or_le (0 * r.pace) (t - r.shift) with z | z
    · have := e.mpr z; omega
    · omega
theorem fstM_le {r : RowM} (ok : RowOk r) {t x : Int} (h : InD r x) (hx : t ≤ x) : fstM r t ≤ x := by
  have p1 := ok.p1
  obtain ⟨n, n0, rfl⟩ := h
  unfold fstM reqM firR
  rw [rup_div ok]
  split
  · have e := ceil_lt (a := t - r.shift) (d := r.pace) (k := n) p1
    rcases Int.lt_or_le n ((t - r.shift + r.pace - 1) / r.pace) with z | z
    · have := e.mp z; omega
    · have := mul_mono z (show 0 ≤ r.pace by omega)
      omega
  · have := Int.mul_nonneg n0 (show 0 ≤ r.pace by omega)
    omega
theorem fstM_self {r : RowM} (ok : RowOk r) {x : Int} (h : InD r x) : fstM r x = x := by
  have := fstM_ge ok x
  have := fstM_le ok h (Int.le_refl x)
  omega
theorem fstM_nn {r : RowM} (ok : RowOk r) (t : Int) : 0 ≤ fstM r t := by
  have := Int.mul_nonneg (firR_nn r t) (show 0 ≤ r.pace by have := ok.p1; omega)
  have := ok.s1
  unfold fstM reqM
  omega
theorem fstM_up {r : RowM} (ok : RowOk r) (t : Int) (t0 : 0 ≤ t) : fstM r t ≤ t + r.shift + r.pace := by
  have p1 := ok.p1
  have s1 := ok.s1
  unfold fstM reqM firR
  rw [rup_div ok]
  split
  · have := Int.ediv_mul_le (t - r.shift + r.pace - 1) (b := r.pace) (by omega)
    omega
  · omega

/-! ### the trains of a spell -/
def leftM (sp : Spec) (st : Option Int) : Int := if st = none then sp.1 else 1
def chainM : List Tr → List (Spec × Option Int) → List (List Tr)
  | tr, [] => [tr]
  | tr, p :: r => tr :: chainM (passedM tr (leftM p.1 p.2) p.1.2.1) r
structure SpM where
  first : Int
  rcv : Int
  st : List (Option Int)
  trs : List (List Tr)
def newSp (r : RowM) (first : Int) (st : List (Option Int)) : SpM := ⟨first, first, st, chainM [⟨first, r.pace, none⟩] (r.specs.zip st)⟩
def SpM.tl (sp : SpM) : List Tr := sp.trs.getLast?.getD []
/-- what holds of what comes to a breaker: f is its first time -/
structure TrOk (f M : Int) (n : Nat) (x : List Tr) : Prop where
  nf : NF x
  inf : Inf x
  mem : MemL x f
  min : ∀ z, MemL x z → f ≤ z
  bd : BdL M x
  len : x.length ≤ n
def GG : Int := 24 * 1000000000001
structure SpecOk (p : Spec × Option Int) : Prop where
  l1 : 1 ≤ leftM p.1 p.2
  l2 : leftM p.1 p.2 ≤ 1000000000000
  w1 : 1 ≤ p.1.2.1
  w2 : p.1.2.1 ≤ 1000000000000000000000000
theorem pass_ok {f M : Int} {n : Nat} {x : List Tr} {p : Spec × Option Int} (h : TrOk f M n x) (s : SpecOk p) (hM : 1000000000000000000000000 ≤ M) : TrOk f (GG * M) (2 * n) (passedM x (leftM p.1 p.2) p.1.2.1) := by
  have F := passed_facts h.nf h.inf s.l1 s.w1
  have B := (passed_bd (M := M) h.nf h.inf s.l1 s.l2 s.w1 (by have := s.w2; omega) h.bd).1
  have c0 : cntB x f = 0 := by
    have o := h.nf.ord
    have nn := cntB_nn o f
    rcases Int.lt_or_le 0 (cntB x f) with z | z
    · obtain ⟨y, hy⟩ := h.inf.nth 0
      obtain ⟨h1, h2⟩ := nthT_spec o (Int.le_refl _) hy
      have := (lt_iff_cnt o (y := f) h1).mpr (by omega)
      have := h.min y h1
      omega
    · omega
  refine ⟨F.nf, F.inf, F.has f h.mem (by have := s.l1; omega), fun z hz => h.min z (F.sub z hz), B.mono ?_, by have := F.len; have := h.len; omega⟩
  unfold GG
  omega
theorem GG_pos : 1 ≤ GG := by unfold GG; omega
theorem GGM {M : Int} (h : 1000000000000000000000000 ≤ M) : 1000000000000000000000000 ≤ GG * M := by
  unfold GG
  omega
theorem chain_ok {f : Int} : ∀ (l : List (Spec × Option Int)) (tr : List Tr) (M : Int) (n : Nat), TrOk f M n tr → 1000000000000000000000000 ≤ M → (∀ p, p ∈ l → SpecOk p) →
    (chainM tr l).length = l.length + 1 ∧
    (∀ (i : Nat) x, (chainM tr l)[i]? = some x → TrOk f (GG ^ i * M) (2 ^ i * n) x ∧ ∀ z, MemL x z → MemL tr z) ∧
    (∀ (i : Nat) x y, (chainM tr l)[i]? = some x → (chainM tr l)[i + 1]? = some y → ∃ p, l[i]? = some p ∧ y = passedM x (leftM p.1 p.2) p.1.2.1 ∧ ∀ z, MemL y z → MemL x z)
  | [], tr, M, n, h, _, _ => by
    refine ⟨rfl, fun i x e => ?_, fun i x y _ e => ?_⟩
    · cases i with
      | zero =>
        have e : some tr = some x := e
        cases e
        exact ⟨by simpa using h, fun z hz => hz⟩
      | succ i => simp [chainM] at e
    · simp [chainM] at e
  | p :: r, tr, M, n, h, hM, hs => by
    have sp := hs p List.mem_cons_self
    have hp := pass_ok h sp hM
    obtain ⟨i1, i2, i3⟩ := chain_ok r (passedM tr (leftM p.1 p.2) p.1.2.1) (GG * M) (2 * n) hp (GGM hM) fun q hq => hs q (List.mem_cons_of_mem _ hq)
    have F := passed_facts h.nf h.inf sp.l1 sp.w1
    refine ⟨by show (chainM _ r).length + 1 = r.length + 1 + 1; rw [i1], fun i x e => ?_, fun i x y e1 e2 => ?_⟩
    · cases i with
      | zero =>
        have e : some tr = some x := e
        cases e
        exact ⟨by simpa using h, fun z hz => hz⟩
      | succ i =>
        have e : (chainM (passedM tr (leftM p.1 p.2) p.1.2.1) r)[i]? = some x := by simpa [chainM] using e
        obtain ⟨a, b⟩ := i2 i x e
        refine ⟨?_, fun z hz => F.sub z (b z hz)⟩
        rw [Int.pow_succ, Nat.pow_succ, Int.mul_assoc, Nat.mul_assoc]
        exact a
    · cases i with
      | zero =>
        have e1 : some tr = some x := e1
        cases e1
        have e2 : (chainM (passedM tr (leftM p.1 p.2) p.1.2.1) r)[0]? = some y := by simpa [chainM] using e2
        have e3 : y = passedM tr (leftM p.1 p.2) p.1.2.1 := by
          cases r with
          | nil => exact (Option.some.inj e2).symm
          | cons q r => exact (Option.some.inj e2).symm
        exact ⟨p, rfl, e3, fun z hz => by rw [e3] at hz; exact F.sub z hz⟩
      | succ i =>
        have e1 : (chainM (passedM tr (leftM p.1 p.2) p.1.2.1) r)[i]? = some x := by simpa [chainM] using e1
        have e2 : (chainM (passedM tr (leftM p.1 p.2) p.1.2.1) r)[i + 1]? = some y := by simpa [chainM] using e2
        obtain ⟨q, h1, h2, h3⟩ := i3 i x y e1 e2
        exact ⟨q, by simpa using h1, h2, h3⟩
/-- the great bound -/
def BB : Int := 2 ^ 400
def M0 : Int := 10000000000000000000000000000000
theorem GG_BB : ∀ i : Nat, i ≤ 5 → GG ^ i * M0 ≤ BB := by decide +kernel
theorem pow_32 : ∀ i : Nat, i ≤ 5 → 2 ^ i ≤ 32 := by decide
structure SpOk (r : RowM) (sp : SpM) : Prop where
  len : sp.st.length = r.specs.length
  trs : sp.trs = chainM [⟨sp.first, r.pace, none⟩] (r.specs.zip sp.st)
  f0 : 0 ≤ sp.first
  fin : InD r sp.first
  fb : sp.first ≤ 2000000000000000000000000000000
theorem first_ok {r : RowM} (ok : RowOk r) {f : Int} (f0 : 0 ≤ f) (fb : f ≤ 2000000000000000000000000000000) : TrOk f M0 1 [⟨f, r.pace, none⟩] := by
  have p1 := ok.p1
  have p2 := ok.p2
  have o : OkT ⟨f, r.pace, none⟩ := ⟨f0, p1, fun c hc => by cases hc⟩
  refine ⟨⟨o, fun h => by cases h⟩, rfl, memL_cons.mpr (.inl (Mem.first o)), fun z hz => ?_, fun t ht => ?_, Nat.le_refl _⟩
  · rcases memL_cons.mp hz with h | h
    · exact h.ge o
    · exact (memL_nil.mp h).elim
  · rw [List.mem_singleton.mp ht]
    refine ⟨?_, ?_, fun q => absurd rfl q⟩
    · show r.pace ≤ M0
      unfold M0
      omega
    · show f ≤ M0
      unfold M0
      omega
theorem specs_ok {r : RowM} (ok : RowOk r) (st : List (Option Int)) : ∀ p, p ∈ r.specs.zip st → SpecOk p := fun p hp => by
  have h := ok.sp p.1 (List.of_mem_zip hp).1
  obtain ⟨⟨a1, a2⟩, ⟨b1, b2⟩, c1, c2⟩ := h
  refine ⟨?_, ?_, b1, b2⟩
  · unfold leftM
    split <;> omega
  · unfold leftM
    split <;> omega
/-- what holds of a spell's trains -/
structure TrsOk (r : RowM) (sp : SpM) : Prop where
  len : sp.trs.length = r.specs.length + 1
  ok : ∀ (i : Nat) x, sp.trs[i]? = some x → TrOk sp.first BB 32 x
  ind : ∀ (i : Nat) x, sp.trs[i]? = some x → ∀ z, MemL x z → InD r z
  nx : ∀ (i : Nat) x y, sp.trs[i]? = some x → sp.trs[i + 1]? = some y → ∀ z, MemL y z → MemL x z
  zero : sp.trs[0]? = some [⟨sp.first, r.pace, none⟩]
  tl : sp.trs[r.specs.length]? = some sp.tl
theorem SpOk.trsOk {r : RowM} {sp : SpM} (ok : RowOk r) (h : SpOk r sp) : TrsOk r sp := by
  have p1 := ok.p1
  obtain ⟨c1, c2, c3⟩ := chain_ok (r.specs.zip sp.st) _ M0 1 (first_ok ok h.f0 h.fb) (by unfold M0; omega) (specs_ok ok sp.st)
  rw [← h.trs] at c1 c2 c3
  have zl : (r.specs.zip sp.st).length = r.specs.length := by
    rw [List.length_zip, h.len]
    exact Nat.min_self _
  rw [zl] at c1
  have le : ∀ {i : Nat} {x}, sp.trs[i]? = some x → i ≤ 5 := fun {i x} e => by
    have := (List.getElem?_eq_some_iff.mp e).1
    have := ok.len
    omega
  have ok0 : ∀ (i : Nat) x, sp.trs[i]? = some x → TrOk sp.first BB 32 x := fun i x e => by
    obtain ⟨a, _⟩ := c2 i x e
    exact ⟨a.nf, a.inf, a.mem, a.min, a.bd.mono (GG_BB i (le e)), by have := a.len; have := pow_32 i (le e); omega⟩
  refine ⟨c1, ok0, fun i x e z hz => ?_, fun i x y e1 e2 => ?_, ?_, ?_⟩
  · have hz := (c2 i x e).2 z hz
    rcases memL_cons.mp hz with ⟨k, k0, e, _⟩ | q
    · obtain ⟨n, n0, e2⟩ := h.fin
      refine ⟨n + k, by omega, ?_⟩
      have e : z = sp.first + k * r.pace := e
      rw [e, e2, Int.add_mul]
      omega
    · exact (memL_nil.mp q).elim
  · obtain ⟨p, _, _, q⟩ := c3 i x y e1 e2
    exact q
  · rw [h.trs]
    cases e : r.specs.zip sp.st <;> rfl
  · unfold SpM.tl
    rw [List.getLast?_eq_getElem?, c1]
    have hl : r.specs.length + 1 - 1 = r.specs.length := by omega
    rw [hl]
    cases e : sp.trs[r.specs.length]? with
    | none =>
      have := List.getElem?_eq_none_iff.mp e
      omega
    | some x => rfl
theorem TrsOk.tlOk {r : RowM} {sp : SpM} (h : TrsOk r sp) : TrOk sp.first BB 32 sp.tl := h.ok _ _ h.tl

/-! ### spells -/
def openM (r : RowM) (sp : SpM) (i : Nat) : Option Int :=
  match r.specs[i]?, sp.st[i]?, sp.trs[i + 1]? with
  | some p, some st, some tr => match nthT tr (leftM p st - 1) with
    | some t => if t < sp.rcv then some t else none
    | none => none
  | _, _, _ => none
def stI (r : RowM) (sp : SpM) (time : Int) (i : Nat) : Option Int :=
  match openM r sp i, r.specs[i]? with
  | some _, some p => if (time - sp.rcv) / r.pace < p.2.2 then some ((time - sp.rcv) / r.pace) else none
  | _, _ => none
def statesM (r : RowM) (sp : SpM) (time : Int) : List (Option Int) := (List.range r.specs.length).map (stI r sp time)
def nextM (ts : List Tr) (x : Int) : Int := (nthT ts (cntB ts x)).getD 0
def stFrom (r : RowM) (known : List SpM) (first : Int) : List (Option Int) := match known.getLast? with
  | none => List.replicate r.specs.length none
  | some sp => statesM r sp first
def fromM (r : RowM) (known : List SpM) (time : Int) : SpM := newSp r (fstM r time) (stFrom r known (fstM r time))
def pushS (r : RowM) (found : List SpM) (o : Int × Int) : List SpM :=
  if fstM r o.1 < o.2 then found ++ [{ fromM r found o.1 with rcv := nextM (fromM r found o.1).tl o.2 }] else found
def absS (sp : SpM) (o : Int × Int) : SpM := { sp with rcv := nextM sp.tl (if o.2 > sp.rcv then o.2 else sp.rcv) }
def stepS (r : RowM) (found : List SpM) (o : Int × Int) : List SpM := match found.getLast? with
  | some sp => if o.1 ≤ sp.rcv then found.dropLast ++ [absS sp o] else pushS r found o
  | none => pushS r found o
def spellsM (r : RowM) (downs : List (Int × Int)) : List SpM := downs.foldl (stepS r) []
def Downs : Int → List (Int × Int) → Prop
  | _, [] => True
  | lo, o :: r => lo ≤ o.1 ∧ o.1 < o.2 ∧ o.2 ≤ 1000000000000000000000000000000 ∧ Downs (o.2 + 1) r
theorem next_of {f M : Int} {n : Nat} {ts : List Tr} (h : TrOk f M n ts) (x : Int) : nthT ts (cntB ts x) = some (nextM ts x) := by
  obtain ⟨y, hy⟩ := h.inf.nth (cntB ts x)
  unfold nextM
  rw [hy]
  rfl
theorem next_facts {f M : Int} {n : Nat} {ts : List Tr} (h : TrOk f M n ts) (x : Int) : MemL ts (nextM ts x) ∧ x ≤ nextM ts x ∧ ∀ z, MemL ts z → x ≤ z → nextM ts x ≤ z := next_spec h.nf.ord (next_of h x)
/-- the next time is not far -/
theorem inf_last : ∀ {ts : List Tr}, Ord ts → Inf ts → ∃ t, t ∈ ts ∧ t.c = none
  | [], _, h => h.elim
  | [t], _, h => ⟨t, List.mem_cons_self, h⟩
  | _ :: b :: r, o, h => by
    obtain ⟨t, ht, hc⟩ := inf_last (ts := b :: r) o.tail h
    exact ⟨t, List.mem_cons_of_mem _ ht, hc⟩
theorem next_le {f M : Int} {n : Nat} {ts : List Tr} (h : TrOk f M n ts) (x : Int) (x0 : 0 ≤ x) (m0 : 0 ≤ M) : nextM ts x ≤ x + 2 * M := by
  obtain ⟨t, ht, hc⟩ := inf_last h.nf.ord h.inf
  have o := h.nf.ord.all t ht
  have d1 := o.d1
  have b := h.bd t ht
  have b1 := b.d
  have b2 := b.s
  obtain ⟨_, _, q⟩ := next_facts h x
  by_cases hx : x ≤ t.s
  · have := q t.s ⟨t, ht, Mem.first o⟩ hx
    omega
  · have e := ceil_lt (a := x - t.s) (d := t.d) (k := (x - t.s + t.d - 1) / t.d) d1
    have := Int.ediv_mul_le (x - t.s + t.d - 1) (b := t.d) (by omega)
    have := q (t.s + (x - t.s + t.d - 1) / t.d * t.d) ⟨t, ht, (x - t.s + t.d - 1) / t.d, Int.ediv_nonneg (by omega) (by omega), rfl, fun c q => by rw [hc] at q; cases q⟩ (by
      rcases Int.lt_or_le ((x - t.s + t.d - 1) / t.d * t.d) (x - t.s) with z | z
      · have := e.mpr z; omega
      · omega)
    omega
structure SpF (r : RowM) (ds : List (Int × Int)) (sp : SpM) : Prop where
  ok : SpOk r sp
  mem : MemL sp.tl sp.rcv
  lt : sp.first < sp.rcv
  out : ∀ o, o ∈ ds → ¬ (o.1 ≤ sp.rcv ∧ sp.rcv < o.2)
  inn : ∀ x, MemL sp.tl x → x < sp.rcv → ∃ o, o ∈ ds ∧ o.1 ≤ x ∧ x < o.2
  rb : sp.rcv ≤ 4 * BB
structure SpsInv (r : RowM) (lo : Int) (ds : List (Int × Int)) (sps : List SpM) : Prop where
  ends : ∀ o, o ∈ ds → o.2 < lo
  sp : ∀ sp, sp ∈ sps → SpF r ds sp
  fst : ∀ a, sps[0]? = some a → a.st = List.replicate r.specs.length none
  lk : ∀ (i : Nat) a b, sps[i]? = some a → sps[i + 1]? = some b → a.rcv < b.first ∧ b.st = statesM r a b.first
  len : sps.length ≤ ds.length
theorem statesM_len (r : RowM) (sp : SpM) (t : Int) : (statesM r sp t).length = r.specs.length := by
  unfold statesM
  rw [List.length_map, List.length_range]
theorem stFrom_len (r : RowM) (known : List SpM) (t : Int) : (stFrom r known t).length = r.specs.length := by
  unfold stFrom
  split
  · rw [List.length_replicate]
  · exact statesM_len _ _ _
theorem BB_big : 4000000000000000000000000000000 ≤ BB := by decide +kernel
theorem fromM_ok {r : RowM} (ok : RowOk r) (known : List SpM) {t : Int} (t0 : 0 ≤ t) (tb : t ≤ 1000000000000000000000000000000) : SpOk r (fromM r known t) := by
  refine ⟨stFrom_len _ _ _, rfl, fstM_nn ok t, fstM_in r t, ?_⟩
  have := fstM_up ok t t0
  have := ok.s2
  have := ok.p2
  show fstM r t ≤ _
  omega
theorem okRec {r : RowM} {sp : SpM} (h : SpOk r sp) (x : Int) : SpOk r { sp with rcv := x } := ⟨h.len, h.trs, h.f0, h.fin, h.fb⟩
theorem getLast_idx {α : Type} {l : List α} {a : α} (h : l.getLast? = some a) : l ≠ [] ∧ l[l.length - 1]? = some a ∧ l = l.dropLast ++ [a] := by
  have hn : l ≠ [] := fun e => by subst e; cases h
  refine ⟨hn, by rw [← List.getLast?_eq_getElem?]; exact h, ?_⟩
  have e1 := List.dropLast_concat_getLast hn
  have e2 : l.getLast hn = a := by
    rw [List.getLast?_eq_some_getLast hn] at h
    exact Option.some.inj h
  rw [e2] at e1
  exact e1.symm
theorem push_inv {r : RowM} (ok : RowOk r) {lo : Int} {ds : List (Int × Int)} {sps : List SpM} {o : Int × Int} (lo0 : 0 ≤ lo) (I : SpsInv r lo ds sps) (h1 : lo ≤ o.1) (h2 : o.1 < o.2) (h3 : o.2 ≤ 1000000000000000000000000000000)
    (hl : ∀ sp, sps.getLast? = some sp → sp.rcv < o.1) : SpsInv r (o.2 + 1) (ds ++ [o]) (pushS r sps o) := by
  have E : ∀ o', o' ∈ ds ++ [o] → o'.2 < o.2 + 1 := fun o' ho => by
    rcases List.mem_append.mp ho with q | q
    · have := I.ends o' q; omega
    · rw [List.mem_singleton.mp q]; omega
  -- the elder spells lie ahead
  have recs : ∀ (sp : SpM), sp ∈ sps → sp.rcv < o.1 := by
    intro sp hsp
    obtain ⟨i, hi, e⟩ := List.mem_iff_getElem.mp hsp
    have key : ∀ (n i : Nat) a, sps.length - 1 - i = n → sps[i]? = some a → a.rcv < o.1 := by
      intro n
      induction n with
      | zero =>
        intro i a hn ha
        have hlt := (List.getElem?_eq_some_iff.mp ha).1
        have : i = sps.length - 1 := by omega
        subst this
        exact hl a (by rw [List.getLast?_eq_getElem?]; exact ha)
      | succ n ih =>
        intro i a hn ha
        have hlt : i + 1 < sps.length := by omega
        have hb : sps[i + 1]? = some sps[i + 1] := List.getElem?_eq_getElem hlt
        have h1 := ih (i + 1) _ (by omega) hb
        have h2 := (I.lk i a _ ha hb).1
        have h3 := (I.sp _ (List.mem_of_getElem? hb)).lt
        omega
    exact key _ i sp rfl (by rw [List.getElem?_eq_getElem hi, e])
  have old : ∀ sp, sp ∈ sps → SpF r (ds ++ [o]) sp := fun sp hsp => by
    have f := I.sp sp hsp
    refine ⟨f.ok, f.mem, f.lt, fun o' ho => ?_, fun x hx hlt => ?_, f.rb⟩
    · rcases List.mem_append.mp ho with q | q
      · exact f.out o' q
      · rw [List.mem_singleton.mp q]
        have := recs sp hsp
        omega
    · obtain ⟨o', q, z⟩ := f.inn x hx hlt
      exact ⟨o', List.mem_append_left _ q, z⟩
  unfold pushS
  by_cases hf : fstM r o.1 < o.2
  · rw [if_pos hf]
    have so := fromM_ok ok sps (t := o.1) (by omega) (by omega)
    have T := (so.trsOk ok).tlOk
    obtain ⟨n1, n2, n3⟩ := next_facts T o.2
    have fe : (fromM r sps o.1).first = fstM r o.1 := rfl
    have fg := fstM_ge ok o.1
    have nb := next_le T o.2 (by omega) (by have := BB_big; omega)
    have bb := BB_big
    refine ⟨E, fun sp hsp => ?_, fun a ha => ?_, fun i a b ha hb => ?_, ?_⟩
    · rcases List.mem_append.mp hsp with q | q
      · exact old sp q
      · rw [List.mem_singleton.mp q]
        refine ⟨okRec so _, n1, ?_, fun o' ho => ?_, fun x hx hlt => ?_, ?_⟩
        · show (fromM r sps o.1).first < nextM (fromM r sps o.1).tl o.2
          rw [fe]
          omega
        · have := E o' ho
          show ¬ (o'.1 ≤ nextM (fromM r sps o.1).tl o.2 ∧ nextM (fromM r sps o.1).tl o.2 < o'.2)
          omega
        · refine ⟨o, List.mem_append_right _ (List.mem_singleton.mpr rfl), ?_, ?_⟩
          · have := T.min x hx
            rw [fe] at this
            omega
          · rcases Int.lt_or_le x o.2 with z | z
            · exact z
            · have := n3 x hx z
              have : x < nextM (fromM r sps o.1).tl o.2 := hlt
              omega
        · show nextM (fromM r sps o.1).tl o.2 ≤ 4 * BB
          omega
    · cases sps with
      | nil =>
        have e : some _ = some a := ha
        cases e
        rfl
      | cons b q => exact I.fst a ha
    · rcases Nat.lt_trichotomy (i + 1) sps.length with z | z | z
      · rw [List.getElem?_append_left (by omega)] at ha
        rw [List.getElem?_append_left z] at hb
        exact I.lk i a b ha hb
      · rw [List.getElem?_append_left (by omega)] at ha
        rw [z, List.getElem?_append_right (Nat.le_refl _), Nat.sub_self] at hb
        have e : some _ = some b := hb
        cases e
        have gl : sps.getLast? = some a := by
          rw [List.getLast?_eq_getElem?, ← z]
          exact ha
        refine ⟨?_, ?_⟩
        · have := hl a gl
          show a.rcv < fstM r o.1
          omega
        · show stFrom r sps (fstM r o.1) = statesM r a (fstM r o.1)
          unfold stFrom
          rw [gl]
      · rw [List.getElem?_eq_none_iff.mpr (by rw [List.length_append, List.length_singleton]; omega)] at hb
        cases hb
    · rw [List.length_append, List.length_append, List.length_singleton, List.length_singleton]
      have := I.len
      omega
  · rw [if_neg hf]
    exact ⟨E, old, I.fst, I.lk, by rw [List.length_append]; have := I.len; omega⟩
theorem step_inv {r : RowM} (ok : RowOk r) {lo : Int} {ds : List (Int × Int)} {sps : List SpM} {o : Int × Int} (lo0 : 0 ≤ lo) (I : SpsInv r lo ds sps) (h1 : lo ≤ o.1) (h2 : o.1 < o.2) (h3 : o.2 ≤ 1000000000000000000000000000000) :
    SpsInv r (o.2 + 1) (ds ++ [o]) (stepS r sps o) := by
  unfold stepS
  cases hg : sps.getLast? with
  | none => exact push_inv ok lo0 I h1 h2 h3 fun sp q => by rw [hg] at q; cases q
  | some sp =>
    show SpsInv r (o.2 + 1) (ds ++ [o]) (if o.1 ≤ sp.rcv then sps.dropLast ++ [absS sp o] else pushS r sps o)
    by_cases ha : o.1 ≤ sp.rcv
    · rw [if_pos ha]
      obtain ⟨hn, hi, hd⟩ := getLast_idx hg
      have hsp : sp ∈ sps := by rw [hd]; exact List.mem_append_right _ (List.mem_singleton.mpr rfl)
      have F := I.sp sp hsp
      have T := (F.ok.trsOk ok).tlOk
      have bb := BB_big
      have lenE : sps.length = sps.dropLast.length + 1 := by
        have := congrArg List.length hd
        rw [List.length_append, List.length_singleton] at this
        exact this
      have E : ∀ o', o' ∈ ds ++ [o] → o'.2 < o.2 + 1 := fun o' ho => by
        rcases List.mem_append.mp ho with q | q
        · have := I.ends o' q; omega
        · rw [List.mem_singleton.mp q]; omega
      have hm : ∃ m, (if o.2 > sp.rcv then o.2 else sp.rcv) = m ∧ o.2 ≤ m ∧ sp.rcv ≤ m ∧ (m = o.2 ∨ m = sp.rcv) := by
        refine ⟨_, rfl, ?_, ?_, ?_⟩ <;> split <;> omega
      obtain ⟨m, em, m1, m2, m3⟩ := hm
      have ae : (absS sp o).rcv = nextM sp.tl m := by
        show nextM sp.tl (if o.2 > sp.rcv then o.2 else sp.rcv) = nextM sp.tl m
        rw [em]
      obtain ⟨n1, n2, n3⟩ := next_facts T m
      have tlE : (absS sp o).tl = sp.tl := rfl
      refine ⟨E, fun s hs => ?_, fun a ha' => ?_, fun i a b hA hB => ?_, ?_⟩
      · rcases List.mem_append.mp hs with q | q
        · have hs' : s ∈ sps := List.dropLast_subset _ q
          have f := I.sp s hs'
          refine ⟨f.ok, f.mem, f.lt, fun o' ho => ?_, fun x hx hlt => ?_, f.rb⟩
          · rcases List.mem_append.mp ho with z | z
            · exact f.out o' z
            · rw [List.mem_singleton.mp z]
              -- an elder spell ends ahead of the last one
              obtain ⟨i, hi', e⟩ := List.mem_iff_getElem.mp q
              have hi2 : i + 1 < sps.length := by omega
              have e0 : sps[i]? = some s := by
                rw [hd, List.getElem?_append_left hi', List.getElem?_eq_getElem hi', e]
              have key : ∀ (n i : Nat) a, sps.length - 1 - i = n → i + 1 < sps.length → sps[i]? = some a → a.rcv < sp.first := by
                intro n
                induction n with
                | zero => intro i a hn h2 _; omega
                | succ n ih =>
                  intro i a hn h2 ha
                  have hb : sps[i + 1]? = some sps[i + 1] := List.getElem?_eq_getElem h2
                  have h1 := (I.lk i a _ ha hb).1
                  by_cases hlast : i + 1 + 1 < sps.length
                  · have h3 := ih (i + 1) _ (by omega) hlast hb
                    have h4 := (I.sp _ (List.mem_of_getElem? hb)).lt
                    omega
                  · have e3 : i + 1 = sps.length - 1 := by omega
                    have e4 : sps[i + 1]? = some sp := by rw [e3]; exact hi
                    rw [hb] at e4
                    rw [Option.some.inj e4] at h1
                    exact h1
              have hr := key _ i s rfl hi2 e0
              -- all requests that the last spell sees at the service ahead of its recovery lie in outages of ds; its first one too
              obtain ⟨o', ho', z1, z2⟩ := F.inn sp.first T.mem F.lt
              have := I.ends o' ho'
              omega
          · obtain ⟨o', z, z'⟩ := f.inn x hx hlt
            exact ⟨o', List.mem_append_left _ z, z'⟩
        · rw [List.mem_singleton.mp q]
          refine ⟨okRec F.ok _, ?_, ?_, fun o' ho => ?_, fun x hx hlt => ?_, ?_⟩
          · rw [ae]; exact n1
          · rw [ae]
            have := F.lt
            show sp.first < nextM sp.tl m
            omega
          · rw [ae]
            have := E o' ho
            omega
          · rw [ae] at hlt
            have hx : MemL sp.tl x := hx
            by_cases hxr : x < sp.rcv
            · obtain ⟨o', z, z'⟩ := F.inn x hx hxr
              exact ⟨o', List.mem_append_left _ z, z'⟩
            · refine ⟨o, List.mem_append_right _ (List.mem_singleton.mpr rfl), by omega, ?_⟩
              have xm : x < m := by
                rcases Int.lt_or_le x m with z | z
                · exact z
                · have := n3 x hx z; omega
              rcases m3 with z | z <;> omega
          · rw [ae]
            rcases m3 with z | z
            · have := next_le T m (by omega) (by omega)
              omega
            · have := n3 sp.rcv F.mem (by omega)
              have := F.rb
              omega
      · by_cases h1' : sps.dropLast = []
        · rw [h1'] at ha'
          have e : some (absS sp o) = some a := ha'
          cases e
          refine I.fst sp ?_
          rw [hd, h1']
          rfl
        · refine I.fst a ?_
          have : 0 < sps.dropLast.length := List.length_pos_iff.mpr h1'
          rw [List.getElem?_append_left this] at ha'
          rw [hd, List.getElem?_append_left this]
          exact ha'
      · rcases Nat.lt_trichotomy (i + 1) sps.dropLast.length with z | z | z
        · rw [List.getElem?_append_left (by omega)] at hA
          rw [List.getElem?_append_left z] at hB
          refine I.lk i a b ?_ ?_
          · rw [hd, List.getElem?_append_left (by omega)]; exact hA
          · rw [hd, List.getElem?_append_left z]; exact hB
        · rw [List.getElem?_append_left (by omega)] at hA
          rw [z, List.getElem?_append_right (Nat.le_refl _), Nat.sub_self] at hB
          have e : some (absS sp o) = some b := hB
          cases e
          refine I.lk i a sp ?_ ?_
          · rw [hd, List.getElem?_append_left (by omega)]; exact hA
          · rw [hd, z, List.getElem?_append_right (Nat.le_refl _), Nat.sub_self]; rfl
        · rw [List.getElem?_eq_none_iff.mpr (by rw [List.length_append, List.length_singleton]; omega)] at hB
          cases hB
      · rw [List.length_append, List.length_append, List.length_singleton, List.length_singleton]
        have := I.len
        omega
    · rw [if_neg ha]
      exact push_inv ok lo0 I h1 h2 h3 fun sp' q => by rw [hg] at q; cases q; omega
theorem fold_inv {r : RowM} (ok : RowOk r) : ∀ (l : List (Int × Int)) (lo : Int) (ds : List (Int × Int)) (sps : List SpM), 0 ≤ lo → SpsInv r lo ds sps → Downs lo l → ∃ lo', 0 ≤ lo' ∧ SpsInv r lo' (ds ++ l) (l.foldl (stepS r) sps)
  | [], lo, ds, sps, h0, I, _ => ⟨lo, h0, by rw [List.append_nil]; exact I⟩
  | o :: r', lo, ds, sps, h0, I, hd => by
    obtain ⟨h1, h2, h3, h4⟩ := hd
    have I2 := step_inv ok h0 I h1 h2 h3
    obtain ⟨lo', a, b⟩ := fold_inv ok r' (o.2 + 1) (ds ++ [o]) (stepS r sps o) (by omega) I2 h4
    refine ⟨lo', a, ?_⟩
    rw [List.append_assoc] at b
    exact b
theorem inv_nil (r : RowM) : SpsInv r 0 [] [] := ⟨fun o h => by simp at h, fun sp h => by simp at h, fun a h => by simp at h, fun i a b h => by simp at h, Nat.le_refl _⟩
theorem spells_inv {r : RowM} (ok : RowOk r) {downs : List (Int × Int)} (hd : Downs 0 downs) : ∃ lo, 0 ≤ lo ∧ SpsInv r lo downs (spellsM r downs) := by
  have := fold_inv ok downs 0 [] [] (Int.le_refl _) (inv_nil r) hd
  rw [List.nil_append] at this
  exact this
end Br

namespace Br
/-! ### the times that are in two trains -/
theorem mem_iff {t : Tr} {c : Int} (o : OkT t) (hc : t.c = some c) (x : Int) : Mem t x ↔ t.s ≤ x ∧ x ≤ lastOf t ∧ t.d ∣ (x - t.s) := by
  have d1 := o.d1
  constructor
  · intro h
    refine ⟨h.ge o, h.le o hc, ?_⟩
    obtain ⟨k, k0, e, _⟩ := h
    exact ⟨k, by rw [e, Int.mul_comm]; omega⟩
  · rintro ⟨h1, h2, k, hk⟩
    have e : lastOf t = t.s + t.d * (c - 1) := by unfold lastOf; rw [hc]; rfl
    rw [Int.mul_comm t.d] at hk e
    refine ⟨k, ?_, by omega, fun c' q => ?_⟩
    · rcases Int.lt_or_le k 0 with z | z
      · have := mul_mono (show k ≤ -1 by omega) (show 0 ≤ t.d by omega)
        omega
      · exact z
    · rw [hc] at q
      cases q
      rcases Int.lt_or_le k c with z | z
      · exact z
      · have := mul_mono (show c ≤ k by omega) (show 0 ≤ t.d by omega)
        rw [Int.sub_mul] at e
        omega
theorem ediv_mul {a g : Int} (h : g ∣ a) : a / g * g = a := Int.ediv_mul_cancel h
/-- the numbers in two progressions -/
theorem crt {a b g x y p q : Int} (g0 : 0 < g) (a0 : 0 < a) (b0 : 0 < b) (ga : g ∣ a) (gb : g ∣ b) (e : a * x + b * y = g) (hg : (q - p) % g = 0) (t : Int) :
    (a ∣ (t - p) ∧ b ∣ (t - q)) ↔ (a / g * b) ∣ (t - (p + (q - p) / g * x % (b / g) * a)) := by
  obtain ⟨a', rfl⟩ := ga
  obtain ⟨b', rfl⟩ := gb
  have ea : g * a' / g = a' := Int.mul_ediv_cancel_left _ (by omega)
  have eb : g * b' / g = b' := Int.mul_ediv_cancel_left _ (by omega)
  rw [ea, eb]
  obtain ⟨w, hw⟩ := Int.dvd_of_emod_eq_zero hg
  have ew : (q - p) / g = w := by rw [hw]; exact Int.mul_ediv_cancel_left _ (by omega)
  rw [ew]
  -- a' x + b' y = 1
  have one : a' * x + b' * y = 1 := by
    have h1 : g * (a' * x + b' * y) = g * 1 := by
      rw [Int.mul_add, ← Int.mul_assoc, ← Int.mul_assoc, e]
      omega
    exact Int.eq_of_mul_eq_mul_left (by omega) h1
  have hm : w * x % b' = w * x - b' * (w * x / b') := Int.emod_def _ _
  generalize w * x / b' = r at hm
  rw [hm]
  -- the meeting point lies in both
  have hb : p + (w * x - b' * r) * (g * a') - q = g * b' * (- (w * y) - r * a') := by
    have hq : q = p + g * w := by omega
    rw [hq]
    have h1 : (w * x - b' * r) * (g * a') = g * (w * (a' * x)) - g * (b' * (r * a')) := by
      rw [Int.sub_mul]
      congr 1
      · rw [Int.mul_comm (w * x), Int.mul_assoc, Int.mul_comm a', Int.mul_assoc, Int.mul_comm x]
      · rw [Int.mul_comm (b' * r), Int.mul_assoc, Int.mul_comm a', Int.mul_assoc]
    have h2 : a' * x = 1 - b' * y := by omega
    rw [h1, h2, Int.mul_sub w, Int.mul_sub g]
    have h3 : g * b' * (-(w * y) - r * a') = - (g * (w * (b' * y))) - g * (b' * (r * a')) := by
      rw [Int.mul_sub, Int.mul_neg]
      congr 1
      · congr 1
        rw [Int.mul_assoc, ← Int.mul_assoc b', Int.mul_comm b', Int.mul_assoc]
      · rw [Int.mul_assoc]
    rw [h3, Int.mul_one]
    omega
  constructor
  · rintro ⟨⟨u, hu⟩, ⟨v, hv⟩⟩
    have h1 : t - (p + (w * x - b' * r) * (g * a')) = g * a' * (u - (w * x - b' * r)) := by
      rw [Int.mul_sub, ← hu, Int.mul_comm (g * a')]
      omega
    have h2 : t - (p + (w * x - b' * r) * (g * a')) = g * b' * (v - (- (w * y) - r * a')) := by
      rw [Int.mul_sub, ← hv, ← hb]
      omega
    generalize t - (p + (w * x - b' * r) * (g * a')) = z at h1 h2
    generalize u - (w * x - b' * r) = u' at h1
    generalize v - (- (w * y) - r * a') = v' at h2
    -- z = z (a' x + b' y)
    refine ⟨v' * x + u' * y, ?_⟩
    have h3 : z = z * (a' * x) + z * (b' * y) := by rw [← Int.mul_add, one, Int.mul_one]
    have h4 : z * (a' * x) = a' * (g * b') * (v' * x) := by
      rw [h2]
      rw [Int.mul_comm (g * b' * v'), Int.mul_assoc a' x, Int.mul_comm x, Int.mul_assoc (g * b'), ← Int.mul_assoc a']
    have h5 : z * (b' * y) = a' * (g * b') * (u' * y) := by
      rw [h1]
      have : g * a' * u' * (b' * y) = (g * a' * b') * (u' * y) := by
        rw [Int.mul_assoc (g * a') u', Int.mul_left_comm u', ← Int.mul_assoc (g * a')]
      rw [this, Int.mul_comm g a', Int.mul_assoc a' g b']
    rw [Int.mul_add, ← h4, ← h5]
    exact h3
  · rintro ⟨k, hk⟩
    constructor
    · refine ⟨(w * x - b' * r) + b' * k, ?_⟩
      have : g * a' * (b' * k) = a' * (g * b') * k := by
        rw [← Int.mul_assoc, Int.mul_comm g a', Int.mul_assoc a' g b']
      rw [Int.mul_add, this, ← hk, Int.mul_comm (g * a')]
      omega
    · refine ⟨(- (w * y) - r * a') + a' * k, ?_⟩
      have : g * b' * (a' * k) = a' * (g * b') * k := by
        rw [← Int.mul_assoc, Int.mul_comm (g * b') a']
      rw [Int.mul_add, this, ← hk, ← hb]
      omega
/-- no number in both where the gap is no multiple -/
theorem crt_no {a b g p q : Int} (ga : g ∣ a) (gb : g ∣ b) (hg : (q - p) % g ≠ 0) (t : Int) (h1 : a ∣ (t - p)) (h2 : b ∣ (t - q)) : False := by
  apply hg
  apply Int.emod_eq_zero_of_dvd
  have h3 := Int.dvd_trans ga h1
  have h4 := Int.dvd_trans gb h2
  have := Int.dvd_sub h3 h4
  rwa [show t - p - (t - q) = q - p by omega] at this
def stepM (a b g : Int) : Int := a / g * b
def meetM (p q a b g x : Int) : Int := p + (q - p) / g * x % (b / g) * a
def startM (low meet step : Int) : Int := low + (meet - low) % step
theorem common_spec {one other : Tr} {c1 c2 g x y m low : Int} (o1 : OkT one) (o2 : OkT other) (hc1 : one.c = some c1) (hc2 : other.c = some c2) (g0 : 0 < g) (ga : g ∣ one.d) (gb : g ∣ other.d) (e : one.d * x + other.d * y = g)
    (hg : (other.s - one.s) % g = 0) (hl : low = if other.s > one.s then other.s else one.s) (hm : m = lastOf one ∨ m = lastOf other) (hm1 : m ≤ lastOf one) (hm2 : m ≤ lastOf other) :
    0 < stepM one.d other.d g ∧ low ≤ startM low (meetM one.s other.s one.d other.d g x) (stepM one.d other.d g) ∧
    (startM low (meetM one.s other.s one.d other.d g x) (stepM one.d other.d g) ≤ m →
      OkT ⟨startM low (meetM one.s other.s one.d other.d g x) (stepM one.d other.d g), stepM one.d other.d g, some ((m - startM low (meetM one.s other.s one.d other.d g x) (stepM one.d other.d g)) / stepM one.d other.d g + 1)⟩ ∧
      ∀ t, Mem ⟨startM low (meetM one.s other.s one.d other.d g x) (stepM one.d other.d g), stepM one.d other.d g, some ((m - startM low (meetM one.s other.s one.d other.d g x) (stepM one.d other.d g)) / stepM one.d other.d g + 1)⟩ t ↔ Mem one t ∧ Mem other t) ∧
    (¬ startM low (meetM one.s other.s one.d other.d g x) (stepM one.d other.d g) ≤ m → ∀ t, ¬ (Mem one t ∧ Mem other t)) := by
  have a1 := o1.d1
  have b1 := o2.d1
  have s1 := o1.s0
  have s2 := o2.s0
  have key := crt (p := one.s) (q := other.s) g0 (show 0 < one.d by omega) (show 0 < other.d by omega) ga gb e hg
  have st0 : 0 < stepM one.d other.d g := by
    unfold stepM
    obtain ⟨a', ha⟩ := ga
    rw [ha, Int.mul_ediv_cancel_left _ (by omega)]
    have : 0 < a' := by
      rcases Int.lt_or_le 0 a' with z | z
      · exact z
      · have := Int.mul_nonneg (show 0 ≤ g by omega) (show 0 ≤ -a' by omega)
        rw [Int.mul_neg] at this
        omega
    exact Int.mul_pos this (by omega)
  generalize hS : stepM one.d other.d g = S at *
  generalize hM : meetM one.s other.s one.d other.d g x = mt at *
  have key : ∀ t, one.d ∣ (t - one.s) ∧ other.d ∣ (t - other.s) ↔ S ∣ (t - mt) := fun t => by
    rw [← hS, ← hM]
    exact key t
  have r0 := Int.emod_nonneg (mt - low) (show S ≠ 0 by omega)
  have r1 := Int.emod_lt_of_pos (mt - low) st0
  have rd : S ∣ (startM low mt S - mt) := by
    unfold startM
    have := Int.emod_add_mul_ediv (mt - low) S
    exact ⟨- ((mt - low) / S), by rw [Int.mul_neg]; omega⟩
  have sl : low ≤ startM low mt S := by unfold startM; omega
  have sle : ∀ t, low ≤ t → S ∣ (t - mt) → ∃ k, 0 ≤ k ∧ t = startM low mt S + k * S := by
    intro t ht hd
    have h1 := Int.dvd_sub hd rd
    rw [show t - mt - (startM low mt S - mt) = t - startM low mt S by omega] at h1
    obtain ⟨k, hk⟩ := h1
    rw [Int.mul_comm] at hk
    refine ⟨k, ?_, by omega⟩
    rcases Int.lt_or_le k 0 with z | z
    · have := mul_mono (show k ≤ -1 by omega) (show 0 ≤ S by omega)
      have : startM low mt S < low + S := by unfold startM; omega
      omega
    · exact z
  have low1 : one.s ≤ low := by rw [hl]; split <;> omega
  have low2 : other.s ≤ low := by rw [hl]; split <;> omega
  have low3 : low = one.s ∨ low = other.s := by rw [hl]; split <;> omega
  have mems : ∀ t, Mem one t ∧ Mem other t ↔ low ≤ t ∧ t ≤ m ∧ S ∣ (t - mt) := by
    intro t
    rw [mem_iff o1 hc1, mem_iff o2 hc2]
    constructor
    · rintro ⟨⟨h1, h2, h3⟩, h4, h5, h6⟩
      refine ⟨?_, ?_, (key t).mp ⟨h3, h6⟩⟩
      · rcases low3 with z | z <;> omega
      · rcases hm with z | z <;> omega
    · rintro ⟨h1, h2, h3⟩
      obtain ⟨h4, h5⟩ := (key t).mpr h3
      exact ⟨⟨by omega, by omega, h4⟩, by omega, by omega, h5⟩
  refine ⟨st0, sl, fun hle => ⟨⟨by show 0 ≤ startM low mt S; omega, by show 1 ≤ S; omega, fun c hc => ?_⟩, fun t => ?_⟩, fun hle t ht => ?_⟩
  · cases hc
    have := Int.ediv_nonneg (show 0 ≤ m - startM low mt S by omega) (show 0 ≤ S by omega)
    omega
  · rw [mems]
    constructor
    · rintro ⟨k, k0, ek, hk⟩
      have ek : t = startM low mt S + k * S := ek
      have hk := hk _ rfl
      have h1 := mul_mono (show k ≤ (m - startM low mt S) / S by omega) (show 0 ≤ S by omega)
      have h2 := Int.ediv_mul_le (m - startM low mt S) (b := S) (by omega)
      have h3 := Int.mul_nonneg k0 (show 0 ≤ S by omega)
      refine ⟨by omega, by omega, ?_⟩
      have : t - mt = (startM low mt S - mt) + S * k := by rw [ek, Int.mul_comm S]; omega
      rw [this]
      exact Int.dvd_add rd ⟨k, rfl⟩
    · rintro ⟨h1, h2, h3⟩
      obtain ⟨k, k0, ek⟩ := sle t h1 h3
      refine ⟨k, k0, ek, fun c hc => ?_⟩
      cases hc
      have := (Int.le_ediv_iff_mul_le (a := k) (b := m - startM low mt S) st0).mpr (by omega)
      omega
  · obtain ⟨h1, h2, h3⟩ := (mems t).mp ht
    obtain ⟨k, k0, ek⟩ := sle t h1 h3
    have := Int.mul_nonneg k0 (show 0 ≤ S by omega)
    omega
/-! ### shared: the walk over two lists of trains -/
structure ShInv (one other : List Tr) (i j : Nat) (us : List Tr) : Prop where
  ord : Ord us
  fin : Fin us
  all : ∀ x, (MemL us x ∨ (MemL (one.drop i) x ∧ MemL (other.drop j) x)) ↔ MemL one x ∧ MemL other x
  ahead : ∀ u, u ∈ us → ∀ y, MemL (one.drop i) y → MemL (other.drop j) y → lastOf u < y
  len : us.length ≤ i + j
theorem sh_start (one other : List Tr) : ShInv one other 0 0 [] :=
  ⟨trivial, fun t h => by simp at h, fun x => by simp [memL_nil], fun u h => by simp at h, Nat.le_refl _⟩
theorem drop_ord : ∀ {ts : List Tr} (n : Nat), Ord ts → Ord (ts.drop n)
  | ts, 0, h => h
  | [], n + 1, h => trivial
  | t :: r, n + 1, h => drop_ord n h.tail
theorem sh_step {one other us cs : List Tr} {i j : Nat} {a b : Tr} (h : ShInv one other i j us) (o1 : Ord one) (o2 : Ord other) (f1 : Fin one) (f2 : Fin other) (ha : one[i]? = some a) (hb : other[j]? = some b)
    (hcs : cs = [] ∨ ∃ c, cs = [c]) (hok : ∀ c, c ∈ cs → OkT c ∧ c.c ≠ none) (hmem : ∀ x, MemL cs x ↔ Mem a x ∧ Mem b x) :
    (lastOf a ≤ lastOf b → ShInv one other (i + 1) j (us ++ cs)) ∧ (¬ lastOf a ≤ lastOf b → ShInv one other i (j + 1) (us ++ cs)) := by
  have ea : one.drop i = a :: one.drop (i + 1) := by
    obtain ⟨h1, h2⟩ := List.getElem?_eq_some_iff.mp ha
    rw [List.drop_eq_getElem_cons h1, h2]
  have eb : other.drop j = b :: other.drop (j + 1) := by
    obtain ⟨h1, h2⟩ := List.getElem?_eq_some_iff.mp hb
    rw [List.drop_eq_getElem_cons h1, h2]
  have oA := drop_ord i o1
  have oB := drop_ord j o2
  rw [ea] at oA
  rw [eb] at oB
  have fa : ∃ c, a.c = some c := by
    cases q : a.c with
    | none => exact absurd q (f1 a (List.mem_of_getElem? ha))
    | some c => exact ⟨c, rfl⟩
  have fb : ∃ c, b.c = some c := by
    cases q : b.c with
    | none => exact absurd q (f2 b (List.mem_of_getElem? hb))
    | some c => exact ⟨c, rfl⟩
  obtain ⟨ca, hca⟩ := fa
  obtain ⟨cb, hcb⟩ := fb
  have clast : ∀ c, c ∈ cs → Mem a (lastOf c) ∧ Mem b (lastOf c) := fun c hc => by
    obtain ⟨ok, hn⟩ := hok c hc
    cases q : c.c with
    | none => exact absurd q hn
    | some n => exact (hmem _).mp ⟨c, hc, Mem.last ok q⟩
  have ord : Ord (us ++ cs) := by
    rcases hcs with e | ⟨c, e⟩
    · rw [e, List.append_nil]; exact h.ord
    · rw [e]
      have hc := hok c (by rw [e]; exact List.mem_cons_self)
      refine ord_append h.ord hc.1 h.fin fun u hu v hv => ?_
      rw [List.mem_singleton.mp hv]
      obtain ⟨q1, q2⟩ := (hmem c.s).mp ⟨c, by rw [e]; exact List.mem_cons_self, Mem.first hc.1⟩
      refine h.ahead u hu c.s ?_ ?_
      · rw [ea]; exact memL_cons.mpr (.inl q1)
      · rw [eb]; exact memL_cons.mpr (.inl q2)
  have fin : Fin (us ++ cs) := fun t ht => by
    rcases List.mem_append.mp ht with q | q
    · exact h.fin t q
    · exact (hok t q).2
  have len : (us ++ cs).length ≤ i + j + 1 := by
    rw [List.length_append]
    have := h.len
    rcases hcs with e | ⟨c, e⟩
    · rw [e]; show us.length + 0 ≤ _; omega
    · rw [e]; show us.length + 1 ≤ _; omega
  have all := h.all
  rw [ea, eb] at all
  refine ⟨fun hle => ⟨ord, fin, fun x => ?_, fun u hu y h1 h2 => ?_, by omega⟩, fun hle => ⟨ord, fin, fun x => ?_, fun u hu y h1 h2 => ?_, by omega⟩⟩
  · rw [← all x, memL_append, hmem]
    constructor
    · rintro ((q | q) | ⟨q1, q2⟩)
      · exact .inl q
      · exact .inr ⟨memL_cons.mpr (.inl q.1), memL_cons.mpr (.inl q.2)⟩
      · rw [eb] at q2
        exact .inr ⟨memL_cons.mpr (.inr q1), q2⟩
    · rintro (q | ⟨q1, q2⟩)
      · exact .inl (.inl q)
      · rcases memL_cons.mp q1 with z | z
        · rcases memL_cons.mp q2 with w | w
          · exact .inl (.inr ⟨z, w⟩)
          · have := oB.behindX w
            have := z.le oA.ok hca
            omega
        · exact .inr ⟨z, by rw [eb]; exact q2⟩
  · rcases List.mem_append.mp hu with q | q
    · exact h.ahead u q y (by rw [ea]; exact memL_cons.mpr (.inr h1)) h2
    · have := (clast u q).1.le oA.ok hca
      have := oA.behindX h1
      omega
  · rw [← all x, memL_append, hmem]
    constructor
    · rintro ((q | q) | ⟨q1, q2⟩)
      · exact .inl q
      · exact .inr ⟨memL_cons.mpr (.inl q.1), memL_cons.mpr (.inl q.2)⟩
      · rw [ea] at q1
        exact .inr ⟨q1, memL_cons.mpr (.inr q2)⟩
    · rintro (q | ⟨q1, q2⟩)
      · exact .inl (.inl q)
      · rcases memL_cons.mp q2 with w | w
        · rcases memL_cons.mp q1 with z | z
          · exact .inl (.inr ⟨z, w⟩)
          · have := oA.behindX z
            have := w.le oB.ok hcb
            omega
        · exact .inr ⟨by rw [ea]; exact q1, w⟩
  · rcases List.mem_append.mp hu with q | q
    · exact h.ahead u q y h1 (by rw [eb]; exact memL_cons.mpr (.inr h2))
    · have := (clast u q).2.le oB.ok hcb
      have := oB.behindX h2
      omega
theorem sh_end {one other us : List Tr} {i j : Nat} (h : ShInv one other i j us) (he : one.length ≤ i ∨ other.length ≤ j) : ∀ x, MemL us x ↔ MemL one x ∧ MemL other x := by
  intro x
  rw [← h.all x]
  rcases he with e | e
  · rw [List.drop_of_length_le e]
    exact ⟨.inl, fun q => q.elim id fun q => (memL_nil.mp q.1).elim⟩
  · rw [List.drop_of_length_le (l := other) e]
    exact ⟨.inl, fun q => q.elim id fun q => (memL_nil.mp q.2).elim⟩
end Br

namespace Br
/-! ### what the law asks of a spell -/
section
variable {r : RowM} {ds : List (Int × Int)} {sp : SpM}
theorem rcv_nn (F : SpF r ds sp) : 0 ≤ sp.rcv := by have := F.lt; have := F.ok.f0; omega
/-- arrivals: the times of a spell -/
theorem arr_spec (T : TrsOk r sp) {i : Nat} {x : List Tr} (h : sp.trs[i]? = some x) : NF (winM x sp.rcv) ∧ Fin (winM x sp.rcv) ∧ ∀ z, MemL (winM x sp.rcv) z ↔ MemL x z ∧ z < sp.rcv := winM_spec (T.ok i x h).nf.ord sp.rcv
theorem arr_shared (T : TrsOk r sp) {i : Nat} {x y us : List Tr} (hx : sp.trs[i]? = some x) (hy : sp.trs[i + 1]? = some y) (n : NF us) (h : ∀ z, MemL us z ↔ MemL (winM x sp.rcv) z ∧ MemL (winM y sp.rcv) z) : us = winM y sp.rcv := by
  obtain ⟨a1, a2, a3⟩ := arr_spec T hx
  obtain ⟨b1, b2, b3⟩ := arr_spec T hy
  refine nf_unique n b1 fun z => ?_
  rw [h]
  constructor
  · exact fun q => q.2
  · intro q
    obtain ⟨q1, q2⟩ := (b3 z).mp q
    exact ⟨(a3 z).mpr ⟨T.nx i x y hx hy z q1, q2⟩, q⟩
theorem cnt_first {f M : Int} {n : Nat} {x : List Tr} (h : TrOk f M n x) : cntB x f = 0 := by
  have o := h.nf.ord
  have nn := cntB_nn o f
  rcases Int.lt_or_le 0 (cntB x f) with z | z
  · obtain ⟨y, hy⟩ := h.inf.nth 0
    obtain ⟨h1, h2⟩ := nthT_spec o (Int.le_refl _) hy
    have := (lt_iff_cnt o (y := f) h1).mpr (by omega)
    have := h.min y h1
    omega
  · omega
theorem arr_first (F : SpF r ds sp) (T : TrsOk r sp) {i : Nat} {x : List Tr} (h : sp.trs[i]? = some x) : nthT (winM x sp.rcv) 0 = some sp.first := by
  obtain ⟨a1, a2, a3⟩ := arr_spec T h
  have K := T.ok i x h
  have m : MemL (winM x sp.rcv) sp.first := (a3 _).mpr ⟨K.mem, F.lt⟩
  have e := nthT_mem a1.ord m
  have c : cntB (winM x sp.rcv) sp.first = 0 := by
    rw [← cnt_first K]
    exact cnt_eq a1.ord K.nf.ord F.ok.f0 fun y hy => by
      rw [a3]
      exact ⟨fun q => q.1, fun q => ⟨q, by have := F.lt; omega⟩⟩
  rw [c] at e
  exact e
/-- the latest request at the service ahead of the recovery -/
theorem arr_last (F : SpF r ds sp) (T : TrsOk r sp) : 0 ≤ cntB (winM sp.tl sp.rcv) (sp.rcv + 1) - 1 ∧ ∃ y, nthT (winM sp.tl sp.rcv) (cntB (winM sp.tl sp.rcv) (sp.rcv + 1) - 1) = some y ∧ MemL sp.tl y ∧ y < sp.rcv ∧ (∀ z, MemL sp.tl z → z < sp.rcv → z ≤ y) ∧ 0 ≤ y := by
  have K := T.tlOk
  obtain ⟨a1, a2, a3⟩ := winM_spec K.nf.ord sp.rcv
  have m : MemL (winM sp.tl sp.rcv) sp.first := (a3 _).mpr ⟨K.mem, F.lt⟩
  have h1 := (lt_iff_cnt a1.ord (y := sp.rcv + 1) m).mp (by have := F.lt; omega)
  have h2 := cntB_nn a1.ord sp.first
  have h0 : 0 ≤ cntB (winM sp.tl sp.rcv) (sp.rcv + 1) - 1 := by omega
  obtain ⟨n, hn⟩ := Int.eq_ofNat_of_zero_le (show 0 ≤ sp.rcv + 1 by have := rcv_nn F; omega)
  obtain ⟨y, hy, _⟩ := nth_below a1.ord n (k := cntB (winM sp.tl sp.rcv) (sp.rcv + 1) - 1) h0 (by rw [← hn]; omega)
  obtain ⟨q1, q2, q3⟩ := latest_spec a1.ord h0 hy
  obtain ⟨q4, q5⟩ := (a3 y).mp q1
  refine ⟨h0, y, hy, q4, q5, fun z hz hlt => q3 z ((a3 z).mpr ⟨hz, hlt⟩) (by omega), ?_⟩
  have := K.min y q4
  have := F.ok.f0
  omega
theorem openM_eq {i : Nat} {p : Spec} {st : Option Int} {x : List Tr} (h1 : r.specs[i]? = some p) (h2 : sp.st[i]? = some st) (h3 : sp.trs[i + 1]? = some x) (T : TrsOk r sp) :
    ∃ t, nthT x (leftM p st - 1) = some t ∧ openM r sp i = if t < sp.rcv then some t else none := by
  have K := T.ok _ x h3
  obtain ⟨t, ht⟩ := K.inf.nth (leftM p st - 1)
  refine ⟨t, ht, ?_⟩
  unfold openM
  rw [h1, h2, h3]
  show (match nthT x (leftM p st - 1) with | some t => if t < sp.rcv then some t else none | none => none) = _
  rw [ht]
theorem leftM_pos (ok : RowOk r) {i : Nat} {p : Spec} (h1 : r.specs[i]? = some p) (st : Option Int) : 1 ≤ leftM p st ∧ leftM p st ≤ 1000000000000 := by
  obtain ⟨⟨a1, a2⟩, _⟩ := ok.sp p (List.mem_of_getElem? h1)
  unfold leftM
  split <;> omega
theorem arr_open (ok : RowOk r) (F : SpF r ds sp) (T : TrsOk r sp) {i : Nat} {p : Spec} {st : Option Int} {x : List Tr} (h1 : r.specs[i]? = some p) (h2 : sp.st[i]? = some st) (h3 : sp.trs[i + 1]? = some x) :
    (∀ t, openM r sp i = some t → MemL (winM x sp.rcv) t ∧ cntB (winM x sp.rcv) t = leftM p st - 1) ∧ (openM r sp i = none → ¬ leftM p st - 1 < cntB (winM x sp.rcv) sp.rcv) := by
  obtain ⟨t, ht, e⟩ := openM_eq h1 h2 h3 T
  obtain ⟨a1, a2, a3⟩ := arr_spec T h3
  have K := T.ok _ x h3
  obtain ⟨l1, _⟩ := leftM_pos ok h1 st
  obtain ⟨t1, t2⟩ := nthT_spec K.nf.ord (by omega) ht
  have t0 : 0 ≤ t := by have := K.min t t1; have := F.ok.f0; omega
  have cc : ∀ z, 0 ≤ z → z ≤ sp.rcv → cntB (winM x sp.rcv) z = cntB x z := fun z z0 hz => cnt_eq a1.ord K.nf.ord z0 fun y hy => by
    rw [a3]
    exact ⟨fun q => q.1, fun q => ⟨q, by omega⟩⟩
  rw [e]
  constructor
  · intro t' h
    by_cases q : t < sp.rcv
    · rw [if_pos q] at h
      cases h
      exact ⟨(a3 t).mpr ⟨t1, q⟩, by rw [cc t t0 (by omega), t2]⟩
    · rw [if_neg q] at h
      cases h
  · intro h
    by_cases q : t < sp.rcv
    · rw [if_pos q] at h
      cases h
    · rw [cc sp.rcv (rcv_nn F) (Int.le_refl _)]
      have := cntB_le K.nf.ord (show sp.rcv ≤ t by omega)
      omega
theorem rcv_in (F : SpF r ds sp) (T : TrsOk r sp) : InD r sp.rcv := T.ind _ _ T.tl _ F.mem
theorem inD_diff (ok : RowOk r) {x y : Int} (hx : InD r x) (hy : InD r y) : ∃ n, y - x = n * r.pace := by
  obtain ⟨a, _, rfl⟩ := hx
  obtain ⟨b, _, rfl⟩ := hy
  exact ⟨b - a, by rw [Int.sub_mul]; omega⟩
theorem arr_count (ok : RowOk r) (F : SpF r ds sp) (T : TrsOk r sp) : tCnt (winM [⟨sp.first, r.pace, none⟩] sp.rcv) = some ((sp.rcv - sp.first) / r.pace) := by
  have p1 := ok.p1
  obtain ⟨a1, a2, a3⟩ := arr_spec T T.zero
  have K := T.ok _ _ T.zero
  rw [tCnt_fin a1.ord a2 sp.rcv fun y hy => ((a3 y).mp hy).2]
  have e : cntB (winM [⟨sp.first, r.pace, none⟩] sp.rcv) sp.rcv = cntB [⟨sp.first, r.pace, none⟩] sp.rcv := cnt_eq a1.ord K.nf.ord (rcv_nn F) fun y hy => by
    rw [a3]
    exact ⟨fun q => q.1, fun q => ⟨q, hy⟩⟩
  rw [e, cntB_cons, cntB_nil]
  unfold befI
  have := F.lt
  rw [if_neg (by show ¬ sp.rcv ≤ sp.first; omega)]
  show some ((sp.rcv - sp.first + r.pace - 1) / r.pace + 0) = _
  obtain ⟨n, hn⟩ := inD_diff ok F.ok.fin (rcv_in F T)
  rw [hn, Int.mul_ediv_cancel _ (by omega)]
  have : n * r.pace + r.pace - 1 = (r.pace - 1) + n * r.pace := by omega
  rw [this, Int.add_mul_ediv_right _ _ (by omega), Int.ediv_eq_zero_of_lt (by omega) (by omega)]
  congr 1
  omega
/-- the time that states_at hands on, one ahead of a request -/
theorem snap (ok : RowOk r) {x y : Int} (hx : InD r x) (hy : InD r y) (h : x < y) : y - 1 - (y - 1 - x) % r.pace + r.pace = y := by
  have p1 := ok.p1
  obtain ⟨n, hn⟩ := inD_diff ok hx hy
  have e : y - 1 - x = (r.pace - 1) + r.pace * (n - 1) := by rw [Int.mul_sub, Int.mul_comm r.pace]; omega
  rw [e, Int.add_mul_emod_self_left, Int.emod_eq_of_lt (by omega) (by omega)]
  omega
end
/-! ### spells are apart -/
theorem sps_apart {r : RowM} {lo : Int} {ds : List (Int × Int)} {sps : List SpM} (I : SpsInv r lo ds sps) : ∀ (n i : Nat) a b, sps[i]? = some a → sps[i + n + 1]? = some b → a.rcv < b.first
  | 0, i, a, b, ha, hb => (I.lk i a b ha hb).1
  | n + 1, i, a, b, ha, hb => by
    have hl : i + n + 1 < sps.length := by
      have := (List.getElem?_eq_some_iff.mp hb).1
      omega
    have hc : sps[i + n + 1]? = some sps[i + n + 1] := List.getElem?_eq_getElem hl
    have h1 := sps_apart I n i a _ ha hc
    have h2 := (I.lk (i + n + 1) _ b hc hb).1
    have h3 := (I.sp _ (List.mem_of_getElem? hc)).lt
    omega
theorem sps_lt {r : RowM} {lo : Int} {ds : List (Int × Int)} {sps : List SpM} (I : SpsInv r lo ds sps) {i j : Nat} {a b : SpM} (h : i < j) (ha : sps[i]? = some a) (hb : sps[j]? = some b) : a.rcv < b.first := by
  obtain ⟨n, rfl⟩ : ∃ n, j = i + n + 1 := ⟨j - i - 1, by omega⟩
  exact sps_apart I n i a b ha hb
/-- in which spell a time lies -/
def SpAt (sps : List SpM) (t : Int) (o : Option Nat) : Prop := match o with
  | some i => ∃ sp, sps[i]? = some sp ∧ sp.first ≤ t ∧ t < sp.rcv
  | none => ∀ (i : Nat) sp, sps[i]? = some sp → ¬ (sp.first ≤ t ∧ t < sp.rcv)
theorem spAt_first {r : RowM} {lo : Int} {ds : List (Int × Int)} {sps : List SpM} (I : SpsInv r lo ds sps) {i : Nat} {a : SpM} (ha : sps[i]? = some a) {o : Option Nat} (h : SpAt sps a.first o) : o = some i := by
  have F := I.sp a (List.mem_of_getElem? ha)
  cases o with
  | none => exact (h i a ha ⟨Int.le_refl _, F.lt⟩).elim
  | some j =>
    obtain ⟨b, hb, h1, h2⟩ := h
    rcases Nat.lt_trichotomy i j with z | z | z
    · have := sps_lt I z ha hb
      have := F.lt
      omega
    · rw [z]
    · have := sps_lt I z hb ha
      omega
theorem spAt_rcv {r : RowM} {lo : Int} {ds : List (Int × Int)} {sps : List SpM} (I : SpsInv r lo ds sps) {i : Nat} {a : SpM} (ha : sps[i]? = some a) {o : Option Nat} (h : SpAt sps a.rcv o) : o = none := by
  cases o with
  | none => rfl
  | some j =>
    obtain ⟨b, hb, h1, h2⟩ := h
    rcases Nat.lt_trichotomy i j with z | z | z
    · have := sps_lt I z ha hb
      omega
    · subst z
      rw [ha] at hb
      cases hb
      omega
    · have := sps_lt I z hb ha
      have := (I.sp a (List.mem_of_getElem? ha)).lt
      omega
/-! ### other ends of the last outage -/
theorem ends_same {r : RowM} (ok : RowOk r) {lo : Int} {ds : List (Int × Int)} {F : List SpM} {b e e' : Int} {sp : SpM} {y : Int} (lo0 : 0 ≤ lo) (I : SpsInv r lo ds F) (hb : lo ≤ b) (hbe : b < e) (he : e ≤ 1000000000000000000000000000000)
    (hl : (stepS r F (b, e)).getLast? = some sp) (hy : MemL sp.tl y) (hlt : y < sp.rcv) (hmax : ∀ z, MemL sp.tl z → z < sp.rcv → z ≤ y) (hby : b ≤ y) (hy' : y < e') :
    ∃ sp', stepS r F (b, e') = (stepS r F (b, e)).dropLast ++ [sp'] ∧ sp'.first = sp.first ∧ sp'.rcv = nextM sp.tl e' := by
  have push : ∀ (hng : ∀ s, F.getLast? = some s → s.rcv < b), (pushS r F (b, e)).getLast? = some sp →
      ∃ sp', pushS r F (b, e') = (pushS r F (b, e)).dropLast ++ [sp'] ∧ sp'.first = sp.first ∧ sp'.rcv = nextM sp.tl e' := by
    intro hng h
    unfold pushS at h ⊢
    by_cases q : fstM r b < e
    · have q' : fstM r (b, e).1 < (b, e).2 := q
      rw [if_pos q'] at h ⊢
      rw [List.getLast?_concat] at h
      have h := Option.some.inj h
      have T := ((fromM_ok ok F (t := b) (by omega) (by omega)).trsOk ok).tlOk
      have tlE : sp.tl = (fromM r F b).tl := by rw [← h]; rfl
      have fE : sp.first = fstM r b := by rw [← h]; rfl
      have := T.min y (by rw [← tlE]; exact hy)
      have q2 : fstM r (b, e').1 < (b, e').2 := by
        show fstM r b < e'
        have : (fromM r F b).first = fstM r b := rfl
        omega
      rw [if_pos q2, List.dropLast_concat]
      exact ⟨_, rfl, by rw [fE]; rfl, by rw [tlE]⟩
    · have q' : ¬ fstM r (b, e).1 < (b, e).2 := q
      rw [if_neg q'] at h
      have := hng sp h
      omega
  unfold stepS at hl ⊢
  cases hg : F.getLast? with
  | none =>
    rw [hg] at hl
    exact push (fun s q => by rw [hg] at q; cases q) hl
  | some s =>
    rw [hg] at hl
    have hl : (if b ≤ s.rcv then F.dropLast ++ [absS s (b, e)] else pushS r F (b, e)).getLast? = some sp := hl
    show ∃ sp', (if b ≤ s.rcv then F.dropLast ++ [absS s (b, e')] else pushS r F (b, e')) = (if b ≤ s.rcv then F.dropLast ++ [absS s (b, e)] else pushS r F (b, e)).dropLast ++ [sp'] ∧ _
    by_cases q : b ≤ s.rcv
    · rw [if_pos q] at hl
      rw [if_pos q, if_pos q]
      rw [List.getLast?_concat] at hl
      have h := Option.some.inj hl
      have tlE : sp.tl = s.tl := by rw [← h]; rfl
      have fE : sp.first = s.first := by rw [← h]; rfl
      obtain ⟨_, _, hd⟩ := getLast_idx hg
      have hs : s ∈ F := by rw [hd]; exact List.mem_append_right _ (List.mem_singleton.mpr rfl)
      have SF := I.sp s hs
      have T := (SF.ok.trsOk ok).tlOk
      have rE : sp.rcv = nextM s.tl (if e > s.rcv then e else s.rcv) := by rw [← h]; rfl
      refine ⟨absS s (b, e'), by rw [List.dropLast_concat], by rw [fE]; rfl, ?_⟩
      rw [tlE]
      show nextM s.tl (if e' > s.rcv then e' else s.rcv) = nextM s.tl e'
      by_cases z : e > s.rcv
      · rw [if_pos z] at rE
        obtain ⟨_, n2, _⟩ := next_facts T e
        have := hmax s.rcv (by rw [tlE]; exact SF.mem) (by omega)
        rw [if_pos (by omega)]
      · rw [if_neg z] at rE
        obtain ⟨_, n2, n3⟩ := next_facts T s.rcv
        have := n3 s.rcv SF.mem (Int.le_refl _)
        obtain ⟨o', ho', z1, z2⟩ := SF.inn y (by rw [← tlE]; exact hy) (by omega)
        have := I.ends o' ho'
        omega
    · rw [if_neg q] at hl
      rw [if_neg q, if_neg q]
      exact push (fun s' q' => by rw [hg] at q'; cases q'; omega) hl
theorem next_same {f M : Int} {n : Nat} {ts : List Tr} (T : TrOk f M n ts) {rcv y e' : Int} (hr : MemL ts rcv) (hmax : ∀ z, MemL ts z → z < rcv → z ≤ y) (h1 : y < e') (h2 : e' ≤ rcv) : nextM ts e' = rcv := by
  obtain ⟨n1, n2, n3⟩ := next_facts T e'
  have := n3 rcv hr h2
  rcases Int.lt_or_le (nextM ts e') rcv with z | z
  · have := hmax _ n1 z
    omega
  · omega
end Br

namespace Br
open PySem PySem.Spec PyProof.Rows L2
/-- all that the top has left -/
structure Tx (K : PySem.W.Frag) (mg : Str → Option Value) : Prop where
  c : He.SaysD fa fn K
  e : ex K = true
  g : ∃ h : Heap, K.In h ∧ h.Ns mainGlobals mg
theorem Tx.exs_ {K : PySem.W.Frag} {mg : Str → Option Value} (T : Tx K mg) (i : Nat) {b : Bool} (h : (exs K)[i]? = some b) : b = true := by
  have e := List.all_eq_true.mp T.e b (List.mem_of_getElem? h)
  exact e
abbrev cR (K : PySem.W.Frag) : Addr := He.ga K "Row"
abbrev cT (K : PySem.W.Frag) : Addr := He.ga K "Trains"
abbrev cS (K : PySem.W.Frag) : Addr := He.ga K "Spell"
abbrev cL (K : PySem.W.Frag) : Addr := He.ga K "Timeline"
section
variable {K : PySem.W.Frag} {mg : Str → Option Value} (T : Tx K mg)
include T
theorem Tx.g_isInt : mg "is_integer" = some (.ref (He.ga K "is_integer")) := by
  obtain ⟨h, X, G⟩ := T.g
  exact He.glo_ok X G (T.c.fact 0 (f := .glo "is_integer") rfl)
theorem Tx.g_isBet : mg "is_between" = some (.ref (He.ga K "is_between")) := by
  obtain ⟨h, X, G⟩ := T.g
  exact He.glo_ok X G (T.c.fact 1 (f := .glo "is_between") rfl)
theorem Tx.g_chkT : mg "check_time" = some (.ref (He.ga K "check_time")) := by
  obtain ⟨h, X, G⟩ := T.g
  exact He.glo_ok X G (T.c.fact 2 (f := .glo "check_time") rfl)
theorem Tx.g_chkB : mg "check_bound" = some (.ref (He.ga K "check_bound")) := by
  obtain ⟨h, X, G⟩ := T.g
  exact He.glo_ok X G (T.c.fact 3 (f := .glo "check_bound") rfl)
theorem Tx.g_rup : mg "round_up" = some (.ref (He.ga K "round_up")) := by
  obtain ⟨h, X, G⟩ := T.g
  exact He.glo_ok X G (T.c.fact 4 (f := .glo "round_up") rfl)
theorem Tx.g_isBrk : mg "is_breaker" = some (.ref (He.ga K "is_breaker")) := by
  obtain ⟨h, X, G⟩ := T.g
  exact He.glo_ok X G (T.c.fact 5 (f := .glo "is_breaker") rfl)
theorem Tx.g_chkBrk : mg "check_breakers" = some (.ref (He.ga K "check_breakers")) := by
  obtain ⟨h, X, G⟩ := T.g
  exact He.glo_ok X G (T.c.fact 6 (f := .glo "check_breakers") rfl)
theorem Tx.g_reqT : mg "request_time" = some (.ref (He.ga K "request_time")) := by
  obtain ⟨h, X, G⟩ := T.g
  exact He.glo_ok X G (T.c.fact 7 (f := .glo "request_time") rfl)
theorem Tx.g_firR : mg "first_request" = some (.ref (He.ga K "first_request")) := by
  obtain ⟨h, X, G⟩ := T.g
  exact He.glo_ok X G (T.c.fact 8 (f := .glo "first_request") rfl)
theorem Tx.g_isTr : mg "is_train" = some (.ref (He.ga K "is_train")) := by
  obtain ⟨h, X, G⟩ := T.g
  exact He.glo_ok X G (T.c.fact 9 (f := .glo "is_train") rfl)
theorem Tx.g_lastO : mg "last_of" = some (.ref (He.ga K "last_of")) := by
  obtain ⟨h, X, G⟩ := T.g
  exact He.glo_ok X G (T.c.fact 10 (f := .glo "last_of") rfl)
theorem Tx.g_chkTr : mg "check_trains" = some (.ref (He.ga K "check_trains")) := by
  obtain ⟨h, X, G⟩ := T.g
  exact He.glo_ok X G (T.c.fact 11 (f := .glo "check_trains") rfl)
theorem Tx.g_woF : mg "without_first" = some (.ref (He.ga K "without_first")) := by
  obtain ⟨h, X, G⟩ := T.g
  exact He.glo_ok X G (T.c.fact 12 (f := .glo "without_first") rfl)
theorem Tx.g_join : mg "joined" = some (.ref (He.ga K "joined")) := by
  obtain ⟨h, X, G⟩ := T.g
  exact He.glo_ok X G (T.c.fact 13 (f := .glo "joined") rfl)
theorem Tx.g_allJ : mg "all_joined" = some (.ref (He.ga K "all_joined")) := by
  obtain ⟨h, X, G⟩ := T.g
  exact He.glo_ok X G (T.c.fact 14 (f := .glo "all_joined") rfl)
theorem Tx.g_isIn : mg "is_in" = some (.ref (He.ga K "is_in")) := by
  obtain ⟨h, X, G⟩ := T.g
  exact He.glo_ok X G (T.c.fact 15 (f := .glo "is_in") rfl)
theorem Tx.g_made : mg "made" = some (.ref (He.ga K "made")) := by
  obtain ⟨h, X, G⟩ := T.g
  exact He.glo_ok X G (T.c.fact 16 (f := .glo "made") rfl)
theorem Tx.g_tCnt : mg "time_count" = some (.ref (He.ga K "time_count")) := by
  obtain ⟨h, X, G⟩ := T.g
  exact He.glo_ok X G (T.c.fact 17 (f := .glo "time_count") rfl)
theorem Tx.g_befI : mg "before_in" = some (.ref (He.ga K "before_in")) := by
  obtain ⟨h, X, G⟩ := T.g
  exact He.glo_ok X G (T.c.fact 18 (f := .glo "before_in") rfl)
theorem Tx.g_cntB : mg "count_before" = some (.ref (He.ga K "count_before")) := by
  obtain ⟨h, X, G⟩ := T.g
  exact He.glo_ok X G (T.c.fact 19 (f := .glo "count_before") rfl)
theorem Tx.g_nextT : mg "next_time" = some (.ref (He.ga K "next_time")) := by
  obtain ⟨h, X, G⟩ := T.g
  exact He.glo_ok X G (T.c.fact 20 (f := .glo "next_time") rfl)
theorem Tx.g_latT : mg "latest_time" = some (.ref (He.ga K "latest_time")) := by
  obtain ⟨h, X, G⟩ := T.g
  exact He.glo_ok X G (T.c.fact 21 (f := .glo "latest_time") rfl)
theorem Tx.g_slO : mg "slice_of" = some (.ref (He.ga K "slice_of")) := by
  obtain ⟨h, X, G⟩ := T.g
  exact He.glo_ok X G (T.c.fact 22 (f := .glo "slice_of") rfl)
theorem Tx.g_wind : mg "window" = some (.ref (He.ga K "window")) := by
  obtain ⟨h, X, G⟩ := T.g
  exact He.glo_ok X G (T.c.fact 23 (f := .glo "window") rfl)
theorem Tx.g_splA : mg "split_after" = some (.ref (He.ga K "split_after")) := by
  obtain ⟨h, X, G⟩ := T.g
  exact He.glo_ok X G (T.c.fact 24 (f := .glo "split_after") rfl)
theorem Tx.g_thin : mg "thinned" = some (.ref (He.ga K "thinned")) := by
  obtain ⟨h, X, G⟩ := T.g
  exact He.glo_ok X G (T.c.fact 25 (f := .glo "thinned") rfl)
theorem Tx.g_divd : mg "divided" = some (.ref (He.ga K "divided")) := by
  obtain ⟨h, X, G⟩ := T.g
  exact He.glo_ok X G (T.c.fact 26 (f := .glo "divided") rfl)
theorem Tx.g_comT : mg "common_train" = some (.ref (He.ga K "common_train")) := by
  obtain ⟨h, X, G⟩ := T.g
  exact He.glo_ok X G (T.c.fact 27 (f := .glo "common_train") rfl)
theorem Tx.g_shar : mg "shared" = some (.ref (He.ga K "shared")) := by
  obtain ⟨h, X, G⟩ := T.g
  exact He.glo_ok X G (T.c.fact 28 (f := .glo "shared") rfl)
theorem Tx.g_isOut : mg "is_outage" = some (.ref (He.ga K "is_outage")) := by
  obtain ⟨h, X, G⟩ := T.g
  exact He.glo_ok X G (T.c.fact 29 (f := .glo "is_outage") rfl)
theorem Tx.g_chkO : mg "check_outages" = some (.ref (He.ga K "check_outages")) := by
  obtain ⟨h, X, G⟩ := T.g
  exact He.glo_ok X G (T.c.fact 30 (f := .glo "check_outages") rfl)
theorem Tx.g_pasd : mg "passed" = some (.ref (He.ga K "passed")) := by
  obtain ⟨h, X, G⟩ := T.g
  exact He.glo_ok X G (T.c.fact 31 (f := .glo "passed") rfl)
theorem Tx.g_pasL : mg "passes_left" = some (.ref (He.ga K "passes_left")) := by
  obtain ⟨h, X, G⟩ := T.g
  exact He.glo_ok X G (T.c.fact 32 (f := .glo "passes_left") rfl)
theorem Tx.g_spF : mg "spell_from" = some (.ref (He.ga K "spell_from")) := by
  obtain ⟨h, X, G⟩ := T.g
  exact He.glo_ok X G (T.c.fact 33 (f := .glo "spell_from") rfl)
theorem Tx.g_spOf : mg "spells_of" = some (.ref (He.ga K "spells_of")) := by
  obtain ⟨h, X, G⟩ := T.g
  exact He.glo_ok X G (T.c.fact 34 (f := .glo "spells_of") rfl)
theorem Tx.g_spAt : mg "spell_at" = some (.ref (He.ga K "spell_at")) := by
  obtain ⟨h, X, G⟩ := T.g
  exact He.glo_ok X G (T.c.fact 35 (f := .glo "spell_at") rfl)
theorem Tx.g_firS : mg "first_success" = some (.ref (He.ga K "first_success")) := by
  obtain ⟨h, X, G⟩ := T.g
  exact He.glo_ok X G (T.c.fact 36 (f := .glo "first_success") rfl)
theorem Tx.g_arr : mg "arrivals" = some (.ref (He.ga K "arrivals")) := by
  obtain ⟨h, X, G⟩ := T.g
  exact He.glo_ok X G (T.c.fact 37 (f := .glo "arrivals") rfl)
theorem Tx.g_star : mg "starts" = some (.ref (He.ga K "starts")) := by
  obtain ⟨h, X, G⟩ := T.g
  exact He.glo_ok X G (T.c.fact 38 (f := .glo "starts") rfl)
theorem Tx.g_opn : mg "openings" = some (.ref (He.ga K "openings")) := by
  obtain ⟨h, X, G⟩ := T.g
  exact He.glo_ok X G (T.c.fact 39 (f := .glo "openings") rfl)
theorem Tx.g_lasS : mg "last_spell" = some (.ref (He.ga K "last_spell")) := by
  obtain ⟨h, X, G⟩ := T.g
  exact He.glo_ok X G (T.c.fact 40 (f := .glo "last_spell") rfl)
theorem Tx.g_staA : mg "states_at" = some (.ref (He.ga K "states_at")) := by
  obtain ⟨h, X, G⟩ := T.g
  exact He.glo_ok X G (T.c.fact 41 (f := .glo "states_at") rfl)
theorem Tx.g_lMix : mg "_law_mixed" = some (.ref (He.ga K "_law_mixed")) := by
  obtain ⟨h, X, G⟩ := T.g
  exact He.glo_ok X G (T.c.fact 42 (f := .glo "_law_mixed") rfl)
theorem Tx.g_lWel : mg "_law_well" = some (.ref (He.ga K "_law_well")) := by
  obtain ⟨h, X, G⟩ := T.g
  exact He.glo_ok X G (T.c.fact 43 (f := .glo "_law_well") rfl)
theorem Tx.g_lDra : mg "_law_draw" = some (.ref (He.ga K "_law_draw")) := by
  obtain ⟨h, X, G⟩ := T.g
  exact He.glo_ok X G (T.c.fact 44 (f := .glo "_law_draw") rfl)
theorem Tx.g_lOne : mg "_law_one" = some (.ref (He.ga K "_law_one")) := by
  obtain ⟨h, X, G⟩ := T.g
  exact He.glo_ok X G (T.c.fact 45 (f := .glo "_law_one") rfl)
theorem Tx.g_lPla : mg "_law_place" = some (.ref (He.ga K "_law_place")) := by
  obtain ⟨h, X, G⟩ := T.g
  exact He.glo_ok X G (T.c.fact 46 (f := .glo "_law_place") rfl)
theorem Tx.g_lFar : mg "_law_far" = some (.ref (He.ga K "_law_far")) := by
  obtain ⟨h, X, G⟩ := T.g
  exact He.glo_ok X G (T.c.fact 47 (f := .glo "_law_far") rfl)
theorem Tx.g_lDow : mg "_law_far_downs" = some (.ref (He.ga K "_law_far_downs")) := by
  obtain ⟨h, X, G⟩ := T.g
  exact He.glo_ok X G (T.c.fact 48 (f := .glo "_law_far_downs") rfl)
theorem Tx.g_lSpR : mg "_law_spell_right" = some (.ref (He.ga K "_law_spell_right")) := by
  obtain ⟨h, X, G⟩ := T.g
  exact He.glo_ok X G (T.c.fact 49 (f := .glo "_law_spell_right") rfl)
theorem Tx.g_lEnR : mg "_law_ends_right" = some (.ref (He.ga K "_law_ends_right")) := by
  obtain ⟨h, X, G⟩ := T.g
  exact He.glo_ok X G (T.c.fact 50 (f := .glo "_law_ends_right") rfl)
theorem Tx.g_lRig : mg "_law_right" = some (.ref (He.ga K "_law_right")) := by
  obtain ⟨h, X, G⟩ := T.g
  exact He.glo_ok X G (T.c.fact 51 (f := .glo "_law_right") rfl)
theorem Tx.g_lLaw : mg "law" = some (.ref (He.ga K "law")) := by
  obtain ⟨h, X, G⟩ := T.g
  exact He.glo_ok X G (T.c.fact 52 (f := .glo "law") rfl)
theorem Tx.g_Row : mg "Row" = some (.ref (He.ga K "Row")) := by
  obtain ⟨h, X, G⟩ := T.g
  exact He.glo_ok X G (T.c.fact 53 (f := .glo "Row") rfl)
theorem Tx.clR : Cls K (cR K) := He.cls_ok (T.c.fact 54 (f := .cls "Row") rfl)
theorem Tx.mkR : Mk K (cR K) (He.ma K (cR K) "__init__") := He.mkr_ok (T.c.fact 55 (f := .mkr "Row") rfl)
theorem Tx.g_Trains : mg "Trains" = some (.ref (He.ga K "Trains")) := by
  obtain ⟨h, X, G⟩ := T.g
  exact He.glo_ok X G (T.c.fact 56 (f := .glo "Trains") rfl)
theorem Tx.clT : Cls K (cT K) := He.cls_ok (T.c.fact 57 (f := .cls "Trains") rfl)
theorem Tx.mkT : Mk K (cT K) (He.ma K (cT K) "__init__") := He.mkr_ok (T.c.fact 58 (f := .mkr "Trains") rfl)
theorem Tx.g_Spell : mg "Spell" = some (.ref (He.ga K "Spell")) := by
  obtain ⟨h, X, G⟩ := T.g
  exact He.glo_ok X G (T.c.fact 59 (f := .glo "Spell") rfl)
theorem Tx.clS : Cls K (cS K) := He.cls_ok (T.c.fact 60 (f := .cls "Spell") rfl)
theorem Tx.mkS : Mk K (cS K) (He.ma K (cS K) "__init__") := He.mkr_ok (T.c.fact 61 (f := .mkr "Spell") rfl)
theorem Tx.g_Timeline : mg "Timeline" = some (.ref (He.ga K "Timeline")) := by
  obtain ⟨h, X, G⟩ := T.g
  exact He.glo_ok X G (T.c.fact 62 (f := .glo "Timeline") rfl)
theorem Tx.clL : Cls K (cL K) := He.cls_ok (T.c.fact 63 (f := .cls "Timeline") rfl)
theorem Tx.mkL : Mk K (cL K) (He.ma K (cL K) "__init__") := He.mkr_ok (T.c.fact 64 (f := .mkr "Timeline") rfl)
theorem Tx.nR_specs : NoAttr K (cR K) "specs" := He.noat_ok (T.c.fact 65 (f := .noat "Row" "specs") rfl)
theorem Tx.nR_pace : NoAttr K (cR K) "pace" := He.noat_ok (T.c.fact 66 (f := .noat "Row" "pace") rfl)
theorem Tx.nR_shift : NoAttr K (cR K) "shift" := He.noat_ok (T.c.fact 67 (f := .noat "Row" "shift") rfl)
theorem Tx.nT_listed : NoAttr K (cT K) "listed" := He.noat_ok (T.c.fact 68 (f := .noat "Trains" "listed") rfl)
theorem Tx.nS_first : NoAttr K (cS K) "first" := He.noat_ok (T.c.fact 69 (f := .noat "Spell" "first") rfl)
theorem Tx.nS_recovered : NoAttr K (cS K) "recovered" := He.noat_ok (T.c.fact 70 (f := .noat "Spell" "recovered") rfl)
theorem Tx.nS_states : NoAttr K (cS K) "states" := He.noat_ok (T.c.fact 71 (f := .noat "Spell" "states") rfl)
theorem Tx.nS_trains : NoAttr K (cS K) "trains" := He.noat_ok (T.c.fact 72 (f := .noat "Spell" "trains") rfl)
theorem Tx.nL_line : NoAttr K (cL K) "line" := He.noat_ok (T.c.fact 73 (f := .noat "Timeline" "line") rfl)
theorem Tx.nL_downs : NoAttr K (cL K) "downs" := He.noat_ok (T.c.fact 74 (f := .noat "Timeline" "downs") rfl)
theorem Tx.nL_spells : NoAttr K (cL K) "spells" := He.noat_ok (T.c.fact 75 (f := .noat "Timeline" "spells") rfl)
theorem Tx.m_rowI : Meth K (cR K) "__init__" (He.ma K (cR K) "__init__") := He.meth_ok (T.c.fact 76 (f := .meth "Row" "__init__") rfl)
theorem Tx.m_rowL : Meth K (cR K) "__len__" (He.ma K (cR K) "__len__") := He.meth_ok (T.c.fact 77 (f := .meth "Row" "__len__") rfl)
theorem Tx.m_rowG : Meth K (cR K) "__getitem__" (He.ma K (cR K) "__getitem__") := He.meth_ok (T.c.fact 78 (f := .meth "Row" "__getitem__") rfl)
theorem Tx.m_rowC : Meth K (cR K) "__contains__" (He.ma K (cR K) "__contains__") := He.meth_ok (T.c.fact 79 (f := .meth "Row" "__contains__") rfl)
theorem Tx.m_rowS : Meth K (cR K) "step_length" (He.ma K (cR K) "step_length") := He.meth_ok (T.c.fact 80 (f := .meth "Row" "step_length") rfl)
theorem Tx.m_trI : Meth K (cT K) "__init__" (He.ma K (cT K) "__init__") := He.meth_ok (T.c.fact 81 (f := .meth "Trains" "__init__") rfl)
theorem Tx.m_trE : Meth K (cT K) "__eq__" (He.ma K (cT K) "__eq__") := He.meth_ok (T.c.fact 82 (f := .meth "Trains" "__eq__") rfl)
theorem Tx.m_trG : Meth K (cT K) "__getitem__" (He.ma K (cT K) "__getitem__") := He.meth_ok (T.c.fact 83 (f := .meth "Trains" "__getitem__") rfl)
theorem Tx.m_trC : Meth K (cT K) "__contains__" (He.ma K (cT K) "__contains__") := He.meth_ok (T.c.fact 84 (f := .meth "Trains" "__contains__") rfl)
theorem Tx.m_trA : Meth K (cT K) "__add__" (He.ma K (cT K) "__add__") := He.meth_ok (T.c.fact 85 (f := .meth "Trains" "__add__") rfl)
theorem Tx.m_spI : Meth K (cS K) "__init__" (He.ma K (cS K) "__init__") := He.meth_ok (T.c.fact 86 (f := .meth "Spell" "__init__") rfl)
theorem Tx.m_spO : Meth K (cS K) "opening" (He.ma K (cS K) "opening") := He.meth_ok (T.c.fact 87 (f := .meth "Spell" "opening") rfl)
theorem Tx.m_spS : Meth K (cS K) "states_at" (He.ma K (cS K) "states_at") := He.meth_ok (T.c.fact 88 (f := .meth "Spell" "states_at") rfl)
theorem Tx.m_spW : Meth K (cS K) "whole" (He.ma K (cS K) "whole") := He.meth_ok (T.c.fact 89 (f := .meth "Spell" "whole") rfl)
theorem Tx.m_tlI : Meth K (cL K) "__init__" (He.ma K (cL K) "__init__") := He.meth_ok (T.c.fact 90 (f := .meth "Timeline" "__init__") rfl)
theorem Tx.m_tlL : Meth K (cL K) "__len__" (He.ma K (cL K) "__len__") := He.meth_ok (T.c.fact 91 (f := .meth "Timeline" "__len__") rfl)
theorem Tx.m_tlG : Meth K (cL K) "__getitem__" (He.ma K (cL K) "__getitem__") := He.meth_ok (T.c.fact 92 (f := .meth "Timeline" "__getitem__") rfl)
theorem Tx.m_tlS : Meth K (cL K) "spell" (He.ma K (cL K) "spell") := He.meth_ok (T.c.fact 93 (f := .meth "Timeline" "spell") rfl)
theorem Tx.b_isinstance : mg "isinstance" = none := by
  obtain ⟨h, X, G⟩ := T.g
  exact He.free_ok X G (T.c.fact 94 (f := .free "isinstance") rfl)
theorem Tx.b_int : mg "int" = none := by
  obtain ⟨h, X, G⟩ := T.g
  exact He.free_ok X G (T.c.fact 95 (f := .free "int") rfl)
theorem Tx.b_bool : mg "bool" = none := by
  obtain ⟨h, X, G⟩ := T.g
  exact He.free_ok X G (T.c.fact 96 (f := .free "bool") rfl)
theorem Tx.b_tuple : mg "tuple" = none := by
  obtain ⟨h, X, G⟩ := T.g
  exact He.free_ok X G (T.c.fact 97 (f := .free "tuple") rfl)
theorem Tx.b_list : mg "list" = none := by
  obtain ⟨h, X, G⟩ := T.g
  exact He.free_ok X G (T.c.fact 98 (f := .free "list") rfl)
theorem Tx.b_len : mg "len" = none := by
  obtain ⟨h, X, G⟩ := T.g
  exact He.free_ok X G (T.c.fact 99 (f := .free "len") rfl)
theorem Tx.b_max : mg "max" = none := by
  obtain ⟨h, X, G⟩ := T.g
  exact He.free_ok X G (T.c.fact 100 (f := .free "max") rfl)
theorem Tx.b_min : mg "min" = none := by
  obtain ⟨h, X, G⟩ := T.g
  exact He.free_ok X G (T.c.fact 101 (f := .free "min") rfl)
theorem Tx.b_any : mg "any" = none := by
  obtain ⟨h, X, G⟩ := T.g
  exact He.free_ok X G (T.c.fact 102 (f := .free "any") rfl)
theorem Tx.b_all : mg "all" = none := by
  obtain ⟨h, X, G⟩ := T.g
  exact He.free_ok X G (T.c.fact 103 (f := .free "all") rfl)
theorem Tx.b_sum : mg "sum" = none := by
  obtain ⟨h, X, G⟩ := T.g
  exact He.free_ok X G (T.c.fact 104 (f := .free "sum") rfl)
theorem Tx.b_enumerate : mg "enumerate" = none := by
  obtain ⟨h, X, G⟩ := T.g
  exact He.free_ok X G (T.c.fact 105 (f := .free "enumerate") rfl)
theorem Tx.b_zip : mg "zip" = none := by
  obtain ⟨h, X, G⟩ := T.g
  exact He.free_ok X G (T.c.fact 106 (f := .free "zip") rfl)
theorem Tx.b_range : mg "range" = none := by
  obtain ⟨h, X, G⟩ := T.g
  exact He.free_ok X G (T.c.fact 107 (f := .free "range") rfl)
theorem Tx.i_MOST_BREAKERS : ∃ t, mg "MOST_BREAKERS" = some (.int (12) t) := by
  obtain ⟨h, X, G⟩ := T.g
  exact He.int_ok X G (T.c.fact 108 (f := .int "MOST_BREAKERS" (12)) rfl)
theorem Tx.i_MOST_COUNT : ∃ t, mg "MOST_COUNT" = some (.int (1000000000000) t) := by
  obtain ⟨h, X, G⟩ := T.g
  exact He.int_ok X G (T.c.fact 109 (f := .int "MOST_COUNT" (1000000000000)) rfl)
theorem Tx.i_MOST_WAIT : ∃ t, mg "MOST_WAIT" = some (.int (1000000000000000000000000000000) t) := by
  obtain ⟨h, X, G⟩ := T.g
  exact He.int_ok X G (T.c.fact 110 (f := .int "MOST_WAIT" (1000000000000000000000000000000)) rfl)
theorem Tx.i_MOST_TRAINS : ∃ t, mg "MOST_TRAINS" = some (.int (1000) t) := by
  obtain ⟨h, X, G⟩ := T.g
  exact He.int_ok X G (T.c.fact 111 (f := .int "MOST_TRAINS" (1000)) rfl)
theorem Tx.i_MOST_OUTAGES : ∃ t, mg "MOST_OUTAGES" = some (.int (50) t) := by
  obtain ⟨h, X, G⟩ := T.g
  exact He.int_ok X G (T.c.fact 112 (f := .int "MOST_OUTAGES" (50)) rfl)
theorem Tx.i_MOST_END : ∃ t, mg "MOST_END" = some (.int (1000000000000000000000000000000) t) := by
  obtain ⟨h, X, G⟩ := T.g
  exact He.int_ok X G (T.c.fact 113 (f := .int "MOST_END" (1000000000000000000000000000000)) rfl)
theorem Tx.g_CLOSED : mg "CLOSED" = some (.ref (He.ga K "CLOSED")) := by
  obtain ⟨h, X, G⟩ := T.g
  exact He.glo_ok X G (T.c.fact 114 (f := .glo "CLOSED") rfl)
theorem Tx.f_isInt : ∃ fd, FunD K d_isInt.name d_isInt.qual d_isInt.params d_isInt.body d_isInt.scope (d_isInt.dvs K) (d_isInt.kws K) (He.fAd K d_isInt.at_) fd := T.c.def_ 0 (d := d_isInt) rfl
theorem Tx.f_isBet : ∃ fd, FunD K d_isBet.name d_isBet.qual d_isBet.params d_isBet.body d_isBet.scope (d_isBet.dvs K) (d_isBet.kws K) (He.fAd K d_isBet.at_) fd := T.c.def_ 1 (d := d_isBet) rfl
theorem Tx.f_chkT : ∃ fd, FunD K d_chkT.name d_chkT.qual d_chkT.params d_chkT.body d_chkT.scope (d_chkT.dvs K) (d_chkT.kws K) (He.fAd K d_chkT.at_) fd := T.c.def_ 2 (d := d_chkT) rfl
theorem Tx.f_chkB : ∃ fd, FunD K d_chkB.name d_chkB.qual d_chkB.params d_chkB.body d_chkB.scope (d_chkB.dvs K) (d_chkB.kws K) (He.fAd K d_chkB.at_) fd := T.c.def_ 3 (d := d_chkB) rfl
theorem Tx.f_rup : ∃ fd, FunD K d_rup.name d_rup.qual d_rup.params d_rup.body d_rup.scope (d_rup.dvs K) (d_rup.kws K) (He.fAd K d_rup.at_) fd := T.c.def_ 4 (d := d_rup) rfl
theorem Tx.f_isBrk : ∃ fd, FunD K d_isBrk.name d_isBrk.qual d_isBrk.params d_isBrk.body d_isBrk.scope (d_isBrk.dvs K) (d_isBrk.kws K) (He.fAd K d_isBrk.at_) fd := T.c.def_ 5 (d := d_isBrk) rfl
theorem Tx.f_chkBrk : ∃ fd, FunD K d_chkBrk.name d_chkBrk.qual d_chkBrk.params d_chkBrk.body d_chkBrk.scope (d_chkBrk.dvs K) (d_chkBrk.kws K) (He.fAd K d_chkBrk.at_) fd := T.c.def_ 6 (d := d_chkBrk) rfl
theorem Tx.f_rowI : ∃ fd, FunD K d_rowI.name d_rowI.qual d_rowI.params d_rowI.body d_rowI.scope (d_rowI.dvs K) (d_rowI.kws K) (He.fAd K d_rowI.at_) fd := T.c.def_ 7 (d := d_rowI) rfl
theorem Tx.f_rowL : ∃ fd, FunD K d_rowL.name d_rowL.qual d_rowL.params d_rowL.body d_rowL.scope (d_rowL.dvs K) (d_rowL.kws K) (He.fAd K d_rowL.at_) fd := T.c.def_ 8 (d := d_rowL) rfl
theorem Tx.f_rowG : ∃ fd, FunD K d_rowG.name d_rowG.qual d_rowG.params d_rowG.body d_rowG.scope (d_rowG.dvs K) (d_rowG.kws K) (He.fAd K d_rowG.at_) fd := T.c.def_ 9 (d := d_rowG) rfl
theorem Tx.f_rowC : ∃ fd, FunD K d_rowC.name d_rowC.qual d_rowC.params d_rowC.body d_rowC.scope (d_rowC.dvs K) (d_rowC.kws K) (He.fAd K d_rowC.at_) fd := T.c.def_ 10 (d := d_rowC) rfl
theorem Tx.f_rowS : ∃ fd, FunD K d_rowS.name d_rowS.qual d_rowS.params d_rowS.body d_rowS.scope (d_rowS.dvs K) (d_rowS.kws K) (He.fAd K d_rowS.at_) fd := T.c.def_ 11 (d := d_rowS) rfl
theorem Tx.f_reqT : ∃ fd, FunD K d_reqT.name d_reqT.qual d_reqT.params d_reqT.body d_reqT.scope (d_reqT.dvs K) (d_reqT.kws K) (He.fAd K d_reqT.at_) fd := T.c.def_ 12 (d := d_reqT) rfl
theorem Tx.f_firR : ∃ fd, FunD K d_firR.name d_firR.qual d_firR.params d_firR.body d_firR.scope (d_firR.dvs K) (d_firR.kws K) (He.fAd K d_firR.at_) fd := T.c.def_ 13 (d := d_firR) rfl
theorem Tx.f_isTr : ∃ fd, FunD K d_isTr.name d_isTr.qual d_isTr.params d_isTr.body d_isTr.scope (d_isTr.dvs K) (d_isTr.kws K) (He.fAd K d_isTr.at_) fd := T.c.def_ 14 (d := d_isTr) rfl
theorem Tx.f_lastO : ∃ fd, FunD K d_lastO.name d_lastO.qual d_lastO.params d_lastO.body d_lastO.scope (d_lastO.dvs K) (d_lastO.kws K) (He.fAd K d_lastO.at_) fd := T.c.def_ 15 (d := d_lastO) rfl
theorem Tx.f_chkTr : ∃ fd, FunD K d_chkTr.name d_chkTr.qual d_chkTr.params d_chkTr.body d_chkTr.scope (d_chkTr.dvs K) (d_chkTr.kws K) (He.fAd K d_chkTr.at_) fd := T.c.def_ 16 (d := d_chkTr) rfl
theorem Tx.f_woF : ∃ fd, FunD K d_woF.name d_woF.qual d_woF.params d_woF.body d_woF.scope (d_woF.dvs K) (d_woF.kws K) (He.fAd K d_woF.at_) fd := T.c.def_ 17 (d := d_woF) rfl
theorem Tx.f_join : ∃ fd, FunD K d_join.name d_join.qual d_join.params d_join.body d_join.scope (d_join.dvs K) (d_join.kws K) (He.fAd K d_join.at_) fd := T.c.def_ 18 (d := d_join) rfl
theorem Tx.f_allJ : ∃ fd, FunD K d_allJ.name d_allJ.qual d_allJ.params d_allJ.body d_allJ.scope (d_allJ.dvs K) (d_allJ.kws K) (He.fAd K d_allJ.at_) fd := T.c.def_ 19 (d := d_allJ) rfl
theorem Tx.f_trI : ∃ fd, FunD K d_trI.name d_trI.qual d_trI.params d_trI.body d_trI.scope (d_trI.dvs K) (d_trI.kws K) (He.fAd K d_trI.at_) fd := T.c.def_ 20 (d := d_trI) rfl
theorem Tx.f_trE : ∃ fd, FunD K d_trE.name d_trE.qual d_trE.params d_trE.body d_trE.scope (d_trE.dvs K) (d_trE.kws K) (He.fAd K d_trE.at_) fd := T.c.def_ 21 (d := d_trE) rfl
theorem Tx.f_trG : ∃ fd, FunD K d_trG.name d_trG.qual d_trG.params d_trG.body d_trG.scope (d_trG.dvs K) (d_trG.kws K) (He.fAd K d_trG.at_) fd := T.c.def_ 22 (d := d_trG) rfl
theorem Tx.f_trC : ∃ fd, FunD K d_trC.name d_trC.qual d_trC.params d_trC.body d_trC.scope (d_trC.dvs K) (d_trC.kws K) (He.fAd K d_trC.at_) fd := T.c.def_ 23 (d := d_trC) rfl
theorem Tx.f_trA : ∃ fd, FunD K d_trA.name d_trA.qual d_trA.params d_trA.body d_trA.scope (d_trA.dvs K) (d_trA.kws K) (He.fAd K d_trA.at_) fd := T.c.def_ 24 (d := d_trA) rfl
theorem Tx.f_isIn : ∃ fd, FunD K d_isIn.name d_isIn.qual d_isIn.params d_isIn.body d_isIn.scope (d_isIn.dvs K) (d_isIn.kws K) (He.fAd K d_isIn.at_) fd := T.c.def_ 25 (d := d_isIn) rfl
theorem Tx.f_made : ∃ fd, FunD K d_made.name d_made.qual d_made.params d_made.body d_made.scope (d_made.dvs K) (d_made.kws K) (He.fAd K d_made.at_) fd := T.c.def_ 26 (d := d_made) rfl
theorem Tx.f_tCnt : ∃ fd, FunD K d_tCnt.name d_tCnt.qual d_tCnt.params d_tCnt.body d_tCnt.scope (d_tCnt.dvs K) (d_tCnt.kws K) (He.fAd K d_tCnt.at_) fd := T.c.def_ 27 (d := d_tCnt) rfl
theorem Tx.f_befI : ∃ fd, FunD K d_befI.name d_befI.qual d_befI.params d_befI.body d_befI.scope (d_befI.dvs K) (d_befI.kws K) (He.fAd K d_befI.at_) fd := T.c.def_ 28 (d := d_befI) rfl
theorem Tx.f_cntB : ∃ fd, FunD K d_cntB.name d_cntB.qual d_cntB.params d_cntB.body d_cntB.scope (d_cntB.dvs K) (d_cntB.kws K) (He.fAd K d_cntB.at_) fd := T.c.def_ 29 (d := d_cntB) rfl
theorem Tx.f_nextT : ∃ fd, FunD K d_nextT.name d_nextT.qual d_nextT.params d_nextT.body d_nextT.scope (d_nextT.dvs K) (d_nextT.kws K) (He.fAd K d_nextT.at_) fd := T.c.def_ 30 (d := d_nextT) rfl
theorem Tx.f_latT : ∃ fd, FunD K d_latT.name d_latT.qual d_latT.params d_latT.body d_latT.scope (d_latT.dvs K) (d_latT.kws K) (He.fAd K d_latT.at_) fd := T.c.def_ 31 (d := d_latT) rfl
theorem Tx.f_slO : ∃ fd, FunD K d_slO.name d_slO.qual d_slO.params d_slO.body d_slO.scope (d_slO.dvs K) (d_slO.kws K) (He.fAd K d_slO.at_) fd := T.c.def_ 32 (d := d_slO) rfl
theorem Tx.f_wind : ∃ fd, FunD K d_wind.name d_wind.qual d_wind.params d_wind.body d_wind.scope (d_wind.dvs K) (d_wind.kws K) (He.fAd K d_wind.at_) fd := T.c.def_ 33 (d := d_wind) rfl
theorem Tx.f_splA : ∃ fd, FunD K d_splA.name d_splA.qual d_splA.params d_splA.body d_splA.scope (d_splA.dvs K) (d_splA.kws K) (He.fAd K d_splA.at_) fd := T.c.def_ 34 (d := d_splA) rfl
theorem Tx.f_thin : ∃ fd, FunD K d_thin.name d_thin.qual d_thin.params d_thin.body d_thin.scope (d_thin.dvs K) (d_thin.kws K) (He.fAd K d_thin.at_) fd := T.c.def_ 35 (d := d_thin) rfl
theorem Tx.f_divd : ∃ fd, FunD K d_divd.name d_divd.qual d_divd.params d_divd.body d_divd.scope (d_divd.dvs K) (d_divd.kws K) (He.fAd K d_divd.at_) fd := T.c.def_ 36 (d := d_divd) rfl
theorem Tx.f_comT : ∃ fd, FunD K d_comT.name d_comT.qual d_comT.params d_comT.body d_comT.scope (d_comT.dvs K) (d_comT.kws K) (He.fAd K d_comT.at_) fd := T.c.def_ 37 (d := d_comT) rfl
theorem Tx.f_shar : ∃ fd, FunD K d_shar.name d_shar.qual d_shar.params d_shar.body d_shar.scope (d_shar.dvs K) (d_shar.kws K) (He.fAd K d_shar.at_) fd := T.c.def_ 38 (d := d_shar) rfl
theorem Tx.f_isOut : ∃ fd, FunD K d_isOut.name d_isOut.qual d_isOut.params d_isOut.body d_isOut.scope (d_isOut.dvs K) (d_isOut.kws K) (He.fAd K d_isOut.at_) fd := T.c.def_ 39 (d := d_isOut) rfl
theorem Tx.f_chkO : ∃ fd, FunD K d_chkO.name d_chkO.qual d_chkO.params d_chkO.body d_chkO.scope (d_chkO.dvs K) (d_chkO.kws K) (He.fAd K d_chkO.at_) fd := T.c.def_ 40 (d := d_chkO) rfl
theorem Tx.f_pasd : ∃ fd, FunD K d_pasd.name d_pasd.qual d_pasd.params d_pasd.body d_pasd.scope (d_pasd.dvs K) (d_pasd.kws K) (He.fAd K d_pasd.at_) fd := T.c.def_ 41 (d := d_pasd) rfl
theorem Tx.f_pasL : ∃ fd, FunD K d_pasL.name d_pasL.qual d_pasL.params d_pasL.body d_pasL.scope (d_pasL.dvs K) (d_pasL.kws K) (He.fAd K d_pasL.at_) fd := T.c.def_ 42 (d := d_pasL) rfl
theorem Tx.f_spI : ∃ fd, FunD K d_spI.name d_spI.qual d_spI.params d_spI.body d_spI.scope (d_spI.dvs K) (d_spI.kws K) (He.fAd K d_spI.at_) fd := T.c.def_ 43 (d := d_spI) rfl
theorem Tx.f_spO : ∃ fd, FunD K d_spO.name d_spO.qual d_spO.params d_spO.body d_spO.scope (d_spO.dvs K) (d_spO.kws K) (He.fAd K d_spO.at_) fd := T.c.def_ 44 (d := d_spO) rfl
theorem Tx.f_spS : ∃ fd, FunD K d_spS.name d_spS.qual d_spS.params d_spS.body d_spS.scope (d_spS.dvs K) (d_spS.kws K) (He.fAd K d_spS.at_) fd := T.c.def_ 45 (d := d_spS) rfl
theorem Tx.f_spW : ∃ fd, FunD K d_spW.name d_spW.qual d_spW.params d_spW.body d_spW.scope (d_spW.dvs K) (d_spW.kws K) (He.fAd K d_spW.at_) fd := T.c.def_ 46 (d := d_spW) rfl
theorem Tx.f_spF : ∃ fd, FunD K d_spF.name d_spF.qual d_spF.params d_spF.body d_spF.scope (d_spF.dvs K) (d_spF.kws K) (He.fAd K d_spF.at_) fd := T.c.def_ 47 (d := d_spF) rfl
theorem Tx.f_spOf : ∃ fd, FunD K d_spOf.name d_spOf.qual d_spOf.params d_spOf.body d_spOf.scope (d_spOf.dvs K) (d_spOf.kws K) (He.fAd K d_spOf.at_) fd := T.c.def_ 48 (d := d_spOf) rfl
theorem Tx.f_tlI : ∃ fd, FunD K d_tlI.name d_tlI.qual d_tlI.params d_tlI.body d_tlI.scope (d_tlI.dvs K) (d_tlI.kws K) (He.fAd K d_tlI.at_) fd := T.c.def_ 49 (d := d_tlI) rfl
theorem Tx.f_tlL : ∃ fd, FunD K d_tlL.name d_tlL.qual d_tlL.params d_tlL.body d_tlL.scope (d_tlL.dvs K) (d_tlL.kws K) (He.fAd K d_tlL.at_) fd := T.c.def_ 50 (d := d_tlL) rfl
theorem Tx.f_tlG : ∃ fd, FunD K d_tlG.name d_tlG.qual d_tlG.params d_tlG.body d_tlG.scope (d_tlG.dvs K) (d_tlG.kws K) (He.fAd K d_tlG.at_) fd := T.c.def_ 51 (d := d_tlG) rfl
theorem Tx.f_tlS : ∃ fd, FunD K d_tlS.name d_tlS.qual d_tlS.params d_tlS.body d_tlS.scope (d_tlS.dvs K) (d_tlS.kws K) (He.fAd K d_tlS.at_) fd := T.c.def_ 52 (d := d_tlS) rfl
theorem Tx.f_spAt : ∃ fd, FunD K d_spAt.name d_spAt.qual d_spAt.params d_spAt.body d_spAt.scope (d_spAt.dvs K) (d_spAt.kws K) (He.fAd K d_spAt.at_) fd := T.c.def_ 53 (d := d_spAt) rfl
theorem Tx.f_firS : ∃ fd, FunD K d_firS.name d_firS.qual d_firS.params d_firS.body d_firS.scope (d_firS.dvs K) (d_firS.kws K) (He.fAd K d_firS.at_) fd := T.c.def_ 54 (d := d_firS) rfl
theorem Tx.f_arr : ∃ fd, FunD K d_arr.name d_arr.qual d_arr.params d_arr.body d_arr.scope (d_arr.dvs K) (d_arr.kws K) (He.fAd K d_arr.at_) fd := T.c.def_ 55 (d := d_arr) rfl
theorem Tx.f_star : ∃ fd, FunD K d_star.name d_star.qual d_star.params d_star.body d_star.scope (d_star.dvs K) (d_star.kws K) (He.fAd K d_star.at_) fd := T.c.def_ 56 (d := d_star) rfl
theorem Tx.f_opn : ∃ fd, FunD K d_opn.name d_opn.qual d_opn.params d_opn.body d_opn.scope (d_opn.dvs K) (d_opn.kws K) (He.fAd K d_opn.at_) fd := T.c.def_ 57 (d := d_opn) rfl
theorem Tx.f_lasS : ∃ fd, FunD K d_lasS.name d_lasS.qual d_lasS.params d_lasS.body d_lasS.scope (d_lasS.dvs K) (d_lasS.kws K) (He.fAd K d_lasS.at_) fd := T.c.def_ 58 (d := d_lasS) rfl
theorem Tx.f_staA : ∃ fd, FunD K d_staA.name d_staA.qual d_staA.params d_staA.body d_staA.scope (d_staA.dvs K) (d_staA.kws K) (He.fAd K d_staA.at_) fd := T.c.def_ 59 (d := d_staA) rfl
theorem Tx.f_lMix : ∃ fd, FunD K d_lMix.name d_lMix.qual d_lMix.params d_lMix.body d_lMix.scope (d_lMix.dvs K) (d_lMix.kws K) (He.fAd K d_lMix.at_) fd := T.c.def_ 60 (d := d_lMix) rfl
theorem Tx.f_lWel : ∃ fd, FunD K d_lWel.name d_lWel.qual d_lWel.params d_lWel.body d_lWel.scope (d_lWel.dvs K) (d_lWel.kws K) (He.fAd K d_lWel.at_) fd := T.c.def_ 61 (d := d_lWel) rfl
theorem Tx.f_lDra : ∃ fd, FunD K d_lDra.name d_lDra.qual d_lDra.params d_lDra.body d_lDra.scope (d_lDra.dvs K) (d_lDra.kws K) (He.fAd K d_lDra.at_) fd := T.c.def_ 62 (d := d_lDra) rfl
theorem Tx.f_lOne : ∃ fd, FunD K d_lOne.name d_lOne.qual d_lOne.params d_lOne.body d_lOne.scope (d_lOne.dvs K) (d_lOne.kws K) (He.fAd K d_lOne.at_) fd := T.c.def_ 63 (d := d_lOne) rfl
theorem Tx.f_lPla : ∃ fd, FunD K d_lPla.name d_lPla.qual d_lPla.params d_lPla.body d_lPla.scope (d_lPla.dvs K) (d_lPla.kws K) (He.fAd K d_lPla.at_) fd := T.c.def_ 64 (d := d_lPla) rfl
theorem Tx.f_lFar : ∃ fd, FunD K d_lFar.name d_lFar.qual d_lFar.params d_lFar.body d_lFar.scope (d_lFar.dvs K) (d_lFar.kws K) (He.fAd K d_lFar.at_) fd := T.c.def_ 65 (d := d_lFar) rfl
theorem Tx.f_lDow : ∃ fd, FunD K d_lDow.name d_lDow.qual d_lDow.params d_lDow.body d_lDow.scope (d_lDow.dvs K) (d_lDow.kws K) (He.fAd K d_lDow.at_) fd := T.c.def_ 66 (d := d_lDow) rfl
theorem Tx.f_lSpR : ∃ fd, FunD K d_lSpR.name d_lSpR.qual d_lSpR.params d_lSpR.body d_lSpR.scope (d_lSpR.dvs K) (d_lSpR.kws K) (He.fAd K d_lSpR.at_) fd := T.c.def_ 67 (d := d_lSpR) rfl
theorem Tx.f_lEnR : ∃ fd, FunD K d_lEnR.name d_lEnR.qual d_lEnR.params d_lEnR.body d_lEnR.scope (d_lEnR.dvs K) (d_lEnR.kws K) (He.fAd K d_lEnR.at_) fd := T.c.def_ 68 (d := d_lEnR) rfl
theorem Tx.f_lRig : ∃ fd, FunD K d_lRig.name d_lRig.qual d_lRig.params d_lRig.body d_lRig.scope (d_lRig.dvs K) (d_lRig.kws K) (He.fAd K d_lRig.at_) fd := T.c.def_ 69 (d := d_lRig) rfl
theorem Tx.f_lLaw : ∃ fd, FunD K d_lLaw.name d_lLaw.qual d_lLaw.params d_lLaw.body d_lLaw.scope (d_lLaw.dvs K) (d_lLaw.kws K) (He.fAd K d_lLaw.at_) fd := T.c.def_ 70 (d := d_lLaw) rfl
theorem Tx.closed (H : Hp) : SqT K H (He.ga K "CLOSED") [.str "closed", .int 0] := He.tupB_ok (vs := [.str "closed", .int 0]) (T.exs_ 0 rfl) H
theorem Tx.fnR : PySem.W.fnIn K (He.ma K (cR K) "__getitem__") = true := T.exs_ 1 rfl
theorem Tx.fnT : PySem.W.fnIn K (He.ma K (cT K) "__getitem__") = true := T.exs_ 2 rfl
theorem Tx.fnL : PySem.W.fnIn K (He.ma K (cL K) "__getitem__") = true := T.exs_ 3 rfl
theorem Tx.sfT : PySem.W.selfFirst K (cT K) = true := T.exs_ 4 rfl
theorem Tx.neT : eqNoNe K (cT K) (He.ma K (cT K) "__eq__") = true := T.exs_ 5 rfl
theorem Tx.tyT {H : Hp} {a dx : Addr} {fs : List (Str × V)} (e : H a = some (.ins (cT K) dx fs)) : TyX K H (.ref a) (.ref (cT K)) :=
  .base (.ins e T.clT (beq_iff_eq.mp (T.exs_ 7 rfl)) (beq_iff_eq.mp (T.exs_ 8 rfl)) (beq_iff_eq.mp (T.exs_ 9 rfl)) (beq_iff_eq.mp (T.exs_ 10 rfl)))
theorem Tx.kitT : PySem.W.kitOne K (.ref (cT K)) (.ref (cT K)) = some true := beq_iff_eq.mp (T.exs_ 11 rfl)
theorem Tx.LS : cL K ≠ cS K := bne_iff_ne.mp (T.exs_ 12 rfl)
theorem Tx.LT : cL K ≠ cT K := bne_iff_ne.mp (T.exs_ 13 rfl)
end
/-! ### defs that are proved, in short -/
structure FK (P : Program) (w : World) (K : PySem.W.Frag) (mg : Str → Option Value) (base : Heap) (k : Nat) (f : Addr) (ps : List Str) (sp : Sp) : Prop where
  ex : ∃ fd, FnOk P w K mg base CX0 k f fd ps sp ∧ Binds K fd ps []
  kp : PySem.W.keepIn K (.ref f) = true
section
variable {X : Cx} {k : Nat} {f C : Addr} {ps : List Str} {sp : Sp} {x m : Str} {p pos apos : Pos} {e o a b : Expr} {es : List Expr} {ta tb : TE} {t : TA}
theorem pe_callF (F : FK X.prog X.w X.K X.mg X.base k f ps sp) (hr : Room k X.A) (hm : X.mg x = some (.ref f)) (ha : PA X (e :: es) t) (hg : Gl X x := by rfl) (hdb : (x == ("__debug__" : Str)) = false := by decide)
    (he : starEach (e :: es) X.env = (false, eval e X.env) :: starEach es X.env := by rfl) (hpl : (backTo pos (starEach es X.env)).any (·.1) = false := by rfl) : PE X (.Call (.Name x p) (e :: es) [] pos) (tCall sp [] E0 t) := by
  obtain ⟨fd, F1, B⟩ := F.ex
  exact pe_call F1 hr hg hm F.kp B .nil pass0 ha hdb he hpl
theorem pe_makeF (M : Mk X.K C f) (F : FK X.prog X.w X.K X.mg X.base k f ps sp) (hr : Room (k + 1) X.A) (hm : X.mg x = some (.ref C)) (ha : PA X (e :: es) t) (hg : Gl X x := by rfl) (hdb : (x == ("__debug__" : Str)) = false := by decide)
    (he : starEach (e :: es) X.env = (false, eval e X.env) :: starEach es X.env := by rfl) (hpl : (backTo pos (starEach es X.env)).any (·.1) = false := by rfl) : PE X (.Call (.Name x p) (e :: es) [] pos) (tMake C sp [] E0 t) := by
  obtain ⟨fd, F1, B⟩ := F.ex
  exact pe_make M F1 hr hg hm B .nil pass0 ha hdb he hpl
theorem pe_methF {pl : Sem Bool} (he : PE X o ta) (c : Cls X.K C) (hm : Meth X.K C m f) (F : FK X.prog X.w X.K X.mg X.base k f ps sp) (hr : Room k X.A) (ha : PA X (e :: es) t)
    (hst : starEach (e :: es) X.env = (false, eval e X.env) :: starEach es X.env := by rfl) (hpl : (backTo pos (starEach es X.env)).any (·.1) = false := by rfl)
    (ht : eval (.Call (.Attribute o m apos) (e :: es) [] pos) X.env = (do
      let ov ← eval o X.env
      standAt apos.atName
      let (f, first) ← holding [ov] (getMethod ov m pl)
      callWith pos f first (backTo pos (starEach (e :: es) X.env)) (backToKw pos (keywordEach [] X.env))) := by rfl) :
    PE X (.Call (.Attribute o m apos) (e :: es) [] pos) (tMeth C m sp [] E0 ta t) := by
  obtain ⟨fd, F1, B⟩ := F.ex
  exact pe_meth he c hm F1 hr B .nil pass0 ha hst hpl ht
theorem pe_meth0F {pl : Sem Bool} (he : PE X o ta) (c : Cls X.K C) (hm : Meth X.K C m f) (F : FK X.prog X.w X.K X.mg X.base k f ps sp) (hr : Room k X.A)
    (ht : eval (.Call (.Attribute o m apos) [] [] pos) X.env = (do
      let ov ← eval o X.env
      standAt apos.atName
      let (f, first) ← holding [ov] (getMethod ov m pl)
      callWith pos f first (backTo pos (starEach [] X.env)) (backToKw pos (keywordEach [] X.env))) := by rfl) :
    PE X (.Call (.Attribute o m apos) [] [] pos) (tMeth C m sp [] E0 ta tNil) := by
  obtain ⟨fd, F1, B⟩ := F.ex
  exact pe_meth0 he c hm F1 hr B .nil pass0 ht
theorem call_lenF (F : FK X.prog X.w X.K X.mg X.base k f ps sp) (hr : Room (k + 1) X.A) (hm : Meth X.K C "__len__" f) : CallR X (.builtin "len") (rLenO C sp E0) := by
  obtain ⟨fd, F1, B⟩ := F.ex
  exact call_lenO F1 hr hm B pass0
theorem pe_ixF (F : FK X.prog X.w X.K X.mg X.base k f ps sp) (hr : Room (k + 1) X.A) (hm : Meth X.K C "__getitem__" f) (hfn : PySem.W.fnIn X.K f = true) (ha : PE X a ta) (hb2 : PE X b tb)
    (hsl : ∀ (x : Addr) (i : Value), subscripted b true (.ref x) i = runValue (.builtin "lifetime.subscript" ⟨[.ref x, i], []⟩) := by intro _ _; with_unfolding_all rfl) :
    PE X (.Subscript a b pos) (tOp (rIxO C sp E0) ta tb) := by
  obtain ⟨fd, F1, B⟩ := F.ex
  exact pe_ixO F1 hr hm hfn B pass0 ha hb2 hsl
theorem op_inF (F : FK X.prog X.w X.K X.mg X.base k f ps sp) (hr : Room k X.A) (hm : Meth X.K C "__contains__" f) : OpR X (compareOp .In) (rInO C sp E0) := by
  obtain ⟨fd, F1, B⟩ := F.ex
  exact op_inO F1 hr hm B pass0
theorem op_ninF (F : FK X.prog X.w X.K X.mg X.base k f ps sp) (hr : Room k X.A) (hm : Meth X.K C "__contains__" f) : OpR X (compareOp .NotIn) (rNinO C sp E0) := by
  obtain ⟨fd, F1, B⟩ := F.ex
  exact op_ninO F1 hr hm B pass0
theorem op_addF (F : FK X.prog X.w X.K X.mg X.base k f ps sp) (hr : Room k X.A) (hm : Meth X.K C "__add__" f) (hc : PySem.W.selfFirst X.K C = true) : OpR X (binaryOp .Add) (rAddO C sp E0) := by
  obtain ⟨fd, F1, B⟩ := F.ex
  exact op_addO F1 hr hm hc B pass0
theorem op_neF (F : FK X.prog X.w X.K X.mg X.base k f ps sp) (hr : Room (k + 1) X.A) (hm : Meth X.K C "__eq__" f) (hc : eqNoNe X.K C f = true) : OpR X (compareOp .NotEq) (rNeO C sp E0) := by
  obtain ⟨fd, F1, B⟩ := F.ex
  exact op_neO F1 hr hm hc B pass0
theorem b_isinstance : bootBuiltins "isinstance" = some (.builtin "isinstance") := by decide +kernel
/-- isinstance with one class -/
theorem pe_isi (hm : X.mg "isinstance" = none) (ha : PA X (e :: es) t) (hg : Gl X "isinstance" := by rfl) (he : starEach (e :: es) X.env = (false, eval e X.env) :: starEach es X.env := by rfl) (hpl : (backTo pos (starEach es X.env)).any (·.1) = false := by rfl) : PE X (.Call (.Name "isinstance" p) (e :: es) [] pos) (tCB (rIsi X.K) t) :=
  pe_callB call_isi hg hm b_isinstance ha (he := he) (hpl := hpl)
theorem pe_tyN {n : String} {x : Str} {p : Pos} (hm : X.mg x = none) (hv : bootBuiltins x = some (.type n)) (hg : Gl X x := by rfl) (hn : x ≠ "__name__" := by decide) (hd : (x == ("__debug__" : Str)) = false := by decide) : PE X (.Name x p) (tC (.ty n)) := pe_bltn hg hm hv rfl hn hd
theorem b_int : bootBuiltins "int" = some (.type "int") := by decide +kernel
theorem b_bool : bootBuiltins "bool" = some (.type "bool") := by decide +kernel
theorem b_tuple : bootBuiltins "tuple" = some (.type "tuple") := by decide +kernel
theorem b_list : bootBuiltins "list" = some (.type "list") := by decide +kernel
theorem b_max : bootBuiltins "max" = some (.builtin "max") := by decide +kernel
theorem b_min : bootBuiltins "min" = some (.builtin "min") := by decide +kernel
theorem b_any : bootBuiltins "any" = some (.builtin "any") := by decide +kernel
theorem b_all : bootBuiltins "all" = some (.builtin "all") := by decide +kernel
theorem b_sum : bootBuiltins "sum" = some (.builtin "sum") := by decide +kernel
theorem b_len : bootBuiltins "len" = some (.builtin "len") := by decide +kernel
end
/-- the end of a def that is read -/
theorem fk_of {P : Program} {w : World} {K : PySem.W.Frag} {mg : Str → Option Value} {base : Heap} {k : Nat} {f : Addr} {nm qual : Str} {params : Arguments} {body : List Stmt} {scope : Scope} {N ps : List Str} {sp : Sp}
    (F : ∃ fd, FunD K nm qual params body scope [] [] f fd) (S : FnScope N ps scope) (len : ∀ vs H Q E, sp vs H Q E → vs.length = ps.length)
    (hb : ∀ (kV doc pm : Value) (an : Option Addr) (cdv ct : Value) (us : List Value), us.length = ps.length → bindArgs (PySem.W.fnOf nm qual params body scope .none kV doc pm an cdv ct) ⟨us, []⟩ = pure (ps.zip us))
    (hbody : ∀ (cdv : Value) (A : Around) (outer : List Env) (s : Shared) (H : Hp) (vs : List V) (Q : VK) (E : XK), Room k (A.deeper (envOfC qual scope s.heap.objs.size f cdv)) → sp vs H Q E →
      ∃ t, PSs (cxOf CX0 P w K mg base N qual scope f cdv A outer s H E).nox body t ∧ t { nx := fun _ H' => Q .non H', rt := Q } (start N vs) H) : FK P w K mg base (k + 1) f ps sp := by
  obtain ⟨fd, F⟩ := F
  refine ⟨⟨fd, F.ok S len fun cdv A outer s H vs Q E hr h => ?_, F.bindsN hb⟩, F.kp⟩
  obtain ⟨t, h1, h2⟩ := hbody cdv A outer s H vs Q E hr h
  exact ⟨t, h1.nox, h2⟩

/-! ### how data stand -/
def cV : Option Int → V
  | none => .non
  | some c => .int c
def TrV (K : PySem.W.Frag) (H : Hp) (v : V) (t : Tr) : Prop := ∃ a, v = .ref a ∧ H a = some (.tup [.int t.s, .int t.d, cV t.c])
abbrev TrVs (K : PySem.W.Frag) (H : Hp) (vs : List V) (ts : List Tr) : Prop := Paired (TrV K H) vs ts
theorem Same.sqt {K : PySem.W.Frag} {H H' : Hp} {a : Addr} {xs : List V} (e : Same H H') (h : SqT K H a xs) : SqT K H' a xs := by
  rcases h with (h | ⟨o, h⟩) | h
  · exact .inl (.inl (e _ _ h))
  · exact .inl (.inr ⟨o, e _ _ h⟩)
  · exact .inr h
/-- a list is changed: tuples stay -/
theorem sqt_upd {K : PySem.W.Frag} {H : Hp} {a D : Addr} {xs ys : List V} {o : HO} (h : SqT K H a xs) (hD : H D = some (.lst ys)) : SqT K (upd H D o) a xs := by
  rcases h with (h | ⟨ob, h⟩) | h
  · exact .inl (.inl (by rw [upd_ne (ne_of h hD (by intro q; cases q))]; exact h))
  · exact .inl (.inr ⟨ob, by rw [upd_ne (ne_of h hD (by intro q; cases q))]; exact h⟩)
  · exact .inr h
theorem Same.new {H : Hp} {p : Addr} {o : HO} (h : H p = none) : Same H (upd H p o) := fun b u e => by rw [upd_ne (ne_of_none e h)]; exact e
/-- an object that H does not know may change -/
theorem Same.mut {H H' : Hp} {p : Addr} {o : HO} (e : Same H H') (h : H p = none) : Same H (upd H' p o) := fun b u q => by
  rw [upd_ne (ne_of_none q h)]
  exact e b u q
theorem pImp {α β : Type} {F G : α → β → Prop} (h : ∀ a b, F a b → G a b) : ∀ {l₁ : List α} {l₂ : List β}, Paired F l₁ l₂ → Paired G l₁ l₂
  | _, _, .nil => .nil
  | _, _, .cons r t => .cons (h _ _ r) (pImp h t)
theorem pApp {α β : Type} {F : α → β → Prop} : ∀ {l₁ l₃ : List α} {l₂ l₄ : List β}, Paired F l₁ l₂ → Paired F l₃ l₄ → Paired F (l₁ ++ l₃) (l₂ ++ l₄)
  | _, _, _, _, .nil, h => h
  | _, _, _, _, .cons r t, h => .cons r (pApp t h)
theorem pLen {α β : Type} {F : α → β → Prop} : ∀ {l₁ : List α} {l₂ : List β}, Paired F l₁ l₂ → l₁.length = l₂.length
  | _, _, .nil => rfl
  | _, _, .cons _ t => by rw [List.length_cons, List.length_cons, pLen t]
theorem pAt {α β : Type} {F : α → β → Prop} : ∀ {l₁ : List α} {l₂ : List β} {i : Nat} {a : α}, Paired F l₁ l₂ → l₁[i]? = some a → ∃ b, l₂[i]? = some b ∧ F a b
  | _, _, i, a, .nil, e => by simp at e
  | _, _, 0, a, .cons r _, e => ⟨_, rfl, by have := Option.some.inj e; subst this; exact r⟩
  | _, _, i + 1, a, .cons _ t, e => by
    obtain ⟨b, h1, h2⟩ := pAt (i := i) t (by simpa using e)
    exact ⟨b, by simpa using h1, h2⟩
theorem pAt2 {α β : Type} {F : α → β → Prop} : ∀ {l₁ : List α} {l₂ : List β} {i : Nat} {b : β}, Paired F l₁ l₂ → l₂[i]? = some b → ∃ a, l₁[i]? = some a ∧ F a b
  | _, _, i, a, .nil, e => by simp at e
  | _, _, 0, a, .cons r _, e => ⟨_, rfl, by have := Option.some.inj e; subst this; exact r⟩
  | _, _, i + 1, a, .cons _ t, e => by
    obtain ⟨b, h1, h2⟩ := pAt2 (i := i) t (by simpa using e)
    exact ⟨b, by simpa using h1, h2⟩
theorem pSnd {α β : Type} {F : α → β → Prop} : ∀ {l₁ : List α} {l₂ : List β} {b : β}, Paired F l₁ l₂ → b ∈ l₂ → ∃ a, a ∈ l₁ ∧ F a b
  | _, _, b, .nil, e => by simp at e
  | _, _, b, .cons r t, e => by
    rcases List.mem_cons.mp e with q | q
    · subst q; exact ⟨_, List.mem_cons_self, r⟩
    · obtain ⟨a, h1, h2⟩ := pSnd t q
      exact ⟨a, List.mem_cons_of_mem _ h1, h2⟩
theorem TrV.mono {K : PySem.W.Frag} {H H' : Hp} (e : Same H H') {v : V} {t : Tr} (h : TrV K H v t) : TrV K H' v t := by
  obtain ⟨a, h1, h2⟩ := h
  exact ⟨a, h1, e _ _ h2⟩
theorem TrVs.mono {K : PySem.W.Frag} {H H' : Hp} (e : Same H H') {vs : List V} {ts : List Tr} (h : TrVs K H vs ts) : TrVs K H' vs ts := pImp (fun _ _ => TrV.mono e) h
theorem TrV.updL {K : PySem.W.Frag} {H : Hp} {D : Addr} {ys : List V} {o : HO} (hD : H D = some (.lst ys)) {v : V} {t : Tr} (h : TrV K H v t) : TrV K (upd H D o) v t := by
  obtain ⟨a, h1, h2⟩ := h
  exact ⟨a, h1, by rw [upd_ne (ne_of h2 hD (by intro q; cases q))]; exact h2⟩
theorem TrVs.updL {K : PySem.W.Frag} {H : Hp} {D : Addr} {ys : List V} {o : HO} (hD : H D = some (.lst ys)) {vs : List V} {ts : List Tr} (h : TrVs K H vs ts) : TrVs K (upd H D o) vs ts := pImp (fun _ _ => TrV.updL hD) h
/-- a list of trains -/
def LsA (K : PySem.W.Frag) (H : Hp) (l : Addr) (ts : List Tr) : Prop := ∃ vs, H l = some (.lst vs) ∧ TrVs K H vs ts
theorem LsA.mono {K : PySem.W.Frag} {H H' : Hp} (e : Same H H') {l : Addr} {ts : List Tr} (h : LsA K H l ts) : LsA K H' l ts := by
  obtain ⟨vs, h1, h2⟩ := h
  exact ⟨vs, e _ _ h1, TrVs.mono e h2⟩
theorem LsA.updL {K : PySem.W.Frag} {H : Hp} {l D : Addr} {ys : List V} {o : HO} {ts : List Tr} (h : LsA K H l ts) (hn : l ≠ D) (hD : H D = some (.lst ys)) : LsA K (upd H D o) l ts := by
  obtain ⟨vs, h1, h2⟩ := h
  exact ⟨vs, by rw [upd_ne hn]; exact h1, TrVs.updL hD h2⟩
/-- fields -/
def trF (l : Addr) : List (Str × V) := [("listed", .ref l)]
def rowF (s : Addr) (p h : Int) : List (Str × V) := [("specs", .ref s), ("pace", .int p), ("shift", .int h)]
def spF' (f r : Int) (s t : Addr) : List (Str × V) := [("first", .int f), ("recovered", .int r), ("states", .ref s), ("trains", .ref t)]
def tlF (r d s : Addr) : List (Str × V) := [("line", .ref r), ("downs", .ref d), ("spells", .ref s)]

section
variable {s t d l x : Addr} {p h f r : Int}
theorem rowF_specs : (rowF s p h).lookup ("specs" : Str) = some (.ref s) := by rfl
theorem rowF_pace : (rowF s p h).lookup ("pace" : Str) = some (.int p) := by rfl
theorem rowF_shift : (rowF s p h).lookup ("shift" : Str) = some (.int h) := by rfl
theorem trF_listed : (trF l).lookup ("listed" : Str) = some (.ref l) := by rfl
theorem spF_first : (spF' f r s t).lookup ("first" : Str) = some (.int f) := by rfl
theorem spF_recovered : (spF' f r s t).lookup ("recovered" : Str) = some (.int r) := by rfl
theorem spF_states : (spF' f r s t).lookup ("states" : Str) = some (.ref s) := by rfl
theorem spF_trains : (spF' f r s t).lookup ("trains" : Str) = some (.ref t) := by rfl
theorem tlF_line : (tlF x d s).lookup ("line" : Str) = some (.ref x) := by rfl
theorem tlF_downs : (tlF x d s).lookup ("downs" : Str) = some (.ref d) := by rfl
theorem tlF_spells : (tlF x d s).lookup ("spells" : Str) = some (.ref s) := by rfl
theorem rowF_put : putF "shift" (.int h) (putF "pace" (.int p) (putF "specs" (.ref s) [])) = rowF s p h := by rfl
theorem trF_put : putF "listed" (.ref l) [] = trF l := by rfl
theorem spF_put : putF "trains" (.ref t) (putF "states" (.ref s) (putF "recovered" (.int r) (putF "first" (.int f) []))) = spF' f r s t := by rfl
theorem spF_rec {r' : Int} : putF "recovered" (.int r') (spF' f r s t) = spF' f r' s t := by rfl
theorem tlF_put : putF "spells" (.ref s) (putF "downs" (.ref d) (putF "line" (.ref x) [])) = tlF x d s := by rfl
end
theorem kit_ii : kitB "int" "int" = some true := by decide +kernel
theorem kit_ib : kitB "int" "bool" = some false := by decide +kernel
theorem kit_tt : kitB "tuple" "tuple" = some true := by decide +kernel
theorem kit_ll : kitB "list" "list" = some true := by decide +kernel
/-! ### sizes -/
def LBn : Nat := 2 ^ 8000
def LB : Int := (LBn : Int)
def LW : Int := 2 ^ 3900
theorem LBn_lt : LBn < 2 ^ 8001 := by decide +kernel
theorem mul_ok {i j : Int} (h1 : -LB ≤ i) (h2 : i ≤ LB) (h3 : -LB ≤ j) (h4 : j ≤ LB) : CMulW i j := by
  unfold LB at *
  exact wide_mul (a := 8001) (b := 8001) (Nat.lt_of_le_of_lt (by omega) LBn_lt) (Nat.lt_of_le_of_lt (by omega) LBn_lt) (by decide) (by decide) (by decide)
theorem div_ok {i j : Int} (h1 : 0 < j) (h2 : j ≤ LB) : CDivW i j := by
  unfold LB at *
  exact wide_div (b := 8001) h1 (Nat.lt_of_le_of_lt (by omega) LBn_lt) (by decide) (by decide)
theorem LW_LB : 1000000 * LW + 1000000 ≤ LB := by decide +kernel
theorem LW_sq : 1000 * (LW * LW) ≤ LB := by decide +kernel
theorem BB_LW : 1000000000000000000000000000000000000 * (BB * BB * BB) ≤ LW := by decide +kernel
theorem BB_LW1 : 1000000000000000000000000000000000000 * BB ≤ LW := by decide +kernel
theorem LW_big : 1000000000000000000000000000000000000 ≤ LW := by decide +kernel
theorem mulle {a b M N : Int} (a0 : 0 ≤ a) (b0 : 0 ≤ b) (ha : a ≤ M) (hb : b ≤ N) : 0 ≤ a * b ∧ a * b ≤ M * N := ⟨Int.mul_nonneg a0 b0, Int.mul_le_mul ha hb b0 (by omega)⟩
end Br

namespace Br
open PySem PySem.Spec PyProof.Rows L2
local macro_rules | `(tactic| walk_at "ar") => `(tactic| first | assumption | omega | exact mul_ok (by omega) (by omega) (by omega) (by omega) | exact div_ok (by omega) (by omega))
local macro_rules | `(tactic| walk_at "fd") => `(tactic| first
  | refine ⟨_, _, _, _, _, rfl, (by assumption), Tx.clR (by assumption), Tx.nR_specs (by assumption), rowF_specs, ?_⟩
  | refine ⟨_, _, _, _, _, rfl, (by assumption), Tx.clR (by assumption), Tx.nR_pace (by assumption), rowF_pace, ?_⟩
  | refine ⟨_, _, _, _, _, rfl, (by assumption), Tx.clR (by assumption), Tx.nR_shift (by assumption), rowF_shift, ?_⟩
  | refine ⟨_, _, _, _, _, rfl, (by assumption), Tx.clT (by assumption), Tx.nT_listed (by assumption), trF_listed, ?_⟩
  | refine ⟨_, _, _, _, _, rfl, (by assumption), Tx.clS (by assumption), Tx.nS_recovered (by assumption), spF_recovered, ?_⟩
  | refine ⟨_, _, _, _, _, rfl, (by assumption), Tx.clS (by assumption), Tx.nS_trains (by assumption), spF_trains, ?_⟩
  | refine ⟨_, _, _, _, _, rfl, (by assumption), Tx.clS (by assumption), Tx.nS_first (by assumption), spF_first, ?_⟩
  | refine ⟨_, _, _, _, _, rfl, (by assumption), Tx.clS (by assumption), Tx.nS_states (by assumption), spF_states, ?_⟩
  | refine ⟨_, _, _, _, _, rfl, (by assumption), Tx.clL (by assumption), Tx.nL_line (by assumption), tlF_line, ?_⟩
  | refine ⟨_, _, _, _, _, rfl, (by assumption), Tx.clL (by assumption), Tx.nL_spells (by assumption), tlF_spells, ?_⟩
  | refine ⟨_, _, _, _, _, rfl, (by assumption), Tx.clL (by assumption), Tx.nL_downs (by assumption), tlF_downs, ?_⟩)
local macro_rules | `(tactic| walk_at "rd1") => `(tactic| first
  | refine ⟨_, rfl, ?_⟩
  | refine ⟨_, _, rfl, rfl, ?_⟩
  | refine ⟨rfl, ?_⟩
  | refine ⟨show CMulW _ _ from (by walk_at "ar"), ?_⟩
  | refine ⟨show CDivW _ _ from (by walk_at "ar"), ?_⟩
  | refine ⟨show (0 : Int) < _ from (by walk_at "ar"), ?_⟩
  | refine ⟨_, _, .type "int", .type "int", true, rfl, .ty _, .base (.int _), kit_ty kit_ii, ?_⟩
  | refine ⟨_, _, .type "int", .type "bool", false, rfl, .ty _, .base (.int _), kit_ty kit_ib, ?_⟩
  | refine ⟨_, _, .type "tuple", .type "tuple", true, rfl, .ty _, .base (.tup (by assumption)), kit_ty kit_tt, ?_⟩
  | refine ⟨_, _, .type "list", .type "list", true, rfl, .ty _, .base (.lst (by assumption)), kit_ty kit_ll, ?_⟩
  | walk_at "fd"
  | refine ⟨_, _, _, _, rfl, rfl, SqT.of (by assumption), (by rfl), ?_⟩
  | refine ⟨_, _, _, _, rfl, rfl, SqL.of (by assumption), (by assumption), ?_⟩
  | refine ⟨_, _, rfl, SqT.of (by assumption), rfl, ?_⟩
  | refine ⟨_, _, rfl, .inl (SqL.of (by assumption)), ?_⟩
  | refine ⟨_, _, rfl, .inr (SqT.of (by assumption)), ?_⟩
  | refine ⟨_, _, rfl, ?_⟩)
local macro_rules | `(tactic| walk_at "rd") => `(tactic| repeat (walk_at "rd1"))
local macro_rules | `(tactic| walk_at "rdi") => `(tactic| repeat (first | walk_at "rd1" | refine .inl ⟨_, rfl, ?_⟩ | refine ⟨show CPow _ _ from ⟨by decide, by decide, by first | decide | omega⟩, ?_⟩))

section
variable {P : Program} {w : World} {K : PySem.W.Frag} {mg : Str → Option Value} {base : Heap}
/-! ### wholes -/
def sp_isInt : Sp := fun vs H Q _ => ∃ n : Int, vs = [.int n] ∧ Q (.bl true) H
theorem sc_isInt : FnScope ["value"] ["value"] (defScope s_isInt) := ⟨rfl, rfl, rfl, by decide +kernel, rfl, by decide +kernel, by decide +kernel⟩
theorem ok_isInt (T : Tx K mg) : FK P w K mg base 1 (He.ga K "is_integer") ["value"] (sp_isInt) := by
  refine fk_of T.f_isInt sc_isInt (fun vs H Q E h => ?_) (fun _ _ _ _ _ _ us hl => match us, hl with | [_], _ => rfl) (fun cdv A outer s H vs Q E hr h => ?_)
  · obtain ⟨n, rfl, k⟩ := h
    rfl
  · obtain ⟨n, rfl, k⟩ := h
    refine ⟨_, (pss_one (ps_ret ((pe_and (pe_isi T.b_isinstance (pa_cons (pv 0) (pa_cons (pe_tyN T.b_int b_int) pa_nil))) (pe_one (pe_not (pe_isi T.b_isinstance (pa_cons (pv 0) (pa_cons (pe_tyN T.b_bool b_bool) pa_nil))))))))), ?_⟩
    walk_at "rd"
    exact k
def sp_isBet : Sp := fun vs H Q _ => ∃ v lo hi : Int, vs = [.int v, .int lo, .int hi] ∧ Q (.bl (decide (lo ≤ v) && decide (v ≤ hi))) H
theorem sc_isBet : FnScope ["value", "low", "high"] ["value", "low", "high"] (defScope s_isBet) := ⟨rfl, rfl, rfl, by decide +kernel, rfl, by decide +kernel, by decide +kernel⟩
theorem ok_isBet (T : Tx K mg) : FK P w K mg base 2 (He.ga K "is_between") ["value", "low", "high"] (sp_isBet) := by
  refine fk_of T.f_isBet sc_isBet (fun vs H Q E h => ?_) (fun _ _ _ _ _ _ us hl => match us, hl with | [_, _, _], _ => rfl) (fun cdv A outer s H vs Q E hr h => ?_)
  · obtain ⟨v, lo, hi, rfl, k⟩ := h
    rfl
  · obtain ⟨v, lo, hi, rfl, k⟩ := h
    refine ⟨_, (pss_one (ps_ret ((pe_and (pe_callF (ok_isInt T) (hr.mono (by decide)) T.g_isInt (pa_cons (pv 0) pa_nil)) (pe_one (pe_chain op_le op_le (pv 1) (pv 0) (pv 2))))))), ?_⟩
    walk_at "rd"
    refine ite2 (fun h1 => ?_) (fun h1 => ?_)
    · walk_at "rd"
      rw [h1] at k
      exact k
    · have h1 := Bool.eq_false_iff.mpr h1
      rw [h1] at k
      exact k
def sp_chkT : Sp := fun vs H Q _ => ∃ v : Int, vs = [.int v] ∧ 0 ≤ v ∧ Q .non H
theorem sc_chkT : FnScope ["value"] ["value"] (defScope s_chkT) := ⟨rfl, rfl, rfl, by decide +kernel, rfl, by decide +kernel, by decide +kernel⟩
theorem ok_chkT (T : Tx K mg) : FK P w K mg base 2 (He.ga K "check_time") ["value"] (sp_chkT) := by
  refine fk_of T.f_chkT sc_chkT (fun vs H Q E h => ?_) (fun _ _ _ _ _ _ us hl => match us, hl with | [_], _ => rfl) (fun cdv A outer s H vs Q E hr h => ?_)
  · obtain ⟨v, rfl, h0, k⟩ := h
    rfl
  · obtain ⟨v, rfl, h0, k⟩ := h
    refine ⟨_, (pss_one (ps_if (PW.pt (pw_or (pt_not (pt_val (pe_callF (ok_isInt T) (hr.mono (by decide)) T.g_isInt (pa_cons (pv 0) pa_nil)))) (pw_or1 (pt_cmpR op_lt (pv 0) (pe_int) (nomark _))))) (pss_one (ps_never)) pss_nil)), ?_⟩
    walk_at "rd"
    rw [decide_eq_false (by omega)]
    exact k
def sp_chkB : Sp := fun vs H Q _ => ∃ (p : V) (v lo : Int), vs = [p, .int v, .int lo] ∧ lo ≤ v ∧ Q .non H
theorem sc_chkB : FnScope ["part", "value", "low"] ["part", "value", "low"] (defScope s_chkB) := ⟨rfl, rfl, rfl, by decide +kernel, rfl, by decide +kernel, by decide +kernel⟩
theorem ok_chkB (T : Tx K mg) : FK P w K mg base 2 (He.ga K "check_bound") ["part", "value", "low"] (sp_chkB) := by
  refine fk_of T.f_chkB sc_chkB (fun vs H Q E h => ?_) (fun _ _ _ _ _ _ us hl => match us, hl with | [_, _, _], _ => rfl) (fun cdv A outer s H vs Q E hr h => ?_)
  · obtain ⟨p, v, lo, rfl, h0, k⟩ := h
    rfl
  · obtain ⟨p, v, lo, rfl, h0, k⟩ := h
    refine ⟨_, (pss_one (ps_if (PW.pt (pw_or (pt_not (pt_val (pe_callF (ok_isInt T) (hr.mono (by decide)) T.g_isInt (pa_cons (pv 1) pa_nil)))) (pw_or1 (pt_cmpR op_lt (pv 1) (pv 2) (nomark _))))) (pss_one (ps_never)) pss_nil)), ?_⟩
    walk_at "rd"
    rw [decide_eq_false (by omega)]
    exact k
def sp_rup : Sp := fun vs H Q _ => ∃ v u : Int, vs = [.int v, .int u] ∧ 1 ≤ u ∧ u ≤ LW ∧ -LW ≤ v ∧ v ≤ LW ∧ Q (.int (rup v u)) H
theorem ediv_bd {v u M : Int} (hu : 1 ≤ u) (h1 : -M ≤ v) (h2 : v ≤ M) : -M ≤ v / u ∧ v / u ≤ M := by
  have m0 : 0 ≤ M := by omega
  constructor
  · rw [Int.le_ediv_iff_mul_le (by omega)]
    have := Int.mul_le_mul_of_nonneg_left hu m0
    have e : -M * u = - (M * u) := Int.neg_mul _ _
    omega
  · have h3 := Int.ediv_mul_le v (b := u) (by omega)
    rcases Int.lt_or_le (v / u) 0 with z | z
    · omega
    · have := Int.mul_le_mul_of_nonneg_left hu z
      omega
theorem sc_rup : FnScope ["value", "unit"] ["value", "unit"] (defScope s_rup) := ⟨rfl, rfl, rfl, by decide +kernel, rfl, by decide +kernel, by decide +kernel⟩
theorem ok_rup (T : Tx K mg) : FK P w K mg base 1 (He.ga K "round_up") ["value", "unit"] (sp_rup) := by
  refine fk_of T.f_rup sc_rup (fun vs H Q E h => ?_) (fun _ _ _ _ _ _ us hl => match us, hl with | [_, _], _ => rfl) (fun cdv A outer s H vs Q E hr h => ?_)
  · obtain ⟨v, u, rfl, h1, h2, h3, h4, k⟩ := h
    rfl
  · obtain ⟨v, u, rfl, h1, h2, h3, h4, k⟩ := h
    refine ⟨_, (pss_one (ps_ret (pe_op op_mulW (pe_op op_fdivW (pe_op op_sub (pe_op op_add (pv 0) (pv 1)) (pe_int)) (pv 1)) (pv 1)))), ?_⟩
    have lw := LW_LB
    have lb := LW_big
    obtain ⟨d1, d2⟩ := ediv_bd (M := 2 * LW) (v := v + u - 1) h1 (by omega) (by omega)
    walk_at "rd"
    exact k
/-! ### rows -/
def SpecV (H : Hp) (v : V) (p : Spec) : Prop := ∃ a, v = .ref a ∧ H a = some (.tup [.int p.1, .int p.2.1, .int p.2.2])
theorem SpecV.mono {H H' : Hp} (e : Same H H') {v : V} {p : Spec} (h : SpecV H v p) : SpecV H' v p := by
  obtain ⟨a, h1, h2⟩ := h
  exact ⟨a, h1, e _ _ h2⟩
abbrev SpecVs (H : Hp) (vs : List V) (ps : List Spec) : Prop := Paired (SpecV H) vs ps
theorem SpecVs.mono {H H' : Hp} (e : Same H H') {vs : List V} {ps : List Spec} (h : SpecVs H vs ps) : SpecVs H' vs ps := pImp (fun _ _ => SpecV.mono e) h
structure SpecOk1 (p : Spec) : Prop where
  f1 : 1 ≤ p.1
  f2 : p.1 ≤ 1000000000000
  w1 : 1 ≤ p.2.1
  w2 : p.2.1 ≤ 1000000000000000000000000
  s1 : 1 ≤ p.2.2
  s2 : p.2.2 ≤ 1000000000000
def sp_isBrk : Sp := fun vs H Q _ => ∃ (v : V) (p : Spec), vs = [v] ∧ SpecV H v p ∧ SpecOk1 p ∧ Q (.bl true) H
theorem sc_isBrk : FnScope ["value"] ["value"] (defScope s_isBrk) := ⟨rfl, rfl, rfl, by decide +kernel, rfl, by decide +kernel, by decide +kernel⟩
theorem ok_isBrk (T : Tx K mg) : FK P w K mg base 3 (He.ga K "is_breaker") ["value"] (sp_isBrk) := by
  refine fk_of T.f_isBrk sc_isBrk (fun vs H Q E h => ?_) (fun _ _ _ _ _ _ us hl => match us, hl with | [_], _ => rfl) (fun cdv A outer s H vs Q E hr h => ?_)
  · obtain ⟨v, p, rfl, ⟨a, ea, ha⟩, ok, k⟩ := h
    rfl
  · obtain ⟨v, p, rfl, ⟨a, ea, ha⟩, ok, k⟩ := h
    obtain ⟨_, t_MOST_COUNT⟩ := T.i_MOST_COUNT
    obtain ⟨_, t_MOST_WAIT⟩ := T.i_MOST_WAIT
    refine ⟨_, (pss_cons (ps_if (PW.pt (pw_or (pt_not (pt_val (pe_isi T.b_isinstance (pa_cons (pv 0) (pa_cons (pe_tyN T.b_tuple b_tuple) pa_nil))))) (pw_or1 (pt_cmpR op_ne (pe_callB call_len_seq (by rfl) T.b_len b_len (pa_cons (pv 0) pa_nil)) (pe_int) (nomark _))))) (pss_one (ps_ret (pe_bl))) pss_nil)
      (pss_cons (ps_if (PW.pt (pw_or (pt_not (pt_val (pe_callF (ok_isBet T) (hr.mono (by decide)) T.g_isBet (pa_cons (pe_ix ix_tup (pv 0) (pe_int) (fun _ _ => rfl)) (pa_cons (pe_int) (pa_cons (pe_glob (v := .int 1000000000000) (by rfl) t_MOST_COUNT ⟨_, rfl⟩) pa_nil)))))) (pw_or1 (pt_not (pt_val (pe_callF (ok_isBet T) (hr.mono (by decide)) T.g_isBet (pa_cons (pe_ix ix_tup (pv 0) (pe_int) (fun _ _ => rfl)) (pa_cons (pe_int) (pa_cons (pe_glob (v := .int 1000000000000000000000000000000) (by rfl) t_MOST_WAIT ⟨_, rfl⟩) pa_nil))))))))) (pss_one (ps_ret (pe_bl))) pss_nil)
      (pss_one (ps_ret (pe_callF (ok_isBet T) (hr.mono (by decide)) T.g_isBet (pa_cons (pe_ix ix_tup (pv 0) (pe_int) (fun _ _ => rfl)) (pa_cons (pe_int) (pa_cons (pe_glob (v := .int 1000000000000) (by rfl) t_MOST_COUNT ⟨_, rfl⟩) pa_nil)))))))), ?_⟩
    subst ea
    obtain ⟨p1, p2, p3⟩ := p
    obtain ⟨f1, f2, w1, w2, s1, s2⟩ := ok
    simp only at ha f1 f2 w1 w2 s1 s2
    walk_at "rd"
    refine ⟨_, _, _, rfl, ?_⟩
    rw [decide_eq_true f1, decide_eq_true f2]
    walk_at "rd"
    refine ⟨_, _, _, rfl, ?_⟩
    rw [decide_eq_true w1, decide_eq_true (show p2 ≤ 1000000000000000000000000000000 by omega)]
    walk_at "rd"
    refine ⟨_, _, _, rfl, ?_⟩
    rw [decide_eq_true s1, decide_eq_true s2]
    exact k
def sp_chkBrk : Sp := fun vs H Q _ => ∃ (l : Addr) (us : List V) (ps : List Spec), vs = [.ref l] ∧ H l = some (.lst us) ∧ SpecVs H us ps ∧ (∀ p, p ∈ ps → SpecOk1 p) ∧ ps.length ≤ 12 ∧ ∀ H', Same H H' → Q .non H'
theorem sc_chkBrk : FnScope ["breakers", "at", "breaker"] ["breakers"] (defScope s_chkBrk) := ⟨rfl, rfl, rfl, by decide +kernel, rfl, by decide +kernel, by decide +kernel⟩
theorem ok_chkBrk (T : Tx K mg) : FK P w K mg base 4 (He.ga K "check_breakers") ["breakers"] (sp_chkBrk) := by
  refine fk_of T.f_chkBrk sc_chkBrk (fun vs H Q E h => ?_) (fun _ _ _ _ _ _ us hl => match us, hl with | [_], _ => rfl) (fun cdv A outer s H vs Q E hr h => ?_)
  · obtain ⟨l, us, ps, rfl, hl, hp, ok, len, k⟩ := h
    rfl
  · obtain ⟨l, us, ps, rfl, hl, hp, ok, len, k⟩ := h
    obtain ⟨_, t_MOST_BREAKERS⟩ := T.i_MOST_BREAKERS
    refine ⟨_, (pss_cons (ps_if (PW.pt (pw_or (pt_not (pt_val (pe_isi T.b_isinstance (pa_cons (pv 0) (pa_cons (pe_tyN T.b_list b_list) pa_nil))))) (pw_or1 (pt_cmpR op_gt (pe_callB call_len_seq (by rfl) T.b_len b_len (pa_cons (pv 0) pa_nil)) (pe_glob (v := .int 12) (by rfl) t_MOST_BREAKERS ⟨_, rfl⟩) (nomark _))))) (pss_one (ps_never)) pss_nil)
      (pss_one (ps_for PassesOwn.never rfl (pi_enum (by rfl) T.b_enumerate (pa_cons (pv 0) pa_nil)) (pg_tup rfl (pgs_cons (pg_name (i := 1) sc_chkBrk.nd rfl (Or.inl rfl)) (pgs_cons (pg_name (i := 2) sc_chkBrk.nd rfl (Or.inl rfl)) pgs_nil))) (pss_one (ps_if (pt_not (pt_val (pe_callF (ok_isBrk T) (hr.mono (by decide)) T.g_isBrk (pa_cons (pv 2) pa_nil)))) (pss_one (ps_never)) pss_nil))))), ?_⟩
    walk_at "rd"
    have e : us.length = ps.length := pLen hp
    rw [decide_eq_false (by omega)]
    walk_at "rd"
    refine ⟨_, _, rfl, SqL.of hl, ?_⟩
    refine for_it walk_enum (fun i σ H' => Same H H' ∧ ∃ x1 x2, σ = [some (.ref l), x1, x2]) ⟨Same.refl H, _, _, rfl⟩ (fun i σ H' _ h => SqL.of (h.1 _ _ hl)) ?_ (fun σ H' h => k H' h.1)
    rintro i x σ H1 H2 hi ⟨s1, x1, x2, rfl⟩ ⟨T, y, z, rfl, hT, rfl, hy, hz⟩
    cases hy
    obtain ⟨p, h1, h2⟩ := pAt hp hz
    have s2 := s1.trans (Same.new (o := .tup [.int i, z]) hT)
    refine ⟨_, _, rfl, SqT.of upd_same, rfl, _, _, rfl, _, _, rfl, rfl, ?_⟩
    refine ⟨_, rfl, _, p, rfl, h2.mono s2, ok p (List.mem_of_getElem? h1), ?_⟩
    walk_at "rd"
    exact ⟨s2, _, _, rfl⟩
/-- a row -/
def RowA (K : PySem.W.Frag) (H : Hp) (v : V) (r : RowM) : Prop := ∃ (x dx l : Addr) (us : List V), v = .ref x ∧ H x = some (.ins (cR K) dx (rowF l r.pace r.shift)) ∧ H l = some (.lst us) ∧ SpecVs H us r.specs
theorem RowA.mono {H H' : Hp} (e : Same H H') {v : V} {r : RowM} (h : RowA K H v r) : RowA K H' v r := by
  obtain ⟨x, dx, l, us, h0, h1, h2, h3⟩ := h
  exact ⟨x, dx, l, us, h0, e _ _ h1, e _ _ h2, SpecVs.mono e h3⟩
theorem row_ok1 {r : RowM} (ok : RowOk r) : ∀ p, p ∈ r.specs → SpecOk1 p := fun p hp => by
  obtain ⟨⟨a1, a2⟩, ⟨b1, b2⟩, c1, c2⟩ := ok.sp p hp
  exact ⟨a1, a2, b1, b2, c1, c2⟩
def sp_rowI (K : PySem.W.Frag) : Sp := fun vs H Q _ => ∃ (x dx l : Addr) (us : List V) (r : RowM), vs = [.ref x, .ref l, .int r.pace, .int r.shift] ∧ H x = some (.ins (cR K) dx []) ∧ H l = some (.lst us) ∧ SpecVs H us r.specs ∧ RowOk r ∧
  ∀ (H' : Hp) (l' : Addr), (∀ b o, b ≠ x → H b = some o → H' b = some o) → H l' = none → H' x = some (.ins (cR K) dx (rowF l' r.pace r.shift)) → H' l' = some (.lst us) → Q .non H'
/-- a def whose last parameter is given by a keyword -/
structure FKN (P : Program) (w : World) (K : PySem.W.Frag) (mg : Str → Option Value) (base : Heap) (k : Nat) (f : Addr) (ps : List Str) (n : Nat) (ks : List Str) (sp : Sp) : Prop where
  ex : ∃ fd g, FnOk P w K mg base CX0 k f fd ps sp ∧ KBn K fd ps n ks g (fun vs zs => vs ++ zs)
theorem pe_makeKF {X : Cx} {k n : Nat} {f C : Addr} {ps ks : List Str} {sp : Sp} {x : Str} {p pos : Pos} {e : Expr} {es : List Expr} {kws : List Keyword} {t tk : TA} (M : Mk X.K C f) (F : FKN X.prog X.w X.K X.mg X.base k f ps (n + 1) ks sp) (hr : Room (k + 1) X.A) (hm : X.mg x = some (.ref C))
    (ha : PA X (e :: es) t) (hkw : PK X kws tk) (hg : Gl X x := by rfl) (hall : (backToKw pos (keywordEach kws X.env)).all (·.1.isSome) = true := by rfl) (hks : (backToKw pos (keywordEach kws X.env)).filterMap (·.1) = ks := by rfl)
    (hdb : (x == ("__debug__" : Str)) = false := by decide) (he : starEach (e :: es) X.env = (false, eval e X.env) :: starEach es X.env := by rfl)
    (hpl : ((backTo pos (starEach (e :: es) X.env)).any (·.1) || (backToKw pos (keywordEach kws X.env)).any (·.1.isNone)) = false := by rfl) :
    PE X (.Call (.Name x p) (e :: es) kws pos) (tMakeN C n ks.length sp (fun vs zs => vs ++ zs) E0 t tk) := by
  obtain ⟨fd, g, F1, B⟩ := F.ex
  exact pe_makeN M F1 hr hg hm B pass0 ha hkw hall hks hdb he hpl
theorem sc_rowI : FnScope ["self", "breakers", "step", "phase"] ["self", "breakers", "step", "phase"] (defScope s_rowI) := ⟨rfl, rfl, rfl, by decide +kernel, rfl, by decide +kernel, by decide +kernel⟩
theorem ok_rowI (T : Tx K mg) : FKN P w K mg base 5 (He.ma K (He.ga K "Row") "__init__") ["self", "breakers", "step", "phase"] 3 ["phase"] (sp_rowI K) := by
  obtain ⟨fd, F⟩ := T.f_rowI
  obtain ⟨mv, B⟩ := FunD.kbinds0 (ps := ["self", "breakers", "step", "phase"]) F 3 ["phase"] [] (fun us _ ws => us ++ ws) (by intro q; cases q) (fun q h => by simp at h) (fun r1 _ r3 => r1.append r3)
    (fun D doc pm an cdv ct us mv ws h1 h2 h3 => match us, mv, ws, h1, h2, h3 with | [_, _, _], [], [_], _, _, _ => rfl)
  refine ⟨fd, _, F.ok sc_rowI (fun vs H Q E h => ?_) (fun cdv A outer s H vs Q E hr h => ?_), B⟩
  · obtain ⟨x, dx, l, us, r, rfl, _⟩ := h
    rfl
  · obtain ⟨x, dx, l, us, r, rfl, hx, hl, hp, ok, k⟩ := h
    obtain ⟨_, t_MOST_WAIT⟩ := T.i_MOST_WAIT
    refine ⟨_, PSs.nox (pss_cons (ps_expr (pe_callF (ok_chkBrk T) (hr.mono (by decide)) T.g_chkBrk (pa_cons (pv 1) pa_nil)))
      (pss_cons (ps_if (pt_not (pt_val (pe_callF (ok_isBet T) (hr.mono (by decide)) T.g_isBet (pa_cons (pv 2) (pa_cons (pe_int) (pa_cons (pe_glob (v := .int 1000000000000000000000000000000) (by rfl) t_MOST_WAIT ⟨_, rfl⟩) pa_nil)))))) (pss_one (ps_never)) pss_nil)
      (pss_cons (ps_if (pt_not (pt_val (pe_callF (ok_isBet T) (hr.mono (by decide)) T.g_isBet (pa_cons (pv 3) (pa_cons (pe_int) (pa_cons (pe_glob (v := .int 1000000000000000000000000000000) (by rfl) t_MOST_WAIT ⟨_, rfl⟩) pa_nil)))))) (pss_one (ps_never)) pss_nil)
      (pss_cons (ps_fld (pv 0) (pe_callTy call_list_of (by rfl) T.b_list b_list (pa_cons (pv 1) pa_nil)) rfl)
      (pss_cons (ps_fld (pv 0) (pv 2) rfl)
      (pss_one (ps_fld (pv 0) (pv 3) rfl))))))), ?_⟩
    have o2 := ok.p1
    have o3 := ok.p2
    have o4 := ok.s1
    have o5 := ok.s2
    refine ⟨_, rfl, l, us, r.specs, rfl, hl, hp, row_ok1 ok, by have := ok.len; omega, fun H1 s1 => ?_⟩
    walk_at "rd"
    refine ⟨_, _, _, rfl, ?_⟩
    rw [decide_eq_true (show 1 ≤ r.pace by omega), decide_eq_true (show r.pace ≤ 1000000000000000000000000000000 by omega)]
    walk_at "rd"
    refine ⟨_, _, _, rfl, ?_⟩
    rw [decide_eq_true (show 0 ≤ r.shift by omega), decide_eq_true (show r.shift ≤ 1000000000000000000000000000000 by omega)]
    walk_at "rd"
    refine ⟨_, _, rfl, .inl (SqL.of (s1 _ _ hl)), fun l' hl' => ?_⟩
    have nx : x ≠ l' := ne_of_none (s1 _ _ hx) hl'
    have e1 : upd H1 l' (.lst us) x = some (.ins (cR K) dx []) := by rw [upd_ne nx]; exact s1 _ _ hx
    refine ⟨_, rfl, x, _, dx, _, rfl, e1, T.clR, T.nR_specs, (by show 0 < 1000; decide), ?_⟩
    refine ⟨_, rfl, _, rfl, x, _, dx, _, rfl, upd_same, T.clR, T.nR_pace, (by show 1 < 1000; decide), ?_⟩
    refine ⟨_, rfl, _, rfl, x, _, dx, _, rfl, upd_same, T.clR, T.nR_shift, (by show 2 < 1000; decide), ?_⟩
    refine k _ l' (fun b o hb e => ?_) (s1.free hl') ?_ ?_
    · rw [upd_ne hb, upd_ne hb, upd_ne hb, upd_ne (ne_of_none (s1 _ _ e) hl')]
      exact s1 _ _ e
    · rw [upd_same, rowF_put]
    · rw [upd_ne nx.symm, upd_ne nx.symm, upd_ne nx.symm, upd_same]
def sp_rowL (K : PySem.W.Frag) : Sp := fun vs H Q _ => ∃ (v : V) (r : RowM), vs = [v] ∧ RowA K H v r ∧ Q (.int r.specs.length) H
theorem sc_rowL : FnScope ["self"] ["self"] (defScope s_rowL) := ⟨rfl, rfl, rfl, by decide +kernel, rfl, by decide +kernel, by decide +kernel⟩
theorem ok_rowL (T : Tx K mg) : FK P w K mg base 1 (He.ma K (He.ga K "Row") "__len__") ["self"] (sp_rowL K) := by
  refine fk_of T.f_rowL sc_rowL (fun vs H Q E h => ?_) (fun _ _ _ _ _ _ us hl => match us, hl with | [_], _ => rfl) (fun cdv A outer s H vs Q E hr h => ?_)
  · obtain ⟨v, r, rfl, ⟨x, dx, l, us, rfl, hx, hl, hp⟩, k⟩ := h
    rfl
  · obtain ⟨v, r, rfl, ⟨x, dx, l, us, rfl, hx, hl, hp⟩, k⟩ := h
    refine ⟨_, (pss_one (ps_ret (pe_callB call_len_seq (by rfl) T.b_len b_len (pa_cons (pe_fld (pv 0) rfl) pa_nil)))), ?_⟩
    walk_at "rd"
    rw [pLen hp]
    exact k
def sp_rowG (K : PySem.W.Frag) : Sp := fun vs H Q _ => ∃ (v : V) (r : RowM) (i : Nat) (p : Spec), vs = [v, .int (i : Int)] ∧ RowA K H v r ∧ r.specs[i]? = some p ∧ ∀ u, SpecV H u p → Q u H
theorem sc_rowG : FnScope ["self", "index"] ["self", "index"] (defScope s_rowG) := ⟨rfl, rfl, rfl, by decide +kernel, rfl, by decide +kernel, by decide +kernel⟩
theorem ok_rowG (T : Tx K mg) : FK P w K mg base 3 (He.ma K (He.ga K "Row") "__getitem__") ["self", "index"] (sp_rowG K) := by
  refine fk_of T.f_rowG sc_rowG (fun vs H Q E h => ?_) (fun _ _ _ _ _ _ us hl => match us, hl with | [_, _], _ => rfl) (fun cdv A outer s H vs Q E hr h => ?_)
  · obtain ⟨v, r, i, p, rfl, ⟨x, dx, l, us, rfl, hx, hl, hp⟩, hi, k⟩ := h
    rfl
  · obtain ⟨v, r, i, p, rfl, ⟨x, dx, l, us, rfl, hx, hl, hp⟩, hi, k⟩ := h
    refine ⟨_, (pss_cons (ps_if (pt_not (pt_val (pe_callF (ok_isBet T) (hr.mono (by decide)) T.g_isBet (pa_cons (pv 1) (pa_cons (pe_int) (pa_cons (pe_op op_sub (pe_callB call_len_seq (by rfl) T.b_len b_len (pa_cons (pe_fld (pv 0) rfl) pa_nil)) (pe_int)) pa_nil)))))) (pss_one (ps_never)) pss_nil)
      (pss_one (ps_ret (pe_ix ix_list (pe_fld (pv 0) rfl) (pv 1) (fun _ _ => rfl))))), ?_⟩
    obtain ⟨u, hu, su⟩ := pAt2 hp hi
    have il := (List.getElem?_eq_some_iff.mp hu).1
    walk_at "rd"
    refine ⟨_, _, _, rfl, ?_⟩
    rw [decide_eq_true (show (0 : Int) ≤ i by omega), decide_eq_true (show (i : Int) ≤ (us.length : Int) - 1 by omega)]
    have := atI_nat hu
    walk_at "rd"
    exact k u su
def sp_rowC (K : PySem.W.Frag) : Sp := fun vs H Q _ => ∃ (v : V) (r : RowM) (t : Int), vs = [v, .int t] ∧ RowA K H v r ∧ 1 ≤ r.pace ∧ InD r t ∧ Q (.bl true) H
theorem sc_rowC : FnScope ["self", "time"] ["self", "time"] (defScope s_rowC) := ⟨rfl, rfl, rfl, by decide +kernel, rfl, by decide +kernel, by decide +kernel⟩
theorem ok_rowC (T : Tx K mg) : FK P w K mg base 2 (He.ma K (He.ga K "Row") "__contains__") ["self", "time"] (sp_rowC K) := by
  refine fk_of T.f_rowC sc_rowC (fun vs H Q E h => ?_) (fun _ _ _ _ _ _ us hl => match us, hl with | [_, _], _ => rfl) (fun cdv A outer s H vs Q E hr h => ?_)
  · obtain ⟨v, r, t, rfl, ⟨x, dx, l, us, rfl, hx, hl, hp⟩, p1, ⟨n, n0, e⟩, k⟩ := h
    rfl
  · obtain ⟨v, r, t, rfl, ⟨x, dx, l, us, rfl, hx, hl, hp⟩, p1, ⟨n, n0, e⟩, k⟩ := h
    refine ⟨_, (pss_one (ps_ret ((pe_and (pe_callF (ok_isInt T) (hr.mono (by decide)) T.g_isInt (pa_cons (pv 1) pa_nil)) (pe_and (pe_cmpR op_ge (pv 1) (pe_fld (pv 0) rfl) (nomark _)) (pe_one (pe_cmpR op_eq (pe_op op_mod (pe_op op_sub (pv 1) (pe_fld (pv 0) rfl)) (pe_fld (pv 0) rfl)) (pe_int) (nomark _)))))))), ?_⟩
    have nn := Int.mul_nonneg n0 (show 0 ≤ r.pace by omega)
    walk_at "rd"
    rw [decide_eq_true (show r.shift ≤ t by omega)]
    walk_at "rd"
    have e2 : (t - r.shift) % r.pace = 0 := by
      rw [show t - r.shift = n * r.pace by omega]
      exact Int.mul_emod_left _ _
    show Q (.bl (decide (V.int ((t - r.shift) % r.pace) = V.int 0))) H
    rw [e2]
    exact k
def sp_rowS (K : PySem.W.Frag) : Sp := fun vs H Q _ => ∃ (v : V) (r : RowM), vs = [v] ∧ RowA K H v r ∧ Q (.int r.pace) H
theorem sc_rowS : FnScope ["self"] ["self"] (defScope s_rowS) := ⟨rfl, rfl, rfl, by decide +kernel, rfl, by decide +kernel, by decide +kernel⟩
theorem ok_rowS (T : Tx K mg) : FK P w K mg base 1 (He.ma K (He.ga K "Row") "step_length") ["self"] (sp_rowS K) := by
  refine fk_of T.f_rowS sc_rowS (fun vs H Q E h => ?_) (fun _ _ _ _ _ _ us hl => match us, hl with | [_], _ => rfl) (fun cdv A outer s H vs Q E hr h => ?_)
  · obtain ⟨v, r, rfl, ⟨x, dx, l, us, rfl, hx, hl, hp⟩, k⟩ := h
    rfl
  · obtain ⟨v, r, rfl, ⟨x, dx, l, us, rfl, hx, hl, hp⟩, k⟩ := h
    refine ⟨_, (pss_one (ps_ret (pe_fld (pv 0) rfl))), ?_⟩
    walk_at "rd"
    exact k
def sp_reqT (K : PySem.W.Frag) : Sp := fun vs H Q _ => ∃ (v : V) (r : RowM) (n : Int), vs = [v, .int n] ∧ RowA K H v r ∧ 1 ≤ r.pace ∧ r.pace ≤ 10000000000 ∧ 0 ≤ n ∧ n ≤ LW ∧ Q (.int (reqM r n)) H
theorem sc_reqT : FnScope ["row", "number"] ["row", "number"] (defScope s_reqT) := ⟨rfl, rfl, rfl, by decide +kernel, rfl, by decide +kernel, by decide +kernel⟩
theorem ok_reqT (T : Tx K mg) : FK P w K mg base 2 (He.ga K "request_time") ["row", "number"] (sp_reqT K) := by
  refine fk_of T.f_reqT sc_reqT (fun vs H Q E h => ?_) (fun _ _ _ _ _ _ us hl => match us, hl with | [_, _], _ => rfl) (fun cdv A outer s H vs Q E hr h => ?_)
  · obtain ⟨v, r, n, rfl, ⟨x, dx, l, us, rfl, hx, hl, hp⟩, p1, p2, n0, n1, k⟩ := h
    rfl
  · obtain ⟨v, r, n, rfl, ⟨x, dx, l, us, rfl, hx, hl, hp⟩, p1, p2, n0, n1, k⟩ := h
    refine ⟨_, (pss_cons (ps_if (PW.pt (pw_or (pt_not (pt_val (pe_callF (ok_isInt T) (hr.mono (by decide)) T.g_isInt (pa_cons (pv 1) pa_nil)))) (pw_or1 (pt_cmpR op_lt (pv 1) (pe_int) (nomark _))))) (pss_one (ps_never)) pss_nil)
      (pss_one (ps_ret (pe_op op_add (pe_fld (pv 0) rfl) (pe_op op_mulW (pv 1) (pe_fld (pv 0) rfl)))))), ?_⟩
    have lw := LW_LB
    have lb := LW_big
    walk_at "rd"
    rw [decide_eq_false (by omega)]
    walk_at "rd"
    exact k
def sp_firR (K : PySem.W.Frag) : Sp := fun vs H Q _ => ∃ (v : V) (r : RowM) (t : Int), vs = [v, .int t] ∧ RowA K H v r ∧ RowOk r ∧ 0 ≤ t ∧ t ≤ BB ∧ Q (.int (firR r t)) H
theorem sc_firR : FnScope ["row", "time"] ["row", "time"] (defScope s_firR) := ⟨rfl, rfl, rfl, by decide +kernel, rfl, by decide +kernel, by decide +kernel⟩
theorem ok_firR (T : Tx K mg) : FK P w K mg base 3 (He.ga K "first_request") ["row", "time"] (sp_firR K) := by
  refine fk_of T.f_firR sc_firR (fun vs H Q E h => ?_) (fun _ _ _ _ _ _ us hl => match us, hl with | [_, _], _ => rfl) (fun cdv A outer s H vs Q E hr h => ?_)
  · obtain ⟨v, r, t, rfl, ⟨x, dx, l, us, rfl, hx, hl, hp⟩, ok, t0, tb, k⟩ := h
    rfl
  · obtain ⟨v, r, t, rfl, ⟨x, dx, l, us, rfl, hx, hl, hp⟩, ok, t0, tb, k⟩ := h
    refine ⟨_, (pss_cons (ps_expr (pe_callF (ok_chkT T) (hr.mono (by decide)) T.g_chkT (pa_cons (pv 1) pa_nil)))
      (pss_one (ps_ret (pe_callB (call_max2 rfl) (by rfl) T.b_max b_max (pa_cons (pe_int) (pa_cons (pe_op op_fdivW (pe_callF (ok_rup T) (hr.mono (by decide)) T.g_rup (pa_cons (pe_op op_sub (pv 1) (pe_fld (pv 0) rfl)) (pa_cons (pe_fld (pv 0) rfl) pa_nil))) (pe_fld (pv 0) rfl)) pa_nil)))))), ?_⟩
    have lw := LW_LB
    have lb := LW_big
    have bw := BB_LW1
    have bb := BB_big
    have o2 := ok.p1
    have o3 := ok.p2
    have o4 := ok.s1
    have o5 := ok.s2
    walk_at "rd"
    refine ⟨t0, ?_⟩
    walk_at "rd"
    refine ⟨by omega, by omega, by omega, ?_⟩
    walk_at "rd"
    exact k
end

section
variable {P : Program} {w : World} {K : PySem.W.Frag} {mg : Str → Option Value} {base : Heap}
/-! ### trains, one by one -/
theorem vT {i j : Int} (h : i = j) : decide (V.int i = V.int j) = true := decide_eq_true (by rw [h])
theorem vF {i j : Int} (h : i ≠ j) : decide (V.int i = V.int j) = false := decide_eq_false fun q => h (by injection q)
theorem sl1 : 1 ≤ sizeLine := by decide
theorem sl2 : 2 ≤ sizeLine := by decide
theorem sl3 : 3 ≤ sizeLine := by decide
def cD : Option Int → PyData
  | none => .none
  | some c => .int c
def dTr (t : Tr) : PyData := .tuple [.int t.s, .int t.d, cD t.c]
theorem cV_dp {H : Hp} (c : Option Int) : Dp K H (cV c) (cD c) := by
  cases c with
  | none => exact .non
  | some c => exact .int c
theorem TrV.dp {H : Hp} {v : V} {t : Tr} (h : TrV K H v t) : Dp K H v (dTr t) := by
  obtain ⟨a, rfl, ha⟩ := h
  exact .tup (SqT.of ha) (.cons (.int _) (.cons (.int _) (.cons (cV_dp _) .nil)))
theorem TrVs.dp {H : Hp} : ∀ {vs : List V} {ts : List Tr}, TrVs K H vs ts → DpAll K H vs (ts.map dTr)
  | _, _, .nil => .nil
  | _, _, .cons h t => .cons (TrV.dp h) (TrVs.dp t)
theorem cD_ok (c : Option Int) : (cD c).canLay0 = true ∧ (cD c).depth = 0 ∧ PyData.eqv (cD c) (cD c) = true := by
  cases c with
  | none => exact ⟨rfl, rfl, rfl⟩
  | some c => exact ⟨rfl, rfl, by show (c == c) = true; exact beq_self_eq_true c⟩
theorem dTr_ok (t : Tr) : (dTr t).canLay0 = true ∧ (dTr t).depth = 1 ∧ PyData.eqv (dTr t) (dTr t) = true := by
  obtain ⟨h1, h2, h3⟩ := cD_ok t.c
  refine ⟨?_, ?_, ?_⟩
  · show (true && (true && ((cD t.c).canLay0 && true))) = true
    rw [h1] <;> rfl
  · show max 0 (max 0 (max (cD t.c).depth 0)) + 1 = 1
    rw [h2] <;> rfl
  · show ((t.s == t.s) && ((t.d == t.d) && (PyData.eqv (cD t.c) (cD t.c) && true))) = true
    rw [h3, beq_self_eq_true, beq_self_eq_true] <;> rfl
theorem dTrs_ok : ∀ ts : List Tr, PyData.canLayAll0 (ts.map dTr) = true ∧ PyData.depthAll (ts.map dTr) ≤ 1 ∧ PyData.eqvAll (ts.map dTr) (ts.map dTr) = true
  | [] => ⟨rfl, Nat.zero_le _, rfl⟩
  | t :: r => by
    obtain ⟨h1, h2, h3⟩ := dTr_ok t
    obtain ⟨i1, i2, i3⟩ := dTrs_ok r
    refine ⟨?_, ?_, ?_⟩
    · show ((dTr t).canLay0 && PyData.canLayAll0 (r.map dTr)) = true
      rw [h1, i1] <;> rfl
    · show max (dTr t).depth (PyData.depthAll (r.map dTr)) ≤ 1
      rw [h2]
      exact Nat.max_le.mpr ⟨Nat.le_refl _, i2⟩
    · show (PyData.eqv (dTr t) (dTr t) && PyData.eqvAll (r.map dTr) (r.map dTr)) = true
      rw [h3, i3] <;> rfl
theorem dLs_shaped (ts : List Tr) : SeqAt.shaped (.list (ts.map dTr)) = true := by
  obtain ⟨i1, i2, i3⟩ := dTrs_ok ts
  show (PyData.canLayAll0 (ts.map dTr) && decide (PyData.depthAll (ts.map dTr) + 1 ≤ 64)) = true
  rw [i1, decide_eq_true (by omega)] <;> rfl
theorem LsA.dp {H : Hp} {l : Addr} {ts : List Tr} (h : LsA K H l ts) : Dp K H (.ref l) (.list (ts.map dTr)) := by
  obtain ⟨vs, h1, h2⟩ := h
  exact .lst (SqL.of h1) (TrVs.dp h2)
theorem cut_init (pre : List V) (u : V) : cutV (pre ++ [u]) none (some (-1)) = pre := by
  unfold cutV
  rw [List.length_append, List.length_singleton]
  have e1 : HT.sIx (pre.length + 1) 0 none = 0 := rfl
  have e2 : HT.sIx (pre.length + 1) (pre.length + 1) (some (-1)) = pre.length := by
    show (if (-1 : Int) < 0 then ((-1 : Int) + ((pre.length + 1 : Nat) : Int)).toNat else min (-1 : Int).toNat (pre.length + 1)) = pre.length
    rw [if_pos (by decide)]
    omega
  rw [e1, e2, List.drop_zero, Nat.sub_zero, List.take_left']
  rfl
theorem cut_last (pre : List V) (u : V) : cutV (pre ++ [u]) (some (-1)) none = [u] := by
  unfold cutV
  rw [List.length_append, List.length_singleton]
  have e1 : HT.sIx (pre.length + 1) (pre.length + 1) none = pre.length + 1 := rfl
  have e2 : HT.sIx (pre.length + 1) 0 (some (-1)) = pre.length := by
    show (if (-1 : Int) < 0 then ((-1 : Int) + ((pre.length + 1 : Nat) : Int)).toNat else min (-1 : Int).toNat (pre.length + 1)) = pre.length
    rw [if_pos (by decide)]
    omega
  rw [e1, e2, List.drop_left']
  · rw [show pre.length + 1 - pre.length = 1 by omega]
    rfl
  · rfl
theorem cut_nil1 : cutV [] none (some (-1)) = [] := rfl
theorem cut_nil2 : cutV [] (some (-1)) none = [] := rfl
theorem snoc_of {α : Type} (l : List α) : l = [] ∨ ∃ pre u, l = pre ++ [u] := by
  cases h : l.getLast? with
  | none => exact .inl (List.getLast?_eq_none_iff.mp h)
  | some u => exact .inr ⟨l.dropLast, u, (getLast_idx h).2.2⟩
/-- a train as the defs want it -/
structure WT (t : Tr) : Prop where
  o : OkT t
  b : Bd LW t
theorem WT.c {t : Tr} {c : Int} (h : WT t) (hc : t.c = some c) : 1 ≤ c ∧ c ≤ LW + 1 := ⟨h.o.c1 c hc, h.b.cnt h.o hc⟩
def sp_isTr (K : PySem.W.Frag) : Sp := fun vs H Q _ => ∃ (v : V) (t : Tr), vs = [v] ∧ TrV K H v t ∧ OkT t ∧ Q (.bl true) H
theorem sc_isTr : FnScope ["value"] ["value"] (defScope s_isTr) := ⟨rfl, rfl, rfl, by decide +kernel, rfl, by decide +kernel, by decide +kernel⟩
theorem ok_isTr (T : Tx K mg) : FK P w K mg base 2 (He.ga K "is_train") ["value"] (sp_isTr K) := by
  refine fk_of T.f_isTr sc_isTr (fun vs H Q E h => ?_) (fun _ _ _ _ _ _ us hl => match us, hl with | [_], _ => rfl) (fun cdv A outer s H vs Q E hr h => ?_)
  · obtain ⟨v, ⟨s, d, c⟩, rfl, ⟨a, rfl, ha⟩, o, k⟩ := h
    rfl
  · obtain ⟨v, ⟨s, d, c⟩, rfl, ⟨a, rfl, ha⟩, o, k⟩ := h
    refine ⟨_, (pss_cons (ps_if (PW.pt (pw_or (pt_not (pt_val (pe_isi T.b_isinstance (pa_cons (pv 0) (pa_cons (pe_tyN T.b_tuple b_tuple) pa_nil))))) (pw_or (pt_cmpR op_ne (pe_callB call_len_seq (by rfl) T.b_len b_len (pa_cons (pv 0) pa_nil)) (pe_int) (nomark _)) (pw_or (pt_not (pt_val (pe_callF (ok_isInt T) (hr.mono (by decide)) T.g_isInt (pa_cons (pe_ix ix_tup (pv 0) (pe_int) (fun _ _ => rfl)) pa_nil)))) (pw_or1 (pt_not (pt_val (pe_callF (ok_isInt T) (hr.mono (by decide)) T.g_isInt (pa_cons (pe_ix ix_tup (pv 0) (pe_int) (fun _ _ => rfl)) pa_nil))))))))) (pss_one (ps_ret (pe_bl))) pss_nil)
      (pss_cons (ps_if (PW.pt (pw_or (pt_cmpR op_lt (pe_ix ix_tup (pv 0) (pe_int) (fun _ _ => rfl)) (pe_int) (nomark _)) (pw_or1 (pt_cmpR op_lt (pe_ix ix_tup (pv 0) (pe_int) (fun _ _ => rfl)) (pe_int) (nomark _))))) (pss_one (ps_ret (pe_bl))) pss_nil)
      (pss_one (ps_ret ((pe_or (pe_cmpR op_isN (pe_ix ix_tup (pv 0) (pe_int) (fun _ _ => rfl)) (pe_non) (nomark _)) (pe_one ((pe_and (pe_callF (ok_isInt T) (hr.mono (by decide)) T.g_isInt (pa_cons (pe_ix ix_tup (pv 0) (pe_int) (fun _ _ => rfl)) pa_nil)) (pe_one (pe_cmpR op_ge (pe_ix ix_tup (pv 0) (pe_int) (fun _ _ => rfl)) (pe_int) (nomark _)))))))))))), ?_⟩
    have s0 : 0 ≤ s := o.s0
    have d1 : 1 ≤ d := o.d1
    have ha : H a = some (.tup [.int s, .int d, cV c]) := ha
    cases c with
    | none =>
      have ha : H a = some (.tup [.int s, .int d, .non]) := ha
      walk_at "rd"
      rw [decide_eq_false (show ¬ s < 0 by omega)]
      walk_at "rd"
      rw [decide_eq_false (show ¬ d < 1 by omega)]
      walk_at "rd"
      exact k
    | some c =>
      have c1 := o.c1 c rfl
      have ha : H a = some (.tup [.int s, .int d, .int c]) := ha
      walk_at "rd"
      rw [decide_eq_false (show ¬ s < 0 by omega)]
      walk_at "rd"
      rw [decide_eq_false (show ¬ d < 1 by omega)]
      walk_at "rd"
      show Q (.bl (decide (1 ≤ c))) H
      rw [decide_eq_true c1]
      exact k
def sp_lastO (K : PySem.W.Frag) : Sp := fun vs H Q _ => ∃ (v : V) (t : Tr), vs = [v] ∧ TrV K H v t ∧ WT t ∧ t.c ≠ none ∧ Q (.int (lastOf t)) H
theorem sc_lastO : FnScope ["train"] ["train"] (defScope s_lastO) := ⟨rfl, rfl, rfl, by decide +kernel, rfl, by decide +kernel, by decide +kernel⟩
theorem ok_lastO (T : Tx K mg) : FK P w K mg base 1 (He.ga K "last_of") ["train"] (sp_lastO K) := by
  refine fk_of T.f_lastO sc_lastO (fun vs H Q E h => ?_) (fun _ _ _ _ _ _ us hl => match us, hl with | [_], _ => rfl) (fun cdv A outer s H vs Q E hr h => ?_)
  · obtain ⟨v, ⟨s, d, c⟩, rfl, ⟨a, rfl, ha⟩, wt, hn, k⟩ := h
    rfl
  · obtain ⟨v, ⟨s, d, c⟩, rfl, ⟨a, rfl, ha⟩, wt, hn, k⟩ := h
    refine ⟨_, (pss_one (ps_ret (pe_op op_add (pe_ix ix_tup (pv 0) (pe_int) (fun _ _ => rfl)) (pe_op op_mulW (pe_ix ix_tup (pv 0) (pe_int) (fun _ _ => rfl)) (pe_op op_sub (pe_ix ix_tup (pv 0) (pe_int) (fun _ _ => rfl)) (pe_int)))))), ?_⟩
    have lw := LW_LB
    have lb := LW_big
    cases c with
    | none => exact absurd rfl hn
    | some c =>
      obtain ⟨c1, c2⟩ := wt.c rfl
      have d1 : 1 ≤ d := wt.o.d1
      have d2 : d ≤ LW := wt.b.d
      have ha : H a = some (.tup [.int s, .int d, .int c]) := ha
      walk_at "rd"
      exact k
structure WTs (ts : List Tr) : Prop where
  o : Ord ts
  b : BdL LW ts
theorem WTs.at {ts : List Tr} (h : WTs ts) {t : Tr} (ht : t ∈ ts) : WT t := ⟨h.o.all t ht, h.b t ht⟩
theorem ord_adj : ∀ {ts : List Tr} {i : Nat} {a b : Tr}, Ord ts → ts[i]? = some a → ts[i + 1]? = some b → a.c ≠ none ∧ lastOf a < b.s
  | [], i, a, b, _, h, _ => by simp at h
  | [t], i, a, b, _, h1, h2 => by simp at h2
  | x :: y :: r, 0, a, b, h, h1, h2 => by
    have h1 := Option.some.inj h1
    have h2 := Option.some.inj h2
    subst h1 h2
    exact ⟨h.2.1, h.2.2.1⟩
  | x :: y :: r, i + 1, a, b, h, h1, h2 => ord_adj (ts := y :: r) (i := i) h.2.2.2 (by simpa using h1) (by simpa using h2)
def sp_chkTr (K : PySem.W.Frag) : Sp := fun vs H Q _ => ∃ (l : Addr) (ts : List Tr), vs = [.ref l] ∧ LsA K H l ts ∧ WTs ts ∧ ts.length ≤ 1000 ∧ ∀ H', Same H H' → Q .non H'
theorem sc_chkTr : FnScope ["trains", "at", "train"] ["trains"] (defScope s_chkTr) := ⟨rfl, rfl, rfl, by decide +kernel, rfl, by decide +kernel, by decide +kernel⟩
theorem ok_chkTr (T : Tx K mg) : FK P w K mg base 3 (He.ga K "check_trains") ["trains"] (sp_chkTr K) := by
  refine fk_of T.f_chkTr sc_chkTr (fun vs H Q E h => ?_) (fun _ _ _ _ _ _ us hl => match us, hl with | [_], _ => rfl) (fun cdv A outer s H vs Q E hr h => ?_)
  · obtain ⟨l, ts, rfl, ⟨us, hl, hp⟩, wt, len, k⟩ := h
    rfl
  · obtain ⟨l, ts, rfl, ⟨us, hl, hp⟩, wt, len, k⟩ := h
    obtain ⟨_, t_MOST_TRAINS⟩ := T.i_MOST_TRAINS
    refine ⟨_, (pss_cons (ps_if (PW.pt (pw_or (pt_not (pt_val (pe_isi T.b_isinstance (pa_cons (pv 0) (pa_cons (pe_tyN T.b_list b_list) pa_nil))))) (pw_or1 (pt_cmpR op_gt (pe_callB call_len_seq (by rfl) T.b_len b_len (pa_cons (pv 0) pa_nil)) (pe_glob (v := .int 1000) (by rfl) t_MOST_TRAINS ⟨_, rfl⟩) (nomark _))))) (pss_one (ps_never)) pss_nil)
      (pss_one (ps_for PassesOwn.never rfl (pi_enum (by rfl) T.b_enumerate (pa_cons (pv 0) pa_nil)) (pg_tup rfl (pgs_cons (pg_name (i := 1) sc_chkTr.nd rfl (Or.inl rfl)) (pgs_cons (pg_name (i := 2) sc_chkTr.nd rfl (Or.inl rfl)) pgs_nil))) (pss_cons (ps_if (pt_not (pt_val (pe_callF (ok_isTr T) (hr.mono (by decide)) T.g_isTr (pa_cons (pv 2) pa_nil)))) (pss_one (ps_never)) pss_nil)
        (pss_one (ps_if (PW.pt (pw_and (pt_cmpR op_gt (pv 1) (pe_int) (nomark _)) (pw_and1 (PW.pt (pw_or (pt_cmpR op_isN (pe_ix ix_tup (pe_ix ix_list (pv 0) (pe_op op_sub (pv 1) (pe_int)) (fun _ _ => rfl)) (pe_int) (fun _ _ => rfl)) (pe_non) (nomark _)) (pw_or1 (pt_cmpR op_ge (pe_callF (ok_lastO T) (hr.mono (by decide)) T.g_lastO (pa_cons (pe_ix ix_list (pv 0) (pe_op op_sub (pv 1) (pe_int)) (fun _ _ => rfl)) pa_nil)) (pe_ix ix_tup (pv 2) (pe_int) (fun _ _ => rfl)) (nomark _)))))))) (pss_one (ps_never)) pss_nil)))))), ?_⟩
    walk_at "rd"
    have e : us.length = ts.length := pLen hp
    rw [decide_eq_false (by omega)]
    walk_at "rd"
    refine ⟨_, _, rfl, SqL.of hl, ?_⟩
    refine for_it walk_enum (fun i σ H' => Same H H' ∧ ∃ x1 x2, σ = [some (.ref l), x1, x2]) ⟨Same.refl H, _, _, rfl⟩ (fun i σ H' _ h => SqL.of (h.1 _ _ hl)) ?_ (fun σ H' h => k H' h.1)
    rintro i x σ H1 H2 hi ⟨s1, x1, x2, rfl⟩ ⟨T, y, z, rfl, hT, rfl, hy, hz⟩
    cases hy
    obtain ⟨t, h1, h2⟩ := pAt hp hz
    have s2 := s1.trans (Same.new (o := .tup [.int i, z]) hT)
    refine ⟨_, _, rfl, SqT.of upd_same, rfl, _, _, rfl, _, _, rfl, rfl, ?_⟩
    refine ⟨_, rfl, _, t, rfl, h2.mono s2, wt.o.all t (List.mem_of_getElem? h1), ?_⟩
    walk_at "rd"
    by_cases i0 : i = 0
    · rw [decide_eq_false (by omega)]
      walk_at "rd"
      exact ⟨s2, _, _, rfl⟩
    · rw [decide_eq_true (by omega)]
      have ip : i - 1 < us.length := by omega
      obtain ⟨a, ha, ta⟩ := pAt hp (List.getElem?_eq_getElem ip)
      obtain ⟨q1, q2⟩ := ord_adj (i := i - 1) wt.o ha (by rw [show i - 1 + 1 = i by omega]; exact h1)
      have ix : atI us ((i : Int) - 1) = some us[i - 1] := by
        rw [show (i : Int) - 1 = ((i - 1 : Nat) : Int) by omega]
        exact atI_nat (List.getElem?_eq_getElem ip)
      have hl2 := s2 _ _ hl
      have wa := wt.at (List.mem_of_getElem? ha)
      obtain ⟨b, eb, hb⟩ := TrV.mono s2 ta
      obtain ⟨b2, eb2, hb2⟩ := h2.mono s2
      subst eb2
      obtain ⟨c, hc⟩ : ∃ c, a.c = some c := by
        cases hc : a.c with
        | none => exact absurd hc q1
        | some c => exact ⟨c, rfl⟩
      rw [hc] at hb
      rw [eb] at ix
      walk_at "rd"
      refine ⟨_, a, rfl, ⟨b, rfl, by rw [hc]; exact hb⟩, wa, q1, ?_⟩
      walk_at "rd"
      rw [decide_eq_false (by omega)]
      walk_at "rd"
      exact ⟨s2, _, _, rfl⟩
def sp_woF (K : PySem.W.Frag) : Sp := fun vs H Q _ => ∃ (v : V) (t : Tr), vs = [v] ∧ TrV K H v t ∧ ∀ (H' : Hp) (l : Addr), Same H H' → H l = none → LsA K H' l (woFirst t) → Q (.ref l) H'
theorem sc_woF : FnScope ["train", "start", "step", "count"] ["train"] (defScope s_woF) := ⟨rfl, rfl, rfl, by decide +kernel, rfl, by decide +kernel, by decide +kernel⟩
theorem ok_woF (T : Tx K mg) : FK P w K mg base 1 (He.ga K "without_first") ["train"] (sp_woF K) := by
  refine fk_of T.f_woF sc_woF (fun vs H Q E h => ?_) (fun _ _ _ _ _ _ us hl => match us, hl with | [_], _ => rfl) (fun cdv A outer s H vs Q E hr h => ?_)
  · obtain ⟨v, ⟨s, d, c⟩, rfl, ⟨a, rfl, ha⟩, k⟩ := h
    rfl
  · obtain ⟨v, ⟨s, d, c⟩, rfl, ⟨a, rfl, ha⟩, k⟩ := h
    refine ⟨_, (pss_cons (ps_asg (pv 0) (pg_tup rfl (pgs_cons (pg_name (i := 1) sc_woF.nd rfl (Or.inl rfl)) (pgs_cons (pg_name (i := 2) sc_woF.nd rfl (Or.inl rfl)) (pgs_cons (pg_name (i := 3) sc_woF.nd rfl (Or.inl rfl)) pgs_nil)))))
      (pss_cons (ps_if (pt_cmpR op_eq (pv 3) (pe_int) (nomark _)) (pss_one (ps_ret (pe_lst pa_nil))) pss_nil)
      (pss_one (ps_ret (pe_lst (pa_cons (pe_tup (pa_cons (pe_op op_add (pv 1) (pv 2)) (pa_cons (pe_ifExp (pt_cmpR op_ne (pv 3) (pe_int) (nomark _)) (pv 2) (pe_int)) (pa_cons (pe_ifExp (pt_cmpR op_isN (pv 3) (pe_non) (nomark _)) (pe_non) (pe_op op_sub (pv 3) (pe_int))) pa_nil)))) pa_nil)))))), ?_⟩
    have mk1 : ∀ (t : Tr), woFirst ⟨s, d, c⟩ = [t] → ∀ p l, H p = none → upd H p (.tup [.int t.s, .int t.d, cV t.c]) l = none → Q (.ref l) (upd (upd H p (.tup [.int t.s, .int t.d, cV t.c])) l (.lst [.ref p])) := fun t e p l hp hl => by
      have npl : p ≠ l := ne_of_none upd_same hl
      have hl0 : H l = none := by rw [upd_ne npl.symm] at hl; exact hl
      refine k _ l ((Same.new hp).trans (Same.new hl)) hl0 ?_
      rw [e]
      exact ⟨_, upd_same, .cons ⟨p, rfl, by rw [upd_ne npl]; exact upd_same⟩ .nil⟩
    cases c with
    | none =>
      have ha : H a = some (.tup [.int s, .int d, .non]) := ha
      walk_at "rd"
      refine iteT ?_
      refine ⟨sl3, fun p hp => ⟨sl1, fun l hl => ?_⟩⟩
      exact mk1 ⟨s + d, d, none⟩ rfl p l hp hl
    | some c =>
      have ha : H a = some (.tup [.int s, .int d, .int c]) := ha
      walk_at "rd"
      by_cases c1 : c = 1
      · rw [vT c1]
        walk_at "rd"
        refine ⟨Nat.zero_le _, fun l hl => k _ l (Same.new hl) hl ⟨[], upd_same, ?_⟩⟩
        have e : woFirst ⟨s, d, some c⟩ = [] := by unfold woFirst; rw [if_pos (by show some c = some 1; rw [c1])]
        rw [e]
        exact .nil
      · rw [vF c1]
        walk_at "rd"
        by_cases c2 : c = 2
        · rw [vT c2]
          walk_at "rd"
          refine ⟨sl3, fun p hp => ⟨sl1, fun l hl => ?_⟩⟩
          refine mk1 ⟨s + d, 1, some (c - 1)⟩ ?_ p l hp hl
          unfold woFirst
          rw [if_neg (by show ¬ some c = some 1; simpa using c1)]
          show [(⟨s + d, if some c = some 2 then 1 else d, (some c).map (· - 1)⟩ : Tr)] = _
          rw [if_pos (by rw [c2])]
          rfl
        · rw [vF c2]
          walk_at "rd"
          refine ⟨sl3, fun p hp => ⟨sl1, fun l hl => ?_⟩⟩
          refine mk1 ⟨s + d, d, some (c - 1)⟩ ?_ p l hp hl
          unfold woFirst
          rw [if_neg (by show ¬ some c = some 1; simpa using c1)]
          show [(⟨s + d, if some c = some 2 then 1 else d, (some c).map (· - 1)⟩ : Tr)] = _
          rw [if_neg (by simpa using c2)]
          rfl
end

section
variable {P : Program} {w : World} {K : PySem.W.Frag} {mg : Str → Option Value} {base : Heap}
theorem rd_nrm {i j : Nat} {σ : L2.St} {H : Hp} {Q : VK} {d : Int} {c : Option Int} (h3 : σ[i]? = some (some (.int d))) (h4 : σ[j]? = some (some (cV c))) (k : Q (.int (if c = some 1 then 1 else d)) H) :
    tIf (tTest (tOp rEq (tVar j) (tC (.int 1)))) (tC (.int 1)) (tVar i) σ H Q := by
  refine ⟨_, h4, ?_⟩
  cases c with
  | none =>
    refine ⟨rfl, _, rfl, ?_⟩
    refine iteF ?_
    exact ⟨_, h3, k⟩
  | some c =>
    refine ⟨rfl, _, rfl, ?_⟩
    by_cases h : c = 1
    · rw [show decide (cV (some c) = V.int 1) = true from vT h]
      refine iteT ?_
      rw [if_pos (by rw [h])] at k
      exact k
    · rw [show decide (cV (some c) = V.int 1) = false from vF h]
      refine iteF ?_
      rw [if_neg (by simpa using h)] at k
      exact ⟨_, h3, k⟩
theorem rd_isN {j : Nat} {σ : L2.St} {H : Hp} {tb : TE} {Q : VK} {c : Option Int} {f : Int → Int} (h4 : σ[j]? = some (some (cV c))) (h5 : ∀ n, c = some n → tb σ H Q = Q (.int (f n)) H ∨ (Q (.int (f n)) H → tb σ H Q)) (k : Q (cV (c.map f)) H) :
    tIf (tTest (tOp (fun x y H Q => y = .non ∧ Q (.bl (decide (x = .non))) H) (tVar j) (tC .non))) (tC .non) tb σ H Q := by
  refine ⟨_, h4, rfl, _, rfl, ?_⟩
  cases c with
  | none => exact iteT k
  | some c =>
    refine iteF ?_
    rcases h5 c rfl with e | e
    · exact e ▸ k
    · exact e k
theorem cV_T {c : Option Int} (h : c = some 1) : decide (cV c = V.int 1) = true := by
  subst h
  rfl
theorem cV_F {c : Option Int} (h : c ≠ some 1) : decide (cV c = V.int 1) = false := by
  cases c with
  | none => rfl
  | some c => exact vF fun q => h (by rw [q])
theorem rd_ne1 {j : Nat} {σ : L2.St} {H : Hp} {Q : Bool → Hp → Prop} {c : Option Int} (h4 : σ[j]? = some (some (cV c))) (k : Q (decide (c ≠ some 1)) H) :
    tTest (tOp rNe (tVar j) (tC (.int 1))) σ H Q := by
  refine ⟨_, h4, ?_⟩
  cases c with
  | none => exact ⟨rfl, _, rfl, k⟩
  | some c =>
    refine ⟨rfl, _, rfl, ?_⟩
    have e : (!decide (cV (some c) = V.int 1)) = decide (some c ≠ some 1) := by
      by_cases h : c = 1
      · rw [show decide (cV (some c) = V.int 1) = true from vT h, decide_eq_false (by rw [h]; simp)]
        rfl
      · rw [show decide (cV (some c) = V.int 1) = false from vF h, decide_eq_true (by simpa using h)]
        rfl
    rw [← e] at k
    exact k
theorem one_more {H : Hp} {p : Addr} {t : Tr} (h : H p = some (.tup [.int t.s, .int t.d, cV t.c])) : TrV K H (.ref p) t := ⟨p, rfl, h⟩
def sp_join (K : PySem.W.Frag) : Sp := fun vs H Q _ => ∃ (f : Addr) (v : V) (o : Option Tr) (t : Tr) (fs : List V), vs = [.ref f, v] ∧ H f = some (.lst fs) ∧ TrVs K H fs o.toList ∧ TrV K H v t ∧ WT t ∧ (∀ l, o = some l → WT l ∧ l.c ≠ none) ∧
  ∀ (H' : Hp) (l' : Addr), Same H H' → H l' = none → LsA K H' l' (joinM o t) → Q (.ref l') H'
theorem sc_join : FnScope ["found", "train", "start", "step", "count", "one", "gap", "many", "delta"] ["found", "train"] (defScope s_join) := ⟨rfl, rfl, rfl, by decide +kernel, rfl, by decide +kernel, by decide +kernel⟩
theorem ok_join (T : Tx K mg) : FK P w K mg base 2 (He.ga K "joined") ["found", "train"] (sp_join K) := by
  refine fk_of T.f_join sc_join (fun vs H Q E h => ?_) (fun _ _ _ _ _ _ us hl => match us, hl with | [_, _], _ => rfl) (fun cdv A outer s H vs Q E hr h => ?_)
  · obtain ⟨f, v, o, t, fs, rfl, hf, hfs, ⟨a, rfl, ha⟩, wt, wl, k⟩ := h
    rfl
  · obtain ⟨f, v, o, t, fs, rfl, hf, hfs, ⟨a, rfl, ha⟩, wt, wl, k⟩ := h
    refine ⟨_, (pss_cons (ps_asg (pv 1) (pg_tup rfl (pgs_cons (pg_name (i := 2) sc_join.nd rfl (Or.inl rfl)) (pgs_cons (pg_name (i := 3) sc_join.nd rfl (Or.inl rfl)) (pgs_cons (pg_name (i := 4) sc_join.nd rfl (Or.inl rfl)) pgs_nil)))))
      (pss_cons (ps_if (pt_cmpR (op_eqD hr.units) (pv 0) (pe_lst pa_nil) (nomark _)) (pss_one (ps_ret (pe_lst (pa_cons (pe_tup (pa_cons (pv 2) (pa_cons (pe_ifExp (pt_cmpR op_eq (pv 4) (pe_int) (nomark _)) (pe_int) (pv 3)) (pa_cons (pv 4) pa_nil)))) pa_nil)))) pss_nil)
      (pss_cons (ps_asg (pe_ix ix_list (pv 0) (pe_un un_neg (pe_int)) (fun _ _ => rfl)) (pg_tup rfl (pgs_cons (pg_name (i := 5) sc_join.nd rfl (Or.inl rfl)) (pgs_cons (pg_name (i := 6) sc_join.nd rfl (Or.inl rfl)) (pgs_cons (pg_name (i := 7) sc_join.nd rfl (Or.inl rfl)) pgs_nil)))))
      (pss_cons (ps_set (i := 8) sc_join.nd rfl (Or.inl rfl) (pe_op op_sub (pv 2) (pe_callF (ok_lastO T) (hr.mono (by decide)) T.g_lastO (pa_cons (pe_ix ix_list (pv 0) (pe_un un_neg (pe_int)) (fun _ _ => rfl)) pa_nil))))
      (pss_cons (ps_if (PW.pt (pw_and (pt_cmpR op_gt (pv 7) (pe_int) (nomark _)) (pw_and1 (pt_cmpR op_ne (pv 8) (pv 6) (nomark _))))) (pss_one (ps_ret (pe_op op_cat (pv 0) (pe_lst (pa_cons (pe_tup (pa_cons (pv 2) (pa_cons (pe_ifExp (pt_cmpR op_eq (pv 4) (pe_int) (nomark _)) (pe_int) (pv 3)) (pa_cons (pv 4) pa_nil)))) pa_nil))))) pss_nil)
      (pss_cons (ps_if (PW.pt (pw_and (pt_cmpR op_eq (pv 3) (pv 8) (nomark _)) (pw_and1 (pt_cmpR op_ne (pv 4) (pe_int) (nomark _))))) (pss_one (ps_ret (pe_op op_cat (pe_slice sl_list (pv 0) po_none (po_some (pe_un un_neg (pe_int)))) (pe_lst (pa_cons (pe_tup (pa_cons (pv 5) (pa_cons (pv 8) (pa_cons (pe_ifExp (pt_cmpR op_isN (pv 4) (pe_non) (nomark _)) (pe_non) (pe_op op_add (pv 7) (pv 4))) pa_nil)))) pa_nil))))) pss_nil)
      (pss_one (ps_ret (pe_op op_cat (pe_op op_cat (pe_slice sl_list (pv 0) po_none (po_some (pe_un un_neg (pe_int)))) (pe_lst (pa_cons (pe_tup (pa_cons (pv 5) (pa_cons (pv 8) (pa_cons (pe_op op_add (pv 7) (pe_int)) pa_nil)))) pa_nil))) (pe_callF (ok_woF T) (hr.mono (by decide)) T.g_woF (pa_cons (pv 1) pa_nil))))))))))), ?_⟩
    have lw := LW_LB
    have lb := LW_big
    have t1 := wt.o.d1
    have t2 := wt.b.d
    have t3 := wt.o.s0
    have t4 := wt.b.s
    cases o with
    | none =>
      cases hfs
      refine ⟨_, rfl, _, _, rfl, SqT.of ha, rfl, _, _, rfl, _, _, rfl, _, _, rfl, rfl, ?_⟩
      refine ⟨_, rfl, Nat.zero_le _, fun e he => ?_⟩
      have hfe : f ≠ e := ne_of_none hf he
      refine ⟨.list [], .list [], .lst (SqL.of (by rw [upd_ne hfe]; exact hf)) .nil, .lst (SqL.of upd_same) .nil, rfl, rfl, _, rfl, iteT ?_⟩
      refine ⟨_, rfl, ?_⟩
      refine rd_nrm rfl rfl ?_
      refine ⟨_, rfl, sl3, fun p hp => ⟨sl1, fun l hl => ?_⟩⟩
      have npl : p ≠ l := ne_of_none upd_same hl
      have hp0 := hp
      have hl0 : upd H e (.lst []) l = none := by rw [upd_ne npl.symm] at hl; exact hl
      have sm := (Same.new (o := .lst []) he).trans ((Same.new (o := .tup [.int t.s, .int (if t.c = some 1 then 1 else t.d), cV t.c]) hp).trans (Same.new (o := .lst [.ref p]) hl))
      refine k _ l sm ((Same.new (o := .lst []) he).free hl0) ⟨_, upd_same, .cons ?_ .nil⟩
      exact one_more (t := nrm1 t) (by rw [upd_ne npl]; exact upd_same)
    | some l =>
      obtain ⟨wtl, hn⟩ := wl l rfl
      obtain ⟨m, hm⟩ : ∃ m, l.c = some m := by
        cases hc : l.c with
        | none => exact absurd hc hn
        | some m => exact ⟨m, rfl⟩
      obtain ⟨m1, m2⟩ := wtl.c hm
      have l1 := wtl.o.d1
      have l2 := wtl.b.d
      have l3 := wtl.o.s0
      have l4 := wtl.b.s
      cases hfs with
      | cons hu hr =>
      cases hr
      rename_i u
      obtain ⟨b, rfl, hb⟩ := hu
      have hbm : H b = some (.tup [.int l.s, .int l.d, .int m]) := by rw [hb, hm]; rfl
      refine ⟨_, rfl, _, _, rfl, SqT.of ha, rfl, _, _, rfl, _, _, rfl, _, _, rfl, rfl, ?_⟩
      refine ⟨_, rfl, Nat.zero_le _, fun e he => ?_⟩
      have hfe : f ≠ e := ne_of_none hf he
      have se : Same H (upd H e (.lst [])) := Same.new he
      have hf := se _ _ hf
      have ha := se _ _ ha
      have hb := se _ _ hb
      have hbm := se _ _ hbm
      refine ⟨.list [dTr l], .list [], .lst (SqL.of hf) (.cons (TrV.dp (K := K) (one_more hb)) .nil), .lst (SqL.of upd_same) .nil, dLs_shaped [l], rfl, _, rfl, iteF ?_⟩
      generalize upd H e (.lst []) = H1 at *
      refine ⟨_, rfl, _, rfl, _, _, _, _, rfl, rfl, SqL.of hf, rfl, _, _, rfl, SqT.of hbm, rfl, _, _, rfl, _, _, rfl, _, _, rfl, rfl, ?_⟩
      refine ⟨_, rfl, _, rfl, _, rfl, _, _, _, _, rfl, rfl, SqL.of hf, rfl, _, l, rfl, one_more hb, wtl, hn, ?_⟩
      refine ⟨_, _, rfl, rfl, ?_⟩
      -- what is made: a tuple and a list of it, behind the elder ones
      have fin : ∀ (H' : Hp) (l' : Addr) (us : List V), Same H1 H' → H1 l' = none → H' l' = some (.lst us) → TrVs K H' us (joinS l t) → Q (.ref l') H' := fun H' l' us s1 h1 h2 h3 => k H' l' (se.trans s1) (se.free h1) ⟨us, h2, h3⟩
      have gm : l.c.getD 0 = m := by rw [hm]; rfl
      have tv : TrV K H1 (.ref b) l := one_more hb
      have hB : (1 < m ∧ t.s - lastOf l ≠ l.d) ∨ ¬ (1 < m ∧ t.s - lastOf l ≠ l.d) := Classical.em _
      rcases hB with hB | hB
      · walk_at "rd"
        rw [decide_eq_true hB.1]
        walk_at "rd"
        rw [vF hB.2]
        refine ⟨_, rfl, _, rfl, ?_⟩
        refine rd_nrm rfl rfl ?_
        refine ⟨_, rfl, sl3, fun p hp => ⟨sl1, fun z hz => ?_⟩⟩
        have S2 := (Same.new (o := .tup [.int t.s, .int (if t.c = some 1 then 1 else t.d), cV t.c]) hp).trans (Same.new (o := .lst [.ref p]) hz)
        refine ⟨f, z, [.ref b], [.ref p], rfl, rfl, S2 _ _ hf, upd_same, sl2, fun q hq => ?_⟩
        have S3 := S2.trans (Same.new (o := .lst ([.ref b] ++ [.ref p])) hq)
        refine fin _ q _ S3 (S2.free hq) upd_same ?_
        have e : joinS l t = [l, nrm1 t] := if_pos (by rw [gm]; exact hB)
        rw [e]
        have tp : TrV K (upd H1 p (.tup [.int t.s, .int (if t.c = some 1 then 1 else t.d), cV t.c])) (.ref p) (nrm1 t) := ⟨p, rfl, upd_same⟩
        exact .cons (tv.mono S3) (.cons (tp.mono ((Same.new hz).trans (Same.new hq))) .nil)
      · have : decide (1 < m) = false ∨ (decide (1 < m) = true ∧ t.s - lastOf l = l.d) := by
          by_cases q : 1 < m
          · exact .inr ⟨decide_eq_true q, Classical.byContradiction fun z => hB ⟨q, z⟩⟩
          · exact .inl (decide_eq_false q)
        have C1 : (t.d = t.s - lastOf l ∧ t.c ≠ some 1) ∨ ¬ (t.d = t.s - lastOf l ∧ t.c ≠ some 1) := Classical.em _
        have e0 : ∀ r, (if 1 < l.c.getD 0 ∧ t.s - lastOf l ≠ l.d then [l, nrm1 t] else r) = r := fun r => if_neg (by rw [gm]; exact hB)
        rcases this with q1 | ⟨q1, q2⟩
        all_goals
          walk_at "rd"
          rw [q1]
          walk_at "rd"
          try (rw [vT q2]; walk_at "rd")
          rcases C1 with C1 | C1
          · rw [vT C1.1]
            refine rd_ne1 (c := t.c) rfl ?_
            rw [decide_eq_true C1.2]
            refine ⟨_, rfl, _, rfl, _, rfl, f, _, rfl, SqL.of hf, fun g hg => ?_⟩
            rw [show cutV [V.ref b] none (some (-1)) = [] from cut_init [] _]
            have S1 : Same H1 (upd H1 g (.lst [])) := Same.new hg
            refine ⟨_, rfl, _, rfl, ?_⟩
            refine rd_isN (c := t.c) (f := fun n => m + n) rfl (fun n hn => .inr fun k => ⟨_, rfl, _, (by show some (some (cV t.c)) = _; rw [hn]; rfl), _, _, rfl, rfl, k⟩) ?_
            refine ⟨sl3, fun p hp => ⟨sl1, fun z hz => ?_⟩⟩
            have S2 := (Same.new (o := .tup [.int l.s, .int (t.s - lastOf l), cV (t.c.map fun n => m + n)]) hp).trans (Same.new (o := .lst [.ref p]) hz)
            refine ⟨g, z, [], [.ref p], rfl, rfl, S2 _ _ upd_same, upd_same, sl1, fun q hq => ?_⟩
            have S3 := (S1.trans S2).trans (Same.new (o := .lst ([] ++ [.ref p])) hq)
            refine fin _ q _ S3 ((S1.trans S2).free hq) upd_same ?_
            have e : joinS l t = [⟨l.s, t.s - lastOf l, t.c.map (m + ·)⟩] := by
              have e1 : joinS l t = _ := e0 _
              rw [e1, if_pos C1, gm]
            rw [e]
            exact .cons ⟨p, rfl, ((Same.new hz).trans (Same.new hq)) _ _ upd_same⟩ .nil
          · have e : joinS l t = ⟨l.s, t.s - lastOf l, some (m + 1)⟩ :: woFirst t := by
              have e1 : joinS l t = _ := e0 _
              rw [e1, if_neg C1, gm]
            have C2 : t.d ≠ t.s - lastOf l ∨ (t.d = t.s - lastOf l ∧ t.c = some 1) := by
              by_cases q : t.d = t.s - lastOf l
              · exact .inr ⟨q, Classical.byContradiction fun z => C1 ⟨q, z⟩⟩
              · exact .inl q
            rcases C2 with C2 | ⟨C2, C3⟩
            all_goals
              first
              | rw [vF C2]
              | rw [vT C2]
                refine rd_ne1 (c := t.c) rfl ?_
                rw [decide_eq_false (by rw [C3]; simp)]
              refine ⟨_, rfl, _, rfl, _, rfl, f, _, rfl, SqL.of hf, fun g hg => ?_⟩
              rw [show cutV [V.ref b] none (some (-1)) = [] from cut_init [] _]
              have S1 : Same H1 (upd H1 g (.lst [])) := Same.new hg
              refine ⟨_, rfl, _, rfl, _, rfl, _, _, rfl, rfl, sl3, fun p hp => ⟨sl1, fun z hz => ?_⟩⟩
              have S2 := (Same.new (o := .tup [.int l.s, .int (t.s - lastOf l), .int (m + 1)]) hp).trans (Same.new (o := .lst [.ref p]) hz)
              refine ⟨g, z, [], [.ref p], rfl, rfl, S2 _ _ upd_same, upd_same, sl1, fun q hq => ?_⟩
              have S3 := (S1.trans S2).trans (Same.new (o := .lst ([] ++ [.ref p])) hq)
              refine ⟨_, rfl, _, t, rfl, ⟨a, rfl, S3 _ _ ha⟩, fun H2 w s2 hw ⟨us, hu, hus⟩ => ?_⟩
              have wl1 : (woFirst t).length ≤ 1 := by
                unfold woFirst
                split <;> simp
              have ul := pLen hus
              refine ⟨q, w, _, us, rfl, rfl, s2 _ _ upd_same, hu, Nat.le_trans (m := 2) (by simp; omega) sl2, fun y hy => ?_⟩
              have S4 := s2.trans (Same.new (o := .lst (([] ++ [.ref p]) ++ us)) hy)
              refine fin _ y _ (S3.trans S4) (S3.free (s2.free hy)) upd_same ?_
              rw [e]
              exact .cons ⟨p, rfl, S4 _ _ (((Same.new hz).trans (Same.new hq)) _ _ upd_same)⟩ (TrVs.mono (Same.new hy) hus)
end

section
variable {P : Program} {w : World} {K : PySem.W.Frag} {mg : Str → Option Value} {base : Heap}
theorem take_ord : ∀ {ts : List Tr} (n : Nat), Ord ts → Ord (ts.take n)
  | _, 0, _ => trivial
  | [], n + 1, _ => trivial
  | [t], n + 1, h => by
    show Ord (t :: List.take n [])
    rw [List.take_nil]
    exact h
  | a :: b :: r, 1, h => h.1
  | a :: b :: r, n + 2, h => ⟨h.1, h.2.1, h.2.2.1, take_ord (n + 1) h.2.2.2⟩
theorem take_fin : ∀ {ts : List Tr} (n : Nat), Ord ts → n < ts.length → Fin (ts.take n)
  | _, 0, _, _ => fun t ht => by simp at ht
  | [], n + 1, _, h => by simp at h
  | [t], n + 1, _, h => by simp at h
  | a :: b :: r, n + 1, h, hn => fun t ht => by
    rcases List.mem_cons.mp ht with e | e
    · subst e
      exact h.2.1
    · exact take_fin (ts := b :: r) n h.2.2.2 (by simpa using hn) t e
theorem allJ_take {ts : List Tr} {i : Nat} {t : Tr} (h : ts[i]? = some t) : allJ (ts.take (i + 1)) = stepJ (allJ (ts.take i)) t := by
  unfold allJ
  rw [List.take_add_one, h, List.foldl_append]
  rfl
theorem allJ_fin {ts : List Tr} (o : Ord ts) (f : Fin ts) : Fin (allJ ts) := fin_congr (allJ_nf o).ord o (fun x hx => (allJ_mem o x).mp hx) f
theorem pSnoc {α β : Type} {F : α → β → Prop} : ∀ {pre : List α} {u : α} {ts : List β}, Paired F (pre ++ [u]) ts → ∃ tp l, ts = tp ++ [l] ∧ Paired F pre tp ∧ F u l
  | [], u, _, .cons h .nil => ⟨[], _, rfl, .nil, h⟩
  | a :: pre, u, _, .cons h r => by
    obtain ⟨tp, l, e, h1, h2⟩ := pSnoc r
    exact ⟨_ :: tp, l, by rw [e]; rfl, .cons h h1, h2⟩
theorem cut_parts {H : Hp} {us : List V} {ts : List Tr} (h : TrVs K H us ts) : TrVs K H (cutV us none (some (-1))) ts.dropLast ∧ TrVs K H (cutV us (some (-1)) none) ts.getLast?.toList := by
  rcases snoc_of us with e | ⟨pre, u, e⟩
  · subst e
    cases h
    exact ⟨.nil, .nil⟩
  · subst e
    obtain ⟨tp, l, e, h1, h2⟩ := pSnoc h
    subst e
    rw [cut_init, cut_last, List.dropLast_concat, List.getLast?_concat]
    exact ⟨h1, .cons h2 .nil⟩
def LH : Int := 2 ^ 3899
def LQ : Int := 2 ^ 3898
theorem LH_LW : 2 * LH = LW := by decide +kernel
theorem LQ_LH : 2 * LQ = LH := by decide +kernel
theorem LQ_1 : 1000000000000000000000000000000000000 ≤ LQ := by decide +kernel
theorem BB_LQ : 1000000 * BB * BB ≤ LQ := by decide +kernel
theorem slM : 1000000 ≤ sizeLine := by decide
def sp_allJ (K : PySem.W.Frag) : Sp := fun vs H Q _ => ∃ (l : Addr) (ts : List Tr), vs = [.ref l] ∧ LsA K H l ts ∧ Ord ts ∧ BdL LH ts ∧ ts.length ≤ 100000 ∧
  ∀ (H' : Hp) (l' : Addr), Same H H' → H l' = none → LsA K H' l' (allJ ts) → Q (.ref l') H'
theorem sc_allJ : FnScope ["some", "found", "train"] ["some"] (defScope s_allJ) := ⟨rfl, rfl, rfl, by decide +kernel, rfl, by decide +kernel, by decide +kernel⟩
theorem ok_allJ (T : Tx K mg) : FK P w K mg base 3 (He.ga K "all_joined") ["some"] (sp_allJ K) := by
  refine fk_of T.f_allJ sc_allJ (fun vs H Q E h => ?_) (fun _ _ _ _ _ _ us hl => match us, hl with | [_], _ => rfl) (fun cdv A outer s H vs Q E hr h => ?_)
  · obtain ⟨l, ts, rfl, ⟨us, hl, hp⟩, o, b, len, k⟩ := h
    rfl
  · obtain ⟨l, ts, rfl, ⟨us, hl, hp⟩, o, b, len, k⟩ := h
    refine ⟨_, (pss_cons (ps_set (i := 1) sc_allJ.nd rfl (Or.inl rfl) (pe_lst pa_nil))
      (pss_cons (ps_for PassesOwn.never rfl (pi_list (pv 0)) (pg_name (i := 2) sc_allJ.nd rfl (Or.inl rfl)) (pss_one (ps_set (i := 1) sc_allJ.nd rfl (Or.inl rfl) (pe_op op_cat (pe_slice sl_list (pv 1) po_none (po_some (pe_un un_neg (pe_int)))) (pe_callF (ok_join T) (hr.mono (by decide)) T.g_join (pa_cons (pe_slice sl_list (pv 1) (po_some (pe_un un_neg (pe_int))) po_none) (pa_cons (pv 2) pa_nil)))))))
      (pss_one (ps_ret (pv 1))))), ?_⟩
    have e : us.length = ts.length := pLen hp
    have lh := LH_LW
    have lq := LQ_LH
    have l1 := LQ_1
    refine ⟨Nat.zero_le _, fun g hg => ?_⟩
    refine ⟨_, rfl, _, rfl, ⟨_, SqL.of (Same.new hg _ _ hl)⟩, ?_⟩
    refine for_it walk_list (fun i σ H' => Same H H' ∧ ∃ g x2, σ = [some (.ref l), some (.ref g), x2] ∧ H g = none ∧ LsA K H' g (allJ (ts.take i))) ⟨Same.new hg, g, _, rfl, hg, ⟨[], upd_same, .nil⟩⟩ (fun i σ H' _ h => SqL.of (h.1 _ _ hl)) ?_ ?_
    · rintro i x σ H1 H2 hi ⟨s1, g, x2, rfl, hgn, fs, hf, hfs⟩ ⟨rfl, hx⟩
      obtain ⟨t, ht, hv⟩ := pAt hp hx
      have oi := take_ord i o
      have fi := take_fin i o (by omega : i < ts.length)
      have bi : BdL LW (allJ (ts.take i)) := by
        rw [← lh]
        exact allJ_bd (by omega) oi fun t ht => b t (List.mem_of_mem_take ht)
      obtain ⟨c1, c2⟩ := cut_parts hfs
      refine ⟨_, rfl, _, rfl, _, rfl, g, _, rfl, SqL.of hf, fun p hpn => ?_⟩
      have sp := Same.new (o := .lst (cutV fs none (some (-1)))) hpn
      refine ⟨_, rfl, _, rfl, _, rfl, g, _, rfl, SqL.of (sp _ _ hf), fun q hqn => ?_⟩
      have sq := Same.new (o := .lst (cutV fs (some (-1)) none)) hqn
      have s2 := sp.trans sq
      refine ⟨_, rfl, q, x, (allJ (ts.take i)).getLast?, t, _, rfl, upd_same, TrVs.mono s2 c2, (hv.mono s1).mono s2, ⟨o.all t (List.mem_of_getElem? ht), (b t (List.mem_of_getElem? ht)).mono (by omega)⟩, fun z hz => ?_, fun H3 z s3 hz ⟨zs, hz1, hz2⟩ => ?_⟩
      · have zm := List.mem_of_getLast? hz
        exact ⟨⟨(allJ_nf oi).ord.all z zm, bi z zm⟩, allJ_fin oi fi z zm⟩
      · have g1 := pLen c1
        have g2 := pLen hz2
        have g3 := allJ_len oi
        have g4 : (allJ (ts.take (i + 1))).length ≤ (ts.take (i + 1)).length := allJ_len (take_ord _ o)
        rw [allJ_take ht] at g4
        unfold stepJ at g4
        rw [List.length_append, List.length_take] at g4
        have s4 := s2.trans s3
        refine ⟨p, z, _, zs, rfl, rfl, s3 _ _ (sq _ _ upd_same), hz1, Nat.le_trans (m := 100001) (by omega) (Nat.le_trans (by decide) slM), fun y hy => ?_⟩
        have s5 := s4.trans (Same.new (o := .lst (cutV fs none (some (-1)) ++ zs)) hy)
        refine ⟨s1.trans s5, y, _, rfl, s1.free (s4.free hy), _, upd_same, ?_⟩
        rw [allJ_take ht]
        exact pApp (TrVs.mono s5 c1) (TrVs.mono (Same.new hy) hz2)
    · rintro σ H1 ⟨s1, g, x2, rfl, hgn, hf⟩
      refine ⟨_, rfl, k _ g s1 hgn ?_⟩
      rw [e, List.take_length] at hf
      exact hf
/-! ### Trains -/
def TsA (K : PySem.W.Frag) (H : Hp) (p l : Addr) (ts : List Tr) : Prop := (∃ dx, H p = some (.ins (cT K) dx (trF l))) ∧ LsA K H l ts
theorem TsA.mono {H H' : Hp} (e : Same H H') {p l : Addr} {ts : List Tr} (h : TsA K H p l ts) : TsA K H' p l ts := by
  obtain ⟨⟨dx, h1⟩, h2⟩ := h
  exact ⟨⟨dx, e _ _ h1⟩, h2.mono e⟩
theorem TsA.updL {H : Hp} {p l D : Addr} {ys : List V} {o : HO} {ts : List Tr} (h : TsA K H p l ts) (hn : l ≠ D) (hD : H D = some (.lst ys)) : TsA K (upd H D o) p l ts := by
  obtain ⟨⟨dx, h1⟩, h2⟩ := h
  exact ⟨⟨dx, by rw [upd_ne (ne_of h1 hD (by intro q; cases q))]; exact h1⟩, h2.updL hn hD⟩
def sp_trI (K : PySem.W.Frag) : Sp := fun vs H Q _ => ∃ (x dx l : Addr) (ts : List Tr), vs = [.ref x, .ref l] ∧ H x = some (.ins (cT K) dx []) ∧ LsA K H l ts ∧ Ord ts ∧ BdL LH ts ∧ ts.length ≤ 1000 ∧
  ∀ (H' : Hp) (l' : Addr), (∀ b o, b ≠ x → H b = some o → H' b = some o) → H l' = none → H' x = some (.ins (cT K) dx (trF l')) → LsA K H' l' (allJ ts) → Q .non H'
theorem sc_trI : FnScope ["self", "trains"] ["self", "trains"] (defScope s_trI) := ⟨rfl, rfl, rfl, by decide +kernel, rfl, by decide +kernel, by decide +kernel⟩
theorem ok_trI (T : Tx K mg) : FK P w K mg base 4 (He.ma K (He.ga K "Trains") "__init__") ["self", "trains"] (sp_trI K) := by
  refine fk_of T.f_trI sc_trI (fun vs H Q E h => ?_) (fun _ _ _ _ _ _ us hl => match us, hl with | [_, _], _ => rfl) (fun cdv A outer s H vs Q E hr h => ?_)
  · obtain ⟨x, dx, l, ts, rfl, hx, hl, o, b, len, k⟩ := h
    rfl
  · obtain ⟨x, dx, l, ts, rfl, hx, hl, o, b, len, k⟩ := h
    refine ⟨_, (pss_cons (ps_expr (pe_callF (ok_chkTr T) (hr.mono (by decide)) T.g_chkTr (pa_cons (pv 1) pa_nil)))
      (pss_one (ps_fld (pv 0) (pe_callF (ok_allJ T) (hr.mono (by decide)) T.g_allJ (pa_cons (pv 1) pa_nil)) rfl))), ?_⟩
    have lh := LH_LW
    have lq := LQ_LH
    have l1 := LQ_1
    refine ⟨_, rfl, l, ts, rfl, hl, ⟨o, b.mono (by omega)⟩, len, fun H1 s1 => ?_⟩
    refine ⟨_, rfl, l, ts, rfl, hl.mono s1, o, b, by omega, fun H2 l2 s2 hn h2 => ?_⟩
    have s3 := s1.trans s2
    have hx2 := s3 _ _ hx
    have n1 : l2 ≠ x := fun q => by rw [q, s1 _ _ hx] at hn; cases hn
    refine ⟨_, rfl, x, _, dx, _, rfl, hx2, T.clT, T.nT_listed, (by show 0 < 1000; decide), ?_⟩
    refine k _ l2 (fun b o hb e => ?_) (s1.free hn) ?_ ?_
    · rw [upd_ne hb]
      exact s3 _ _ e
    · rw [upd_same, trF_put]
    · obtain ⟨us, u1, u2⟩ := h2
      refine ⟨us, by rw [upd_ne n1]; exact u1, pImp (fun v t ⟨a, e1, e2⟩ => ⟨a, e1, ?_⟩) u2⟩
      rw [upd_ne (ne_of e2 hx2 (by intro q; cases q))]
      exact e2
def sp_trE (K : PySem.W.Frag) : Sp := fun vs H Q _ => ∃ (x y l m : Addr) (ts : List Tr), vs = [.ref x, .ref y] ∧ TsA K H x l ts ∧ TsA K H y m ts ∧ Q (.bl true) H
theorem sc_trE : FnScope ["self", "other"] ["self", "other"] (defScope s_trE) := ⟨rfl, rfl, rfl, by decide +kernel, rfl, by decide +kernel, by decide +kernel⟩
theorem ok_trE (T : Tx K mg) : FK P w K mg base 1 (He.ma K (He.ga K "Trains") "__eq__") ["self", "other"] (sp_trE K) := by
  refine fk_of T.f_trE sc_trE (fun vs H Q E h => ?_) (fun _ _ _ _ _ _ us hl => match us, hl with | [_, _], _ => rfl) (fun cdv A outer s H vs Q E hr h => ?_)
  · obtain ⟨x, y, l, m, ts, rfl, ⟨⟨dx, hx⟩, us, hl, hp⟩, ⟨⟨dy, hy⟩, zs, hm, hq⟩, k⟩ := h
    rfl
  · obtain ⟨x, y, l, m, ts, rfl, ⟨⟨dx, hx⟩, us, hl, hp⟩, ⟨⟨dy, hy⟩, zs, hm, hq⟩, k⟩ := h
    refine ⟨_, (pss_one (ps_ret ((pe_and (pe_isi T.b_isinstance (pa_cons (pv 1) (pa_cons (pe_glob (v := .ref _) (by rfl) T.g_Trains rfl) pa_nil))) (pe_one (pe_cmpR (op_eqD hr.units) (pe_fld (pv 0) rfl) (pe_fld (pv 1) rfl) (nomark _))))))), ?_⟩
    refine ⟨_, rfl, _, _, _, _, true, rfl, .own _, T.tyT hy, T.kitT, ?_⟩
    walk_at "rd"
    refine ⟨_, _, LsA.dp ⟨us, hl, hp⟩, LsA.dp ⟨zs, hm, hq⟩, dLs_shaped ts, dLs_shaped ts, ?_⟩
    rw [show PyData.eqv (.list (ts.map dTr)) (.list (ts.map dTr)) = true from (dTrs_ok ts).2.2]
    exact k
theorem drop_at {α : Type} {l : List α} {i : Nat} {a : α} (h : l[i]? = some a) : l.drop i = a :: l.drop (i + 1) := by
  obtain ⟨h1, h2⟩ := List.getElem?_eq_some_iff.mp h
  rw [List.drop_eq_getElem_cons h1, h2]
def sp_trG (K : PySem.W.Frag) : Sp := fun vs H Q _ => ∃ (x l : Addr) (ts : List Tr) (k x2 : Int), vs = [.ref x, .int k] ∧ TsA K H x l ts ∧ WTs ts ∧ ts.length ≤ 100000 ∧ 0 ≤ k ∧ k ≤ LW ∧ nthT ts k = some x2 ∧ Q (.int x2) H
theorem sc_trG : FnScope ["self", "index", "before", "start", "step", "count"] ["self", "index"] (defScope s_trG) := ⟨rfl, rfl, rfl, by decide +kernel, rfl, by decide +kernel, by decide +kernel⟩
theorem ok_trG (T : Tx K mg) : FK P w K mg base 2 (He.ma K (He.ga K "Trains") "__getitem__") ["self", "index"] (sp_trG K) := by
  refine fk_of T.f_trG sc_trG (fun vs H Q E h => ?_) (fun _ _ _ _ _ _ us hl => match us, hl with | [_, _], _ => rfl) (fun cdv A outer s H vs Q E hr h => ?_)
  · obtain ⟨x, l, ts, n, r, rfl, ⟨⟨dx, hx⟩, us, hl, hp⟩, wt, len, n0, n1, hn, k⟩ := h
    rfl
  · obtain ⟨x, l, ts, n, r, rfl, ⟨⟨dx, hx⟩, us, hl, hp⟩, wt, len, n0, n1, hn, k⟩ := h
    refine ⟨_, (pss_cons (ps_if (PW.pt (pw_or (pt_not (pt_val (pe_callF (ok_isInt T) (hr.mono (by decide)) T.g_isInt (pa_cons (pv 1) pa_nil)))) (pw_or1 (pt_cmpR op_lt (pv 1) (pe_int) (nomark _))))) (pss_one (ps_never)) pss_nil)
      (pss_cons (ps_set (i := 2) sc_trG.nd rfl (Or.inl rfl) (pe_int))
      (pss_cons (ps_for PassesOwn.never rfl (pi_list (pe_fld (pv 0) rfl)) (pg_tup rfl (pgs_cons (pg_name (i := 3) sc_trG.nd rfl (Or.inl rfl)) (pgs_cons (pg_name (i := 4) sc_trG.nd rfl (Or.inl rfl)) (pgs_cons (pg_name (i := 5) sc_trG.nd rfl (Or.inl rfl)) pgs_nil)))) (pss_cons (ps_if (PW.pt (pw_or (pt_cmpR op_isN (pv 5) (pe_non) (nomark _)) (pw_or1 (pt_cmpR op_lt (pv 1) (pe_op op_add (pv 2) (pv 5)) (nomark _))))) (pss_one (ps_ret (pe_op op_add (pv 3) (pe_op op_mulW (pe_op op_sub (pv 1) (pv 2)) (pv 4))))) pss_nil)
        (pss_one (ps_set (i := 2) sc_trG.nd rfl (Or.inl rfl) (pe_op op_add (pv 2) (pv 5))))))
      (pss_one (ps_never))))), ?_⟩
    walk_at "rd"
    rw [decide_eq_false (show ¬ n < 0 by omega)]
    walk_at "rd"
    have e := pLen hp
    have lw := LW_LB
    have lb := LW_big
    refine ⟨⟨_, SqL.of hl⟩, ?_⟩
    refine for_it walk_list (fun i σ H' => H' = H ∧ ∃ b x3 x4 x5, σ = [some (.ref x), some (.int n), some (.int b), x3, x4, x5] ∧ b ≤ n ∧ 0 ≤ b ∧ nthT (ts.drop i) (n - b) = some r) ⟨rfl, 0, _, _, _, rfl, n0, Int.le_refl _, by rw [List.drop_zero, Int.sub_zero]; exact hn⟩ (fun i σ H' _ h => by rw [h.1]; exact SqL.of hl) ?_ ?_
    · rintro i y σ H1 H2 hi ⟨rfl, b, x3, x4, x5, rfl, b1, b2, hb⟩ ⟨rfl, hu⟩
      obtain ⟨t, ht, a, rfl, ha⟩ := pAt hp hu
      obtain ⟨s, d, c⟩ := t
      have wt := wt.at (List.mem_of_getElem? ht)
      have d1 : 1 ≤ d := wt.o.d1
      have d2 : d ≤ LW := wt.b.d
      rw [drop_at ht] at hb
      have ha : H2 a = some (.tup [.int s, .int d, cV c]) := ha
      refine ⟨_, _, rfl, SqT.of ha, rfl, _, _, rfl, _, _, rfl, _, _, rfl, rfl, ?_⟩
      cases c with
      | none =>
        walk_at "rd"
        have : some (s + (n - b) * d) = some r := hb
        rw [← Option.some.inj this] at k
        exact k
      | some c =>
        have c1 : 1 ≤ c := wt.o.c1 c rfl
        have hb : (if n - b < c then some (s + (n - b) * d) else nthT (ts.drop (i + 1)) (n - b - c)) = some r := hb
        walk_at "rd"
        by_cases q : n < b + c
        · rw [decide_eq_true q]
          walk_at "rd"
          rw [if_pos (by omega)] at hb
          rw [← Option.some.inj hb] at k
          exact k
        · rw [decide_eq_false q]
          walk_at "rd"
          rw [if_neg (by omega)] at hb
          exact ⟨b + c, _, _, _, rfl, by omega, by omega, by rw [show n - (b + c) = n - b - c by omega]; exact hb⟩
    · rintro σ H1 ⟨rfl, b, x3, x4, x5, rfl, b1, b2, hb⟩
      rw [e, List.drop_length] at hb
      cases hb
def sp_isIn (K : PySem.W.Frag) : Sp := fun vs H Q _ => ∃ (v : V) (t : Tr) (x : Int), vs = [v, .int x] ∧ TrV K H v t ∧ OkT t ∧ t.d ≤ LW ∧ ∀ b : Bool, (b = true ↔ Mem t x) → Q (.bl b) H
theorem sc_isIn : FnScope ["train", "time", "start", "step", "count"] ["train", "time"] (defScope s_isIn) := ⟨rfl, rfl, rfl, by decide +kernel, rfl, by decide +kernel, by decide +kernel⟩
theorem ok_isIn (T : Tx K mg) : FK P w K mg base 1 (He.ga K "is_in") ["train", "time"] (sp_isIn K) := by
  refine fk_of T.f_isIn sc_isIn (fun vs H Q E h => ?_) (fun _ _ _ _ _ _ us hl => match us, hl with | [_, _], _ => rfl) (fun cdv A outer s H vs Q E hr h => ?_)
  · obtain ⟨v, ⟨s, d, c⟩, x, rfl, ⟨a, rfl, ha⟩, o, dl, k⟩ := h
    rfl
  · obtain ⟨v, ⟨s, d, c⟩, x, rfl, ⟨a, rfl, ha⟩, o, dl, k⟩ := h
    refine ⟨_, (pss_cons (ps_asg (pv 0) (pg_tup rfl (pgs_cons (pg_name (i := 2) sc_isIn.nd rfl (Or.inl rfl)) (pgs_cons (pg_name (i := 3) sc_isIn.nd rfl (Or.inl rfl)) (pgs_cons (pg_name (i := 4) sc_isIn.nd rfl (Or.inl rfl)) pgs_nil)))))
      (pss_cons (ps_if (PW.pt (pw_or (pt_cmpR op_lt (pv 1) (pv 2) (nomark _)) (pw_or1 (pt_cmpR op_ne (pe_op op_mod (pe_op op_sub (pv 1) (pv 2)) (pv 3)) (pe_int) (nomark _))))) (pss_one (ps_ret (pe_bl))) pss_nil)
      (pss_one (ps_ret ((pe_or (pe_cmpR op_isN (pv 4) (pe_non) (nomark _)) (pe_one (pe_cmpR op_lt (pe_op op_fdivW (pe_op op_sub (pv 1) (pv 2)) (pv 3)) (pv 4) (nomark _))))))))), ?_⟩
    have lw := LW_LB
    have d1 : 1 ≤ d := o.d1
    have dl : d ≤ LW := dl
    have ha : H a = some (.tup [.int s, .int d, cV c]) := ha
    walk_at "rd"
    by_cases q : x < s
    · rw [decide_eq_true q]
      walk_at "rd"
      refine k false ⟨(fun h => by cases h), fun h => ?_⟩
      have : s ≤ x := h.ge o
      omega
    · rw [decide_eq_false q]
      walk_at "rd"
      have key : ∀ n : Int, (x - s) = n * d → (x - s) / d = n := fun n e => by rw [e, Int.mul_ediv_cancel _ (by omega)]
      by_cases z : (x - s) % d = 0
      · rw [vT z]
        walk_at "rd"
        have e : x = s + (x - s) / d * d := by
          have := Int.ediv_mul_cancel (Int.dvd_of_emod_eq_zero z)
          omega
        have nn : 0 ≤ (x - s) / d := Int.ediv_nonneg (by omega) (by omega)
        cases c with
        | none =>
          walk_at "rd"
          exact k true ⟨fun _ => ⟨(x - s) / d, nn, e, fun c hc => by cases hc⟩, fun _ => rfl⟩
        | some c =>
          walk_at "rd"
          refine k _ ⟨fun h => ⟨(x - s) / d, nn, e, fun c' hc => ?_⟩, fun ⟨n, n0, e2, hn⟩ => ?_⟩
          · cases hc
            exact of_decide_eq_true h
          · have : n < c := hn c rfl
            have e2 : x = s + n * d := e2
            rw [key n (by omega)]
            exact decide_eq_true this
      · rw [vF z]
        walk_at "rd"
        refine k false ⟨(fun h => by cases h), fun ⟨n, n0, e2, hn⟩ => ?_⟩
        have e2 : x = s + n * d := e2
        refine absurd ?_ z
        rw [show x - s = n * d by omega]
        exact Int.mul_emod_left _ _
def sp_trC (K : PySem.W.Frag) : Sp := fun vs H Q _ => ∃ (x l : Addr) (ts : List Tr) (t : Int), vs = [.ref x, .int t] ∧ TsA K H x l ts ∧ WTs ts ∧ ts.length ≤ 100000 ∧ MemL ts t ∧ ∀ H', Same H H' → Q (.bl true) H'
theorem sc_trC : FnScope ["self", "time", "train"] ["self", "time"] (defScope s_trC) := ⟨rfl, rfl, rfl, by decide +kernel, rfl, by decide +kernel, by decide +kernel⟩
theorem ok_trC (T : Tx K mg) : FK P w K mg base 2 (He.ma K (He.ga K "Trains") "__contains__") ["self", "time"] (sp_trC K) := by
  refine fk_of T.f_trC sc_trC (fun vs H Q E h => ?_) (fun _ _ _ _ _ _ us hl => match us, hl with | [_, _], _ => rfl) (fun cdv A outer s H vs Q E hr h => ?_)
  · obtain ⟨x, l, ts, t, rfl, ⟨⟨dx, hx⟩, us, hl, hp⟩, wt, len, hm, k⟩ := h
    rfl
  · obtain ⟨x, l, ts, t, rfl, ⟨⟨dx, hx⟩, us, hl, hp⟩, wt, len, hm, k⟩ := h
    refine ⟨_, (pss_cons (ps_if (pt_not (pt_val (pe_callF (ok_isInt T) (hr.mono (by decide)) T.g_isInt (pa_cons (pv 1) pa_nil)))) (pss_one (ps_ret (pe_bl))) pss_nil)
      (pss_one (ps_ret (pe_callB (cr_any rfl) (by rfl) T.b_any b_any (pa_cons (pe_lc (own := [("train", 2)]) rfl sc_trC.nd (pi_list (pe_fld (pv 0) rfl)) (blkOk_by (N := ["self", "time", "train"]) (sc := defScope s_trC) (by decide +kernel)) (fun _ _ _ _ _ => (pg_name (i := 2) sc_trC.nd rfl (Or.inl rfl))) (fun _ _ _ _ _ => pts_nil) (fun _ _ _ _ _ => (pe_callF (ok_isIn T) (hr.mono (by decide)) T.g_isIn (pa_cons (pv 2) (pa_cons (pv 1) pa_nil))))) pa_nil))))), ?_⟩
    walk_at "rd"
    refine ⟨⟨_, SqL.of hl⟩, fun D hD => ?_⟩
    refine lc_it walk_list (fun i H' => Same H H' ∧ ∃ bs : List Bool, H' D = some (.lst (bs.map V.bl)) ∧ bs.length = i ∧ (bs.any id = true ↔ MemL (ts.take i) t)) ⟨Same.new hD, [], upd_same, rfl, ?_⟩ (fun i H' _ h => SqL.of (h.1 _ _ hl)) ?_ ?_
    · refine ⟨(fun h => by cases h), fun h => (memL_nil.mp h).elim⟩
    · rintro i y H1 H2 hi ⟨s1, bs, hb, lb, eb⟩ ⟨rfl, hu⟩
      obtain ⟨u, hu, hv⟩ := pAt hp hu
      have wu := wt.at (List.mem_of_getElem? hu)
      refine ⟨rfl, ?_⟩
      walk_at "rd"
      refine ⟨_, u, t, rfl, hv.mono s1, wu.o, wu.b.d, fun b hbm => ?_⟩
      have e := pLen hp
      refine ⟨_, hb, ?_, Same.mut s1 hD, bs ++ [b], ?_, ?_, ?_⟩
      · rw [List.length_map]
        exact Nat.lt_of_lt_of_le (m := 100001) (by omega) (Nat.le_trans (by decide) slM)
      · rw [upd_same, List.map_append]
        rfl
      · rw [List.length_append, lb]
        rfl
      · rw [List.any_append, Bool.or_eq_true, eb, List.take_add_one, hu, memL_append]
        show MemL (ts.take i) t ∨ (b || false) = true ↔ MemL (ts.take i) t ∨ MemL [u] t
        rw [Bool.or_false, hbm]
        refine or_congr Iff.rfl ⟨fun h => ⟨u, List.mem_cons_self, h⟩, fun ⟨z, h1, h2⟩ => by rw [List.mem_singleton.mp h1] at h2; exact h2⟩
    · rintro H1 ⟨s1, bs, hb, lb, eb⟩
      refine ⟨_, bs, rfl, SqL.of hb, ?_⟩
      rw [pLen hp, List.take_length] at eb
      rw [eb.mpr hm]
      exact k H1 s1
/-- Trains of trains that are in order: made anew -/
def NewTs (K : PySem.W.Frag) (H : Hp) (Q : VK) (ts : List Tr) : Prop := ∀ (H' : Hp) (p l : Addr), Same H H' → H p = none → H l = none → TsA K H' p l ts → Q (.ref p) H'
def sp_made (K : PySem.W.Frag) : Sp := fun vs H Q _ => ∃ (l : Addr) (ts : List Tr), vs = [.ref l] ∧ LsA K H l ts ∧ Ord ts ∧ BdL LQ ts ∧ ts.length ≤ 1000 ∧ NewTs K H Q (allJ ts)
theorem sc_made : FnScope ["trains", "found"] ["trains"] (defScope s_made) := ⟨rfl, rfl, rfl, by decide +kernel, rfl, by decide +kernel, by decide +kernel⟩
theorem ok_made (T : Tx K mg) : FK P w K mg base 6 (He.ga K "made") ["trains"] (sp_made K) := by
  refine fk_of T.f_made sc_made (fun vs H Q E h => ?_) (fun _ _ _ _ _ _ us hl => match us, hl with | [_], _ => rfl) (fun cdv A outer s H vs Q E hr h => ?_)
  · obtain ⟨l, ts, rfl, hl, o, b, len, k⟩ := h
    rfl
  · obtain ⟨l, ts, rfl, hl, o, b, len, k⟩ := h
    obtain ⟨_, t_MOST_TRAINS⟩ := T.i_MOST_TRAINS
    refine ⟨_, (pss_cons (ps_set (i := 1) sc_made.nd rfl (Or.inl rfl) (pe_callF (ok_allJ T) (hr.mono (by decide)) T.g_allJ (pa_cons (pv 0) pa_nil)))
      (pss_cons (ps_if (pt_cmpR op_gt (pe_callB call_len_seq (by rfl) T.b_len b_len (pa_cons (pv 1) pa_nil)) (pe_glob (v := .int 1000) (by rfl) t_MOST_TRAINS ⟨_, rfl⟩) (nomark _)) (pss_one (ps_never)) pss_nil)
      (pss_one (ps_ret (pe_makeF T.mkT (ok_trI T) (hr.mono (by decide)) T.g_Trains (pa_cons (pv 1) pa_nil)))))), ?_⟩
    have lh := LH_LW
    have lq := LQ_LH
    have l1 := LQ_1
    refine ⟨_, rfl, l, ts, rfl, hl, o, b.mono (by omega), by omega, fun H1 g s1 hg hgj => ?_⟩
    have n := allJ_nf o
    have len2 := allJ_len o
    obtain ⟨us, hus, hup⟩ := hgj
    have e := pLen hup
    walk_at "rd"
    rw [decide_eq_false (by omega)]
    walk_at "rd"
    intro x dx hx hdx hne
    have s2 : Same H1 (upd (upd H1 dx (.own x)) x (.ins (cT K) dx [])) := (Same.new hdx).trans (Same.new (by rw [upd_ne hne.symm]; exact hx))
    refine ⟨x, dx, g, allJ ts, rfl, upd_same, LsA.mono s2 ⟨us, hus, hup⟩, n.ord, ?_, by omega, fun H3 l' hb hl' hx' hls => ⟨rfl, ?_⟩⟩
    · rw [← lq]
      exact allJ_bd (by omega) o b
    · have s3 : Same H1 H3 := fun b o e => hb b o (ne_of_none e hx) (s2 b o e)
      rw [allJ_id n] at hls
      refine k H3 x l' (s1.trans s3) (s1.free hx) ((s1.trans s2).free hl') ⟨⟨dx, hx'⟩, hls⟩
theorem flat_all : ∀ cs : List (Option Int), (cs.map cV).all flatV = true
  | [] => rfl
  | none :: r => flat_all r
  | some c :: r => flat_all r
theorem inV_some : ∀ ns : List Int, inV .non ((ns.map some).map cV) = false
  | [] => rfl
  | n :: r => inV_some r
theorem inV_none : ∀ {cs : List (Option Int)}, none ∈ cs → inV .non (cs.map cV) = true
  | none :: r, _ => rfl
  | some c :: r, h => by
    rcases List.mem_cons.mp h with e | e
    · cases e
    · exact inV_none (cs := r) e
theorem tCnt_map : ∀ ts : List Tr, (∃ ns : List Int, ts.map (·.c) = ns.map some ∧ tCnt ts = some ns.sum) ∨ (none ∈ ts.map (·.c) ∧ tCnt ts = none)
  | [] => .inl ⟨[], rfl, rfl⟩
  | ⟨s, d, none⟩ :: r => .inr ⟨List.mem_cons_self, rfl⟩
  | ⟨s, d, some c⟩ :: r => by
    rcases tCnt_map r with ⟨ns, e1, e2⟩ | ⟨e1, e2⟩
    · refine .inl ⟨c :: ns, by rw [List.map_cons, List.map_cons, e1], ?_⟩
      show (match some c, tCnt r with | some c, some n => some (c + n) | _, _ => none) = some (c :: ns).sum
      rw [e2, List.sum_cons]
    · refine .inr ⟨List.mem_cons_of_mem _ e1, ?_⟩
      show (match some c, tCnt r with | some c, some n => some (c + n) | _, _ => none) = none
      rw [e2]
def sp_tCnt (K : PySem.W.Frag) : Sp := fun vs H Q _ => ∃ (x l : Addr) (ts : List Tr), vs = [.ref x] ∧ TsA K H x l ts ∧ ts.length ≤ 100000 ∧ ∀ H', Same H H' → Q (cV (tCnt ts)) H'
theorem sc_tCnt : FnScope ["trains", "counts", "start", "step", "count"] ["trains"] (defScope s_tCnt) := ⟨rfl, rfl, rfl, by decide +kernel, rfl, by decide +kernel, by decide +kernel⟩
theorem ok_tCnt (T : Tx K mg) : FK P w K mg base 1 (He.ga K "time_count") ["trains"] (sp_tCnt K) := by
  refine fk_of T.f_tCnt sc_tCnt (fun vs H Q E h => ?_) (fun _ _ _ _ _ _ us hl => match us, hl with | [_], _ => rfl) (fun cdv A outer s H vs Q E hr h => ?_)
  · obtain ⟨x, l, ts, rfl, ⟨⟨dx, hx⟩, us, hl, hp⟩, len, k⟩ := h
    rfl
  · obtain ⟨x, l, ts, rfl, ⟨⟨dx, hx⟩, us, hl, hp⟩, len, k⟩ := h
    refine ⟨_, (pss_cons (ps_setLc (i := 1) (g := gTup K 3 (gCons (gName 2) (gCons (gName 3) (gCons (gName 4) gNil)))) (own := [("start", 2), ("step", 3), ("count", 4)]) rfl sc_tCnt.nd rfl rfl (sw_true rfl rfl rfl (by decide +kernel)) (pi_list (pe_fld (pv 0) rfl)) (blkOk_by (N := ["trains", "counts", "start", "step", "count"]) (sc := defScope s_tCnt) (by decide +kernel)) (fun _ _ _ _ _ => (pg_tup rfl (pgs_cons (pg_name (i := 2) sc_tCnt.nd rfl (Or.inl rfl)) (pgs_cons (pg_name (i := 3) sc_tCnt.nd rfl (Or.inl rfl)) (pgs_cons (pg_name (i := 4) sc_tCnt.nd rfl (Or.inl rfl)) pgs_nil))))) (fun _ _ _ _ _ => pts_nil) (fun _ _ _ _ _ => (pv 4)))
      (pss_one (ps_ret (pe_ifExp (pt_cmpR op_in_seq (pe_non) (pv 1) (by rfl)) (pe_non) (pe_callB (cr_sum rfl) (by rfl) T.b_sum b_sum (pa_cons (pv 1) pa_nil)))))), ?_⟩
    have e := pLen hp
    walk_at "rd"
    refine ⟨⟨_, SqL.of hl⟩, fun D hD => ?_⟩
    refine lc_it walk_list (fun i H' => Same H H' ∧ H' D = some (.lst (((ts.take i).map (·.c)).map cV))) ⟨Same.new hD, upd_same⟩ (fun i H' _ h => SqL.of (h.1 _ _ hl)) ?_ ?_
    · rintro i y H1 H2 hi ⟨s1, hb⟩ ⟨rfl, hu⟩
      obtain ⟨t, ht, a, rfl, ha⟩ := pAt hp hu
      have ha := s1 _ _ ha
      refine ⟨_, _, rfl, SqT.of ha, rfl, _, _, rfl, _, _, rfl, _, _, rfl, rfl, rfl, ?_⟩
      walk_at "rd"
      refine ⟨_, hb, ?_, Same.mut s1 hD, ?_⟩
      · rw [List.length_map, List.length_map, List.length_take]
        exact Nat.lt_of_lt_of_le (m := 100001) (by omega) (Nat.le_trans (by decide) slM)
      · rw [upd_same, List.take_add_one, ht, List.map_append, List.map_append]
        rfl
    · rintro H1 ⟨s1, hb⟩
      rw [e, List.take_length] at hb
      refine ⟨_, rfl, D, _, rfl, .inl (SqL.of hb), rfl, flat_all _, ?_⟩
      rcases tCnt_map ts with ⟨ns, e1, e2⟩ | ⟨e1, e2⟩
      · rw [e1] at hb ⊢
        rw [inV_some]
        refine ⟨false, rfl, ?_⟩
        refine ⟨_, rfl, D, ns, rfl, SqL.of ?_, ?_⟩
        · rw [hb, List.map_map]
          rfl
        · have := k H1 s1
          rw [e2] at this
          exact this
      · rw [inV_none e1]
        refine ⟨true, rfl, ?_⟩
        have := k H1 s1
        rw [e2] at this
        exact this
def sp_befI (K : PySem.W.Frag) : Sp := fun vs H Q _ => ∃ (v : V) (t : Tr) (x : Int), vs = [v, .int x] ∧ TrV K H v t ∧ 1 ≤ t.d ∧ t.d ≤ LW ∧ Q (.int (befI t x)) H
theorem sc_befI : FnScope ["train", "time", "start", "step", "count", "found"] ["train", "time"] (defScope s_befI) := ⟨rfl, rfl, rfl, by decide +kernel, rfl, by decide +kernel, by decide +kernel⟩
theorem ok_befI (T : Tx K mg) : FK P w K mg base 1 (He.ga K "before_in") ["train", "time"] (sp_befI K) := by
  refine fk_of T.f_befI sc_befI (fun vs H Q E h => ?_) (fun _ _ _ _ _ _ us hl => match us, hl with | [_, _], _ => rfl) (fun cdv A outer s H vs Q E hr h => ?_)
  · obtain ⟨v, ⟨s, d, c⟩, x, rfl, ⟨a, rfl, ha⟩, d1, dl, k⟩ := h
    rfl
  · obtain ⟨v, ⟨s, d, c⟩, x, rfl, ⟨a, rfl, ha⟩, d1, dl, k⟩ := h
    refine ⟨_, (pss_cons (ps_asg (pv 0) (pg_tup rfl (pgs_cons (pg_name (i := 2) sc_befI.nd rfl (Or.inl rfl)) (pgs_cons (pg_name (i := 3) sc_befI.nd rfl (Or.inl rfl)) (pgs_cons (pg_name (i := 4) sc_befI.nd rfl (Or.inl rfl)) pgs_nil)))))
      (pss_cons (ps_if (pt_cmpR op_le (pv 1) (pv 2) (nomark _)) (pss_one (ps_ret (pe_int))) pss_nil)
      (pss_cons (ps_set (i := 5) sc_befI.nd rfl (Or.inl rfl) (pe_op op_fdivW (pe_op op_sub (pe_op op_add (pe_op op_sub (pv 1) (pv 2)) (pv 3)) (pe_int)) (pv 3)))
      (pss_one (ps_ret (pe_ifExp (pt_cmpR op_isN (pv 4) (pe_non) (nomark _)) (pv 5) (pe_callB (call_min2 rfl) (by rfl) T.b_min b_min (pa_cons (pv 4) (pa_cons (pv 5) pa_nil))))))))), ?_⟩
    have lw := LW_LB
    have d1 : 1 ≤ d := d1
    have dl : d ≤ LW := dl
    have ha : H a = some (.tup [.int s, .int d, cV c]) := ha
    have k : Q (.int (if x ≤ s then 0 else befI ⟨s, d, c⟩ x)) H := by
      by_cases q : x ≤ s
      · rw [if_pos q]
        have e : befI ⟨s, d, c⟩ x = 0 := if_pos q
        rw [e] at k
        exact k
      · rw [if_neg q]
        exact k
    walk_at "rd"
    by_cases q : x ≤ s
    · rw [decide_eq_true q]
      rw [if_pos q] at k
      walk_at "rd"
      exact k
    · rw [decide_eq_false q]
      rw [if_neg q] at k
      walk_at "rd"
      cases c with
      | none =>
        walk_at "rd"
        have e : befI ⟨s, d, none⟩ x = (x - s + d - 1) / d := if_neg q
        rw [e] at k
        exact k
      | some c =>
        walk_at "rd"
        have e : befI ⟨s, d, some c⟩ x = if (x - s + d - 1) / d < c then (x - s + d - 1) / d else c := if_neg q
        rw [e] at k
        exact k
def sp_cntB (K : PySem.W.Frag) : Sp := fun vs H Q _ => ∃ (x l : Addr) (ts : List Tr) (t : Int), vs = [.ref x, .int t] ∧ TsA K H x l ts ∧ WTs ts ∧ ts.length ≤ 100000 ∧ 0 ≤ t ∧ ∀ H', Same H H' → Q (.int (cntB ts t)) H'
theorem sc_cntB : FnScope ["trains", "time", "train"] ["trains", "time"] (defScope s_cntB) := ⟨rfl, rfl, rfl, by decide +kernel, rfl, by decide +kernel, by decide +kernel⟩
theorem ok_cntB (T : Tx K mg) : FK P w K mg base 3 (He.ga K "count_before") ["trains", "time"] (sp_cntB K) := by
  refine fk_of T.f_cntB sc_cntB (fun vs H Q E h => ?_) (fun _ _ _ _ _ _ us hl => match us, hl with | [_, _], _ => rfl) (fun cdv A outer s H vs Q E hr h => ?_)
  · obtain ⟨x, l, ts, t, rfl, ⟨⟨dx, hx⟩, us, hl, hp⟩, wt, len, t0, k⟩ := h
    rfl
  · obtain ⟨x, l, ts, t, rfl, ⟨⟨dx, hx⟩, us, hl, hp⟩, wt, len, t0, k⟩ := h
    refine ⟨_, (pss_cons (ps_expr (pe_callF (ok_chkT T) (hr.mono (by decide)) T.g_chkT (pa_cons (pv 1) pa_nil)))
      (pss_one (ps_ret (pe_callB (cr_sum rfl) (by rfl) T.b_sum b_sum (pa_cons (pe_lc (own := [("train", 2)]) rfl sc_cntB.nd (pi_list (pe_fld (pv 0) rfl)) (blkOk_by (N := ["trains", "time", "train"]) (sc := defScope s_cntB) (by decide +kernel)) (fun _ _ _ _ _ => (pg_name (i := 2) sc_cntB.nd rfl (Or.inl rfl))) (fun _ _ _ _ _ => pts_nil) (fun _ _ _ _ _ => (pe_callF (ok_befI T) (hr.mono (by decide)) T.g_befI (pa_cons (pv 2) (pa_cons (pv 1) pa_nil))))) pa_nil))))), ?_⟩
    have e := pLen hp
    walk_at "rd"
    refine ⟨t0, ?_⟩
    walk_at "rd"
    refine ⟨⟨_, SqL.of hl⟩, fun D hD => ?_⟩
    refine lc_it walk_list (fun i H' => Same H H' ∧ H' D = some (.lst (((ts.take i).map fun u => befI u t).map V.int))) ⟨Same.new hD, upd_same⟩ (fun i H' _ h => SqL.of (h.1 _ _ hl)) ?_ ?_
    · rintro i y H1 H2 hi ⟨s1, hb⟩ ⟨rfl, hu⟩
      obtain ⟨u, hu, hv⟩ := pAt hp hu
      have wu := wt.at (List.mem_of_getElem? hu)
      refine ⟨rfl, ?_⟩
      walk_at "rd"
      refine ⟨_, u, t, rfl, hv.mono s1, wu.o.d1, wu.b.d, _, hb, ?_, Same.mut s1 hD, ?_⟩
      · rw [List.length_map, List.length_map, List.length_take]
        exact Nat.lt_of_lt_of_le (m := 100001) (by omega) (Nat.le_trans (by decide) slM)
      · rw [upd_same, List.take_add_one, hu, List.map_append, List.map_append]
        rfl
    · rintro H1 ⟨s1, hb⟩
      rw [e, List.take_length] at hb
      exact ⟨D, _, rfl, SqL.of hb, k H1 s1⟩
theorem atI_lst {α : Type} {xs : List α} {v : α} (h : xs[xs.length - 1]? = some v) : atI xs (-1) = some v := by
  rcases snoc_of xs with e | ⟨pre, u, e⟩
  · subst e
    simp at h
  · subst e
    rw [List.length_append] at h
    have h : (pre ++ [u])[pre.length]? = some v := h
    rw [List.getElem?_append_right (Nat.le_refl _), Nat.sub_self] at h
    cases h
    exact atI_last pre _
def sp_trA (K : PySem.W.Frag) : Sp := fun vs H Q _ => ∃ (x l y m : Addr) (a b : List Tr), vs = [.ref x, .ref y] ∧ TsA K H x l a ∧ TsA K H y m b ∧ Ord (a ++ b) ∧ BdL LQ (a ++ b) ∧ (a ++ b).length ≤ 1000 ∧ NewTs K H Q (allJ (a ++ b))
theorem sc_trA : FnScope ["self", "other"] ["self", "other"] (defScope s_trA) := ⟨rfl, rfl, rfl, by decide +kernel, rfl, by decide +kernel, by decide +kernel⟩
theorem ok_trA (T : Tx K mg) : FK P w K mg base 7 (He.ma K (He.ga K "Trains") "__add__") ["self", "other"] (sp_trA K) := by
  refine fk_of T.f_trA sc_trA (fun vs H Q E h => ?_) (fun _ _ _ _ _ _ us hl => match us, hl with | [_, _], _ => rfl) (fun cdv A outer s H vs Q E hr h => ?_)
  · obtain ⟨x, l, y, m, a, b, rfl, ⟨⟨dx, hx⟩, us, hl, hp⟩, ⟨⟨dy, hy⟩, zs, hm, hq⟩, o, bd, len, k⟩ := h
    rfl
  · obtain ⟨x, l, y, m, a, b, rfl, ⟨⟨dx, hx⟩, us, hl, hp⟩, ⟨⟨dy, hy⟩, zs, hm, hq⟩, o, bd, len, k⟩ := h
    refine ⟨_, (pss_cons (ps_if (pt_not (pt_val (pe_isi T.b_isinstance (pa_cons (pv 1) (pa_cons (pe_glob (v := .ref _) (by rfl) T.g_Trains rfl) pa_nil))))) (pss_one (ps_never)) pss_nil)
      (pss_cons (ps_if (PW.pt (pw_and (pt_cmpR (op_neD hr.units) (pe_fld (pv 0) rfl) (pe_lst pa_nil) (nomark _)) (pw_and1 (pt_cmpR (op_neD hr.units) (pe_fld (pv 1) rfl) (pe_lst pa_nil) (nomark _))))) (pss_one (ps_if (PW.pt (pw_or (pt_cmpR op_isN (pe_ix ix_tup (pe_ix ix_list (pe_fld (pv 0) rfl) (pe_un un_neg (pe_int)) (fun _ _ => rfl)) (pe_int) (fun _ _ => rfl)) (pe_non) (nomark _)) (pw_or1 (pt_cmpR op_ge (pe_callF (ok_lastO T) (hr.mono (by decide)) T.g_lastO (pa_cons (pe_ix ix_list (pe_fld (pv 0) rfl) (pe_un un_neg (pe_int)) (fun _ _ => rfl)) pa_nil)) (pe_ix ix_tup (pe_ix ix_list (pe_fld (pv 1) rfl) (pe_int) (fun _ _ => rfl)) (pe_int) (fun _ _ => rfl)) (nomark _))))) (pss_one (ps_never)) pss_nil)) pss_nil)
      (pss_one (ps_ret (pe_callF (ok_made T) (hr.mono (by decide)) T.g_made (pa_cons (pe_op op_cat (pe_fld (pv 0) rfl) (pe_fld (pv 1) rfl)) pa_nil)))))), ?_⟩
    refine ⟨_, rfl, _, _, _, _, true, rfl, .own _, T.tyT hy, T.kitT, ?_⟩
    walk_at "rd"
    refine ⟨Nat.zero_le _, fun e he => ?_⟩
    have S1 : Same H (upd H e (.lst [])) := Same.new he
    have E1 : LsA K (upd H e (.lst [])) e [] := ⟨[], upd_same, .nil⟩
    generalize upd H e (.lst []) = H1 at *
    have hx1 := S1 _ _ hx
    have hy1 := S1 _ _ hy
    have hl1 := S1 _ _ hl
    have hm1 := S1 _ _ hm
    have hp1 := hp.mono S1
    have hq1 := hq.mono S1
    refine ⟨_, _, LsA.dp ⟨us, hl1, hp1⟩, LsA.dp E1, dLs_shaped _, dLs_shaped _, _, rfl, ?_⟩
    have cA : a = [] ∨ ∃ a0 u, a = a0 ++ [u] := snoc_of a
    have cB : b = [] ∨ ∃ v b0, b = v :: b0 := by
      cases b with
      | nil => exact .inl rfl
      | cons v b0 => exact .inr ⟨v, b0, rfl⟩
    have nz : ∀ l : List Tr, l ≠ [] → (!PyData.eqv (.list (l.map dTr)) (.list (([] : List Tr).map dTr))) = true := fun l h => by
      cases l with
      | nil => exact absurd rfl h
      | cons v r => rfl
    have fin : ∀ H2, Same H H2 → ∀ p, H2 p = none → ∃ (l' : Addr) (ts : List Tr), [V.ref p] = [.ref l'] ∧ LsA K (upd H2 p (.lst (us ++ zs))) l' ts ∧ Ord ts ∧ BdL LQ ts ∧ ts.length ≤ 1000 ∧ NewTs K (upd H2 p (.lst (us ++ zs))) Q (allJ ts) := fun H2 S2 p hp0 => by
      refine ⟨p, a ++ b, rfl, ⟨_, upd_same, pApp (hp.mono (S2.trans (Same.new hp0))) (hq.mono (S2.trans (Same.new hp0)))⟩, o, bd, len, fun H' p' l' s' h1 h2 h3 => ?_⟩
      have s3 := S2.trans (Same.new (o := .lst (us ++ zs)) hp0)
      exact k H' p' l' (s3.trans s') (s3.free h1) (s3.free h2) h3
    have ln : us.length + zs.length ≤ sizeLine := by
      rw [pLen hp, pLen hq]
      rw [List.length_append] at len
      exact Nat.le_trans (m := 1000) (by omega) (Nat.le_trans (by decide) slM)
    rcases cA with ea | ⟨a0, u, ea⟩
    · subst ea
      refine iteF ?_
      walk_at "rd"
      exact ⟨_, _, _, _, rfl, rfl, hl1, hm1, ln, fun p hp0 => fin H1 S1 p hp0⟩
    · rw [nz a (by rw [ea]; simp)]
      walk_at "rd"
      refine ⟨Nat.zero_le _, fun e2 he2 => ?_⟩
      have S2 : Same H1 (upd H1 e2 (.lst [])) := Same.new he2
      have E2 : LsA K (upd H1 e2 (.lst [])) e2 [] := ⟨[], upd_same, .nil⟩
      generalize upd H1 e2 (.lst []) = H2 at *
      have hx2 := S2 _ _ hx1
      have hy2 := S2 _ _ hy1
      have hl2 := S2 _ _ hl1
      have hm2 := S2 _ _ hm1
      refine ⟨_, _, LsA.dp ⟨zs, hm2, hq1.mono S2⟩, LsA.dp E2, dLs_shaped _, dLs_shaped _, _, rfl, ?_⟩
      rcases cB with eb | ⟨v, b0, eb⟩
      · subst eb
        refine iteF ?_
        walk_at "rd"
        exact ⟨_, _, _, _, rfl, rfl, hl2, hm2, ln, fun p hp0 => fin H2 (S1.trans S2) p hp0⟩
      · rw [nz b (by rw [eb]; simp)]
        walk_at "rd"
        have st := S1.trans S2
        obtain ⟨au, hau, tu⟩ := pAt2 (i := a0.length) hp (by rw [ea, List.getElem?_append_right (Nat.le_refl _), Nat.sub_self]; rfl)
        obtain ⟨zv, hzv, tv⟩ := pAt2 (i := 0) hq (by rw [eb]; rfl)
        have lu : us.length = a0.length + 1 := by rw [pLen hp, ea, List.length_append]; rfl
        have ix1 : atI us (-1) = some au := by
          refine atI_lst ?_
          rw [show us.length - 1 = a0.length by omega]
          exact hau
        have ix2 : atI zs 0 = some zv := atI_nat (j := 0) hzv
        obtain ⟨q1, q2⟩ := ord_adj (i := a0.length) (a := u) (b := v) o (by rw [ea, List.append_assoc, List.getElem?_append_right (Nat.le_refl _), Nat.sub_self]; rfl) (by
          rw [ea, eb, List.append_assoc, List.getElem?_append_right (by omega), show a0.length + 1 - a0.length = 1 by omega]; rfl)
        have lh := LH_LW
        have lq := LQ_LH
        have l1 := LQ_1
        have wu : WT u := ⟨o.all u (by rw [ea]; simp), (bd u (by rw [ea]; simp)).mono (by omega)⟩
        obtain ⟨b1, rfl, hb1⟩ := tu.mono st
        obtain ⟨b2, rfl, hb2⟩ := tv.mono st
        obtain ⟨c, hc⟩ : ∃ c, u.c = some c := by
          cases hc : u.c with
          | none => exact absurd hc q1
          | some c => exact ⟨c, rfl⟩
        have hb3 := hb1
        replace hb1 : H2 b1 = some (.tup [.int u.s, .int u.d, .int c]) := by rw [hb3, hc]; rfl
        walk_at "rd"
        refine ⟨_, u, rfl, ⟨b1, rfl, hb3⟩, wu, q1, ?_⟩
        walk_at "rd"
        rw [decide_eq_false (show ¬ v.s ≤ lastOf u by omega)]
        walk_at "rd"
        exact ⟨_, _, _, _, rfl, rfl, hl2, hm2, ln, fun p hp0 => fin H2 st p hp0⟩
end

section
variable {P : Program} {w : World} {K : PySem.W.Frag} {mg : Str → Option Value} {base : Heap}
theorem cntB_lex {ts : List Tr} (o : Ord ts) : ∀ n : Nat, cntB ts n ≤ n
  | 0 => by
    have := cntB_zero o
    have e : ((0 : Nat) : Int) = 0 := rfl
    rw [e, this]
    exact Int.le_refl _
  | n + 1 => by
    have i := cntB_lex o n
    obtain ⟨h1, h2⟩ := cntB_step o (n : Int)
    have e : ((n + 1 : Nat) : Int) = (n : Int) + 1 := by omega
    rw [e]
    by_cases q : MemL ts n
    · rw [h1 q]; omega
    · rw [h2 q]; omega
theorem cntB_ub {ts : List Tr} (o : Ord ts) {x : Int} (h : 0 ≤ x) : cntB ts x ≤ x := by
  have := cntB_lex o x.toNat
  rw [show ((x.toNat : Nat) : Int) = x by omega] at this
  exact this
def sp_nextT (K : PySem.W.Frag) : Sp := fun vs H Q _ => ∃ (x l : Addr) (ts : List Tr) (t y : Int), vs = [.ref x, .int t] ∧ TsA K H x l ts ∧ WTs ts ∧ ts.length ≤ 100000 ∧ 0 ≤ t ∧ t ≤ LW ∧ tCnt ts = none ∧ nthT ts (cntB ts t) = some y ∧
  ∀ H', Same H H' → Q (.int y) H'
theorem sc_nextT : FnScope ["trains", "time", "index", "every"] ["trains", "time"] (defScope s_nextT) := ⟨rfl, rfl, rfl, by decide +kernel, rfl, by decide +kernel, by decide +kernel⟩
theorem ok_nextT (T : Tx K mg) : FK P w K mg base 4 (He.ga K "next_time") ["trains", "time"] (sp_nextT K) := by
  refine fk_of T.f_nextT sc_nextT (fun vs H Q E h => ?_) (fun _ _ _ _ _ _ us hl => match us, hl with | [_, _], _ => rfl) (fun cdv A outer s H vs Q E hr h => ?_)
  · obtain ⟨x, l, ts, t, y, rfl, ta, wt, len, t0, t1, hn, hy, k⟩ := h
    rfl
  · obtain ⟨x, l, ts, t, y, rfl, ta, wt, len, t0, t1, hn, hy, k⟩ := h
    refine ⟨_, (pss_cons (ps_par (i := 2) (j := 3) (by rfl) sc_nextT.nd rfl rfl (by decide) rfl rfl (pa_cons (pe_callF (ok_cntB T) (hr.mono (by decide)) T.g_cntB (pa_cons (pv 0) (pa_cons (pv 1) pa_nil))) (pa_cons (pe_callF (ok_tCnt T) (hr.mono (by decide)) T.g_tCnt (pa_cons (pv 0) pa_nil)) pa_nil)) (by rfl))
      (pss_one (ps_ret (pe_ifExp (PW.pt (pw_or (pt_cmpR op_isN (pv 3) (pe_non) (nomark _)) (pw_or1 (pt_cmpR op_lt (pv 2) (pv 3) (nomark _))))) (pe_ixF (ok_trG T) (hr.mono (by decide)) T.m_trG T.fnT (pv 0) (pv 2)) (pe_non))))), ?_⟩
    have nn := cntB_nn wt.o t
    have ub := cntB_ub wt.o t0
    refine ⟨_, rfl, _, rfl, x, l, ts, t, rfl, ta, wt, len, t0, fun H1 s1 => ?_⟩
    refine ⟨_, rfl, x, l, ts, rfl, ta.mono s1, len, fun H2 s2 => ?_⟩
    rw [show cV (tCnt ts) = V.non by rw [hn]; rfl]
    have s3 := s1.trans s2
    obtain ⟨dx, hx⟩ := (ta.mono s3).1
    walk_at "rd"
    exact ⟨x, dx, _, rfl, hx, x, l, ts, _, y, rfl, ta.mono s3, wt, len, nn, by omega, hy, k H2 s3⟩
def sp_latT (K : PySem.W.Frag) : Sp := fun vs H Q _ => ∃ (x l : Addr) (ts : List Tr) (t y : Int), vs = [.ref x, .int t] ∧ TsA K H x l ts ∧ WTs ts ∧ ts.length ≤ 100000 ∧ 0 ≤ t ∧ t + 1 ≤ LW ∧ 0 ≤ cntB ts (t + 1) - 1 ∧ nthT ts (cntB ts (t + 1) - 1) = some y ∧
  ∀ H', Same H H' → Q (.int y) H'
theorem sc_latT : FnScope ["trains", "time", "index"] ["trains", "time"] (defScope s_latT) := ⟨rfl, rfl, rfl, by decide +kernel, rfl, by decide +kernel, by decide +kernel⟩
theorem ok_latT (T : Tx K mg) : FK P w K mg base 4 (He.ga K "latest_time") ["trains", "time"] (sp_latT K) := by
  refine fk_of T.f_latT sc_latT (fun vs H Q E h => ?_) (fun _ _ _ _ _ _ us hl => match us, hl with | [_, _], _ => rfl) (fun cdv A outer s H vs Q E hr h => ?_)
  · obtain ⟨x, l, ts, t, y, rfl, ta, wt, len, t0, t1, nn, hy, k⟩ := h
    rfl
  · obtain ⟨x, l, ts, t, y, rfl, ta, wt, len, t0, t1, nn, hy, k⟩ := h
    refine ⟨_, (pss_cons (ps_expr (pe_callF (ok_chkT T) (hr.mono (by decide)) T.g_chkT (pa_cons (pv 1) pa_nil)))
      (pss_cons (ps_set (i := 2) sc_latT.nd rfl (Or.inl rfl) (pe_op op_sub (pe_callF (ok_cntB T) (hr.mono (by decide)) T.g_cntB (pa_cons (pv 0) (pa_cons (pe_op op_add (pv 1) (pe_int)) pa_nil))) (pe_int)))
      (pss_one (ps_ret (pe_ifExp (pt_cmpR op_ge (pv 2) (pe_int) (nomark _)) (pe_ixF (ok_trG T) (hr.mono (by decide)) T.m_trG T.fnT (pv 0) (pv 2)) (pe_non)))))), ?_⟩
    have ub := cntB_ub wt.o (show 0 ≤ t + 1 by omega)
    walk_at "rd"
    refine ⟨t0, ?_⟩
    walk_at "rd"
    refine ⟨x, l, ts, t + 1, rfl, ta, wt, len, by omega, fun H1 s1 => ?_⟩
    obtain ⟨dx, hx⟩ := (ta.mono s1).1
    walk_at "rd"
    rw [decide_eq_true (show 0 ≤ cntB ts (t + 1) - 1 by omega)]
    walk_at "rd"
    exact ⟨x, dx, _, rfl, hx, x, l, ts, _, y, rfl, ta.mono s1, wt, len, nn, by omega, hy, k H1 s1⟩
def sp_slO (K : PySem.W.Frag) : Sp := fun vs H Q _ => ∃ (v : V) (t : Tr) (low : Int) (high : Option Int), vs = [v, .int low, cV high] ∧ TrV K H v t ∧ 1 ≤ t.d ∧ t.d ≤ LW ∧ 0 ≤ low ∧ low ≤ LW ∧
  ∀ (H' : Hp) (l' : Addr), Same H H' → H l' = none → LsA K H' l' (slO t low high) → Q (.ref l') H'
theorem sc_slO : FnScope ["train", "low", "high", "start", "step", "count"] ["train", "low", "high"] (defScope s_slO) := ⟨rfl, rfl, rfl, by decide +kernel, rfl, by decide +kernel, by decide +kernel⟩
theorem ok_slO (T : Tx K mg) : FK P w K mg base 1 (He.ga K "slice_of") ["train", "low", "high"] (sp_slO K) := by
  refine fk_of T.f_slO sc_slO (fun vs H Q E h => ?_) (fun _ _ _ _ _ _ us hl => match us, hl with | [_, _, _], _ => rfl) (fun cdv A outer s H vs Q E hr h => ?_)
  · obtain ⟨v, ⟨s, d, c⟩, low, high, rfl, ⟨a, rfl, ha⟩, d1, dl, l0, l1, k⟩ := h
    rfl
  · obtain ⟨v, ⟨s, d, c⟩, low, high, rfl, ⟨a, rfl, ha⟩, d1, dl, l0, l1, k⟩ := h
    refine ⟨_, (pss_cons (ps_asg (pv 0) (pg_tup rfl (pgs_cons (pg_name (i := 3) sc_slO.nd rfl (Or.inl rfl)) (pgs_cons (pg_name (i := 4) sc_slO.nd rfl (Or.inl rfl)) (pgs_cons (pg_name (i := 5) sc_slO.nd rfl (Or.inl rfl)) pgs_nil)))))
      (pss_cons (ps_if (PW.pt (pw_or (pt_cmpR op_isN (pv 2) (pe_non) (nomark _)) (pw_or1 (PW.pt (pw_and (pt_cmpR op_notN (pv 5) (pe_non) (nomark _)) (pw_and1 (pt_cmpR op_gt (pv 2) (pv 5) (nomark _)))))))) (pss_one (ps_set (i := 2) sc_slO.nd rfl (Or.inl rfl) (pv 5))) pss_nil)
      (pss_cons (ps_if (PW.pt (pw_and (pt_cmpR op_notN (pv 2) (pe_non) (nomark _)) (pw_and1 (pt_cmpR op_le (pv 2) (pv 1) (nomark _))))) (pss_one (ps_ret (pe_lst pa_nil))) pss_nil)
      (pss_one (ps_ret (pe_lst (pa_cons (pe_tup (pa_cons (pe_op op_add (pv 3) (pe_op op_mulW (pv 1) (pv 4))) (pa_cons (pv 4) (pa_cons (pe_ifExp (pt_cmpR op_isN (pv 2) (pe_non) (nomark _)) (pe_non) (pe_op op_sub (pv 2) (pv 1))) pa_nil)))) pa_nil))))))), ?_⟩
    have lw := LW_LB
    have lb := LW_big
    have d1 : 1 ≤ d := d1
    have dl : d ≤ LW := dl
    have fin0 : ∀ (h : Int), hiOf high c = some h → h ≤ low → ∀ g, H g = none → Q (.ref g) (upd H g (.lst [])) := fun h e hle g hg => by
      refine k _ g (Same.new hg) hg ⟨[], upd_same, ?_⟩
      have e2 : slO ⟨s, d, c⟩ low high = [] := by
        unfold slO
        rw [e]
        exact if_pos hle
      rw [e2]
      exact .nil
    have fin1 : ∀ (e : Option Int), hiOf high c = e → (∀ h, e = some h → ¬ h ≤ low) → ∀ p z, H p = none → upd H p (.tup [.int (s + low * d), .int d, cV (e.map (· - low))]) z = none →
        Q (.ref z) (upd (upd H p (.tup [.int (s + low * d), .int d, cV (e.map (· - low))])) z (.lst [.ref p])) := fun e he hle p z hp hz => by
      have npl : p ≠ z := ne_of_none upd_same hz
      have hz0 : H z = none := by rw [upd_ne npl.symm] at hz; exact hz
      refine k _ z ((Same.new hp).trans (Same.new hz)) hz0 ⟨[.ref p], upd_same, ?_⟩
      have e2 : slO ⟨s, d, c⟩ low high = [⟨s + low * d, d, e.map (· - low)⟩] := by
        unfold slO
        rw [he]
        cases e with
        | none => rfl
        | some h => exact if_neg (hle h rfl)
      rw [e2]
      exact .cons ⟨p, rfl, by rw [upd_ne npl]; exact upd_same⟩ .nil
    have big : ∀ c', c = some c' → H a = some (.tup [.int s, .int d, .int c']) := fun c' e => by
      rw [e] at ha
      exact ha
    have nob : c = none → H a = some (.tup [.int s, .int d, .non]) := fun e => by
      rw [e] at ha
      exact ha
    cases high with
    | none =>
      cases hc : c with
      | none =>
        have ha := nob hc
        walk_at "rd"
        exact ⟨sl3, fun p hp => ⟨sl1, fun z hz => fin1 none hc (fun h e => by cases e) p z hp hz⟩⟩
      | some c' =>
        have ha := big c' hc
        walk_at "rd"
        by_cases q : c' ≤ low
        · rw [decide_eq_true q]
          walk_at "rd"
          exact ⟨Nat.zero_le _, fun g hg => fin0 c' hc q g hg⟩
        · rw [decide_eq_false q]
          walk_at "rd"
          exact ⟨sl3, fun p hp => ⟨sl1, fun z hz => fin1 (some c') hc (fun h e => by cases e; exact q) p z hp hz⟩⟩
    | some h =>
      cases hc : c with
      | none =>
        have ha := nob hc
        walk_at "rd"
        have eh : hiOf (some h) c = some h := by rw [hc]; rfl
        by_cases q : h ≤ low
        · rw [decide_eq_true q]
          walk_at "rd"
          exact ⟨Nat.zero_le _, fun g hg => fin0 h eh q g hg⟩
        · rw [decide_eq_false q]
          walk_at "rd"
          exact ⟨sl3, fun p hp => ⟨sl1, fun z hz => fin1 (some h) eh (fun h e => by cases e; exact q) p z hp hz⟩⟩
      | some c' =>
        have ha := big c' hc
        walk_at "rd"
        by_cases z : c' < h
        · rw [decide_eq_true z]
          have eh : hiOf (some h) c = some c' := by rw [hc]; exact if_pos z
          walk_at "rd"
          by_cases q : c' ≤ low
          · rw [decide_eq_true q]
            walk_at "rd"
            exact ⟨Nat.zero_le _, fun g hg => fin0 c' eh q g hg⟩
          · rw [decide_eq_false q]
            walk_at "rd"
            exact ⟨sl3, fun p hp => ⟨sl1, fun z hz => fin1 (some c') eh (fun h e => by cases e; exact q) p z hp hz⟩⟩
        · rw [decide_eq_false z]
          have eh : hiOf (some h) c = some h := by rw [hc]; exact if_neg z
          walk_at "rd"
          by_cases q : h ≤ low
          · rw [decide_eq_true q]
            walk_at "rd"
            exact ⟨Nat.zero_le _, fun g hg => fin0 h eh q g hg⟩
          · rw [decide_eq_false q]
            walk_at "rd"
            exact ⟨sl3, fun p hp => ⟨sl1, fun z hz => fin1 (some h) eh (fun h e => by cases e; exact q) p z hp hz⟩⟩
end

section
variable {P : Program} {w : World} {K : PySem.W.Frag} {mg : Str → Option Value} {base : Heap}
theorem winL_take {ts : List Tr} {i : Nat} {t : Tr} {r : Int} (h : ts[i]? = some t) : winL (ts.take (i + 1)) r = winL (ts.take i) r ++ slO t (befI t 0) (some (befI t r)) := by
  unfold winL
  rw [List.take_add_one, h, List.flatMap_append]
  show _ ++ List.flatMap _ [t] = _
  rw [List.flatMap_cons, List.flatMap_nil, List.append_nil]
theorem befI_ub {t : Tr} (o : OkT t) {x : Int} (h : 0 ≤ x) : befI t x ≤ x := by
  have := cntB_ub (ts := [t]) o h
  rw [cntB_cons, cntB_nil] at this
  omega
theorem slO_len (t : Tr) (low : Int) (high : Option Int) : (slO t low high).length ≤ 1 := by
  unfold slO slC
  split
  · exact Nat.le_refl _
  · split <;> simp
def sp_wind (K : PySem.W.Frag) : Sp := fun vs H Q _ => ∃ (x l : Addr) (ts : List Tr) (r : Int), vs = [.ref x, .int 0, .int r] ∧ TsA K H x l ts ∧ Ord ts ∧ BdL LQ ts ∧ ts.length ≤ 1000 ∧ 0 ≤ r ∧ r ≤ LQ ∧ NewTs K H Q (winM ts r)
theorem sc_wind : FnScope ["trains", "first", "after", "found", "train", "high"] ["trains", "first", "after"] (defScope s_wind) := ⟨rfl, rfl, rfl, by decide +kernel, rfl, by decide +kernel, by decide +kernel⟩
theorem ok_wind (T : Tx K mg) : FK P w K mg base 7 (He.ga K "window") ["trains", "first", "after"] (sp_wind K) := by
  refine fk_of T.f_wind sc_wind (fun vs H Q E h => ?_) (fun _ _ _ _ _ _ us hl => match us, hl with | [_, _, _], _ => rfl) (fun cdv A outer s H vs Q E hr h => ?_)
  · obtain ⟨x, l, ts, r, rfl, ⟨⟨dx, hx⟩, us, hl, hp⟩, o, b, len, r0, r1, k⟩ := h
    rfl
  · obtain ⟨x, l, ts, r, rfl, ⟨⟨dx, hx⟩, us, hl, hp⟩, o, b, len, r0, r1, k⟩ := h
    refine ⟨_, (pss_cons (ps_expr (pe_callF (ok_chkB T) (hr.mono (by decide)) T.g_chkB (pa_cons (pe_str) (pa_cons (pv 1) (pa_cons (pe_int) pa_nil)))))
      (pss_cons (ps_if (pt_cmpR op_notN (pv 2) (pe_non) (nomark _)) (pss_one (ps_expr (pe_callF (ok_chkB T) (hr.mono (by decide)) T.g_chkB (pa_cons (pe_str) (pa_cons (pv 2) (pa_cons (pv 1) pa_nil)))))) pss_nil)
      (pss_cons (ps_set (i := 3) sc_wind.nd rfl (Or.inl rfl) (pe_lst pa_nil))
      (pss_cons (ps_for PassesOwn.never rfl (pi_list (pe_fld (pv 0) rfl)) (pg_name (i := 4) sc_wind.nd rfl (Or.inl rfl)) (pss_cons (ps_set (i := 5) sc_wind.nd rfl (Or.inl rfl) (pe_ifExp (pt_cmpR op_isN (pv 2) (pe_non) (nomark _)) (pe_non) (pe_callF (ok_befI T) (hr.mono (by decide)) T.g_befI (pa_cons (pv 4) (pa_cons (pv 2) pa_nil)))))
        (pss_one (ps_expr (pe_bm PySem.F.plainAttrs_list PySem.F.slot_list_extend PySem.F.type_list_extend mt_extend (pv 3) (pa_cons (pe_callF (ok_slO T) (hr.mono (by decide)) T.g_slO (pa_cons (pv 4) (pa_cons (pe_callF (ok_befI T) (hr.mono (by decide)) T.g_befI (pa_cons (pv 4) (pa_cons (pv 1) pa_nil))) (pa_cons (pv 5) pa_nil)))) pa_nil))))))
      (pss_one (ps_ret (pe_callF (ok_made T) (hr.mono (by decide)) T.g_made (pa_cons (pv 3) pa_nil)))))))), ?_⟩
    have e := pLen hp
    have lh := LH_LW
    have lq := LQ_LH
    have l1 := LQ_1
    walk_at "rd"
    refine ⟨_, _, _, rfl, Int.le_refl 0, ?_⟩
    walk_at "rd"
    refine ⟨_, _, _, rfl, r0, ?_⟩
    refine ⟨Nat.zero_le _, fun g hg => ?_⟩
    have S1 : Same H (upd H g (.lst [])) := Same.new hg
    have hx1 := S1 _ _ hx
    have hl1 := S1 _ _ hl
    walk_at "rd"
    refine ⟨⟨_, SqL.of hl1⟩, ?_⟩
    obtain ⟨th, _, _⟩ := winL_spec o r
    refine for_it walk_list (fun i σ H' => Same H H' ∧ ∃ x4 x5 zs, σ = [some (.ref x), some (.int 0), some (.int r), some (.ref g), x4, x5] ∧ H' g = some (.lst zs) ∧ TrVs K H' zs (winL (ts.take i) r)) ⟨S1, _, _, [], rfl, upd_same, .nil⟩ (fun i σ H' _ h => SqL.of (h.1 _ _ hl)) ?_ ?_
    · rintro i y σ H1 H2 hi ⟨s1, x4, x5, zs, rfl, hz, hzs⟩ ⟨rfl, hu⟩
      obtain ⟨t, ht, hv⟩ := pAt hp hu
      have ot := o.all t (List.mem_of_getElem? ht)
      have dl := (b t (List.mem_of_getElem? ht)).d
      have hv1 := hv.mono s1
      have b0 := befI_nn ot 0
      have b1 := befI_ub ot (Int.le_refl 0)
      walk_at "rd"
      refine ⟨_, t, r, rfl, hv1, ot.d1, by omega, ?_⟩
      refine ⟨_, rfl, Or.inl ⟨rfl, _, SqL.of hz⟩, _, rfl, _, rfl, _, rfl, _, t, 0, rfl, hv1, ot.d1, by omega, _, rfl, ?_⟩
      refine ⟨_, t, _, some (befI t r), rfl, hv1, ot.d1, by omega, b0, by omega, fun H3 l3 s3 hl3 ⟨ws, hw, hws⟩ => ?_⟩
      have hz3 := s3 _ _ hz
      have tl : (ts.take (i + 1)).length ≤ 1000 := by rw [List.length_take]; omega
      have n1 := pLen hzs
      have n2 := pLen hws
      have n3 := slO_len t (befI t 0) (some (befI t r))
      have n4 := (winL_spec (take_ord i o) r).1.len
      rw [List.length_take] at n4
      refine ⟨g, l3, zs, ws, rfl, rfl, hz3, hw, Nat.le_trans (m := 1001) (by omega) (Nat.le_trans (by decide) slM), Same.mut (s1.trans s3) hg, _, _, _, rfl, upd_same, ?_⟩
      rw [winL_take ht]
      exact TrVs.updL hz3 (pApp (hzs.mono s3) hws)
    · rintro σ H1 ⟨s1, x4, x5, zs, rfl, hz, hzs⟩
      rw [e, List.take_length] at hzs
      refine ⟨_, rfl, g, _, rfl, ⟨zs, hz, hzs⟩, th.ord o, winL_bd o b r1, ?_, fun H' p' l' s' h1 h2 h3 => k H' p' l' (s1.trans s') (s1.free h1) (s1.free h2) h3⟩
      have := th.len
      omega
theorem splL_take : ∀ {ts : List Tr} {i : Nat} {t : Tr} {left : Int}, ts[i]? = some t → splL (ts.take (i + 1)) left = splL (ts.take i) left ++ (if 0 < (ts.take i).foldl (fun a u => nl u a) left then slO t 0 (some ((ts.take i).foldl (fun a u => nl u a) left)) else [])
  | [], i, t, left, h => by simp at h
  | u :: r, 0, t, left, h => by
    have h := Option.some.inj h
    subst h
    show _ ++ [] = [] ++ _
    rw [List.append_nil]
    rfl
  | u :: r, i + 1, t, left, h => by
    have := splL_take (ts := r) (i := i) (left := nl u left) (by simpa using h)
    show _ ++ splL (r.take (i + 1)) (nl u left) = (_ ++ splL (r.take i) (nl u left)) ++ _
    rw [this, List.append_assoc]
    rfl
theorem splR_take : ∀ {ts : List Tr} {i : Nat} {t : Tr} {left : Int}, ts[i]? = some t → splR (ts.take (i + 1)) left = splR (ts.take i) left ++ slO t ((ts.take i).foldl (fun a u => nl u a) left) none
  | [], i, t, left, h => by simp at h
  | u :: r, 0, t, left, h => by
    have h := Option.some.inj h
    subst h
    show _ ++ [] = [] ++ _
    rw [List.append_nil]
    rfl
  | u :: r, i + 1, t, left, h => by
    have := splR_take (ts := r) (i := i) (left := nl u left) (by simpa using h)
    show _ ++ splR (r.take (i + 1)) (nl u left) = (_ ++ splR (r.take i) (nl u left)) ++ _
    rw [this, List.append_assoc]
    rfl
theorem nl_le (t : Tr) {left : Int} (o : OkT t) (l0 : 0 ≤ left) : nl t left ≤ left := by
  unfold nl
  split
  · exact l0
  · rename_i c hc
    have := o.c1 c hc
    split <;> omega
theorem leftAt_step {ts : List Tr} {i : Nat} {t : Tr} {left : Int} (h : ts[i]? = some t) : (ts.take (i + 1)).foldl (fun a u => nl u a) left = nl t ((ts.take i).foldl (fun a u => nl u a) left) := by
  rw [List.take_add_one, h, List.foldl_append]
  rfl
def sp_splA (K : PySem.W.Frag) : Sp := fun vs H Q _ => ∃ (x l : Addr) (ts : List Tr) (n M : Int), vs = [.ref x, .int n] ∧ TsA K H x l ts ∧ Ord ts ∧ BdL M ts ∧ 1 ≤ M ∧ M + n * M ≤ LQ ∧ ts.length ≤ 1000 ∧ 0 ≤ n ∧ n ≤ LQ ∧
  ∀ (H' : Hp) (T p1 l1 p2 l2 : Addr), Same H H' → H' T = some (.tup [.ref p1, .ref p2]) → H p1 = none → H l1 = none → H p2 = none → H l2 = none → TsA K H' p1 l1 (allJ (splL ts n)) → TsA K H' p2 l2 (allJ (splR ts n)) → Q (.ref T) H'
theorem sc_splA : FnScope ["trains", "count", "one", "other", "left", "train"] ["trains", "count"] (defScope s_splA) := ⟨rfl, rfl, rfl, by decide +kernel, rfl, by decide +kernel, by decide +kernel⟩
theorem ok_splA (T : Tx K mg) : FK P w K mg base 7 (He.ga K "split_after") ["trains", "count"] (sp_splA K) := by
  refine fk_of T.f_splA sc_splA (fun vs H Q E h => ?_) (fun _ _ _ _ _ _ us hl => match us, hl with | [_, _], _ => rfl) (fun cdv A outer s H vs Q E hr h => ?_)
  · obtain ⟨x, l, ts, n, M, rfl, ⟨⟨dx, hx⟩, us, hl, hp⟩, o, b, m1, mq, len, n0, n1, k⟩ := h
    rfl
  · obtain ⟨x, l, ts, n, M, rfl, ⟨⟨dx, hx⟩, us, hl, hp⟩, o, b, m1, mq, len, n0, n1, k⟩ := h
    refine ⟨_, (pss_cons (ps_expr (pe_callF (ok_chkB T) (hr.mono (by decide)) T.g_chkB (pa_cons (pe_str) (pa_cons (pv 1) (pa_cons (pe_int) pa_nil)))))
      (pss_cons (ps_par3 (i := 2) (j := 3) (l := 4) (by rfl) sc_splA.nd rfl rfl rfl (by decide) (by decide) (by decide) rfl rfl rfl (pa_cons (pe_lst pa_nil) (pa_cons (pe_lst pa_nil) (pa_cons (pv 1) pa_nil))) (by rfl))
      (pss_cons (ps_for PassesOwn.never rfl (pi_list (pe_fld (pv 0) rfl)) (pg_name (i := 5) sc_splA.nd rfl (Or.inl rfl)) (pss_cons (ps_if (pt_cmpR op_gt (pv 4) (pe_int) (nomark _)) (pss_one (ps_expr (pe_bm PySem.F.plainAttrs_list PySem.F.slot_list_extend PySem.F.type_list_extend mt_extend (pv 2) (pa_cons (pe_callF (ok_slO T) (hr.mono (by decide)) T.g_slO (pa_cons (pv 5) (pa_cons (pe_int) (pa_cons (pv 4) pa_nil)))) pa_nil)))) pss_nil)
        (pss_cons (ps_expr (pe_bm PySem.F.plainAttrs_list PySem.F.slot_list_extend PySem.F.type_list_extend mt_extend (pv 3) (pa_cons (pe_callF (ok_slO T) (hr.mono (by decide)) T.g_slO (pa_cons (pv 5) (pa_cons (pv 4) (pa_cons (pe_non) pa_nil)))) pa_nil)))
        (pss_one (ps_set (i := 4) sc_splA.nd rfl (Or.inl rfl) (pe_ifExp (pt_cmpR op_isN (pe_ix ix_tup (pv 5) (pe_int) (fun _ _ => rfl)) (pe_non) (nomark _)) (pe_int) (pe_callB (call_max2 rfl) (by rfl) T.b_max b_max (pa_cons (pe_int) (pa_cons (pe_op op_sub (pv 4) (pe_ix ix_tup (pv 5) (pe_int) (fun _ _ => rfl))) pa_nil)))))))))
      (pss_one (ps_ret (pe_tup (pa_cons (pe_callF (ok_made T) (hr.mono (by decide)) T.g_made (pa_cons (pv 2) pa_nil)) (pa_cons (pe_callF (ok_made T) (hr.mono (by decide)) T.g_made (pa_cons (pv 3) pa_nil)) pa_nil)))))))), ?_⟩
    have e := pLen hp
    have lh := LH_LW
    have lq := LQ_LH
    have l1 := LQ_1
    have nm := Int.mul_nonneg n0 (show 0 ≤ M by omega)
    walk_at "rd"
    refine ⟨_, _, _, rfl, n0, ?_⟩
    refine ⟨Nat.zero_le _, fun g hg => ⟨Nat.zero_le _, fun h hh => ?_⟩⟩
    have S1 : Same H (upd H g (.lst [])) := Same.new hg
    have S2 : Same H (upd (upd H g (.lst [])) h (.lst [])) := S1.trans (Same.new hh)
    have hh0 := S1.free hh
    have ngh : g ≠ h := ne_of_none upd_same hh
    have hx1 := S2 _ _ hx
    have hl1 := S2 _ _ hl
    refine ⟨_, rfl, _, _, _, rfl, ?_⟩
    walk_at "rd"
    refine ⟨⟨_, SqL.of hl1⟩, ?_⟩
    obtain ⟨⟨tl, _, _⟩, tr, _⟩ := spl_spec (left := n) o n0
    obtain ⟨bl, br⟩ := spl_bd (L := n) o b n0 (Int.le_refl n)
    refine for_it walk_list (fun i σ H' => Same H H' ∧ ∃ L x5 zs ws, σ = [some (.ref x), some (.int n), some (.ref g), some (.ref h), some (.int L), x5] ∧ H' g = some (.lst zs) ∧ TrVs K H' zs (splL (ts.take i) n) ∧ H' h = some (.lst ws) ∧ TrVs K H' ws (splR (ts.take i) n) ∧
      L = (ts.take i).foldl (fun a u => nl u a) n ∧ 0 ≤ L ∧ L ≤ n) ⟨S2, n, _, [], [], rfl, by rw [upd_ne ngh]; exact upd_same, .nil, upd_same, .nil, rfl, n0, Int.le_refl n⟩ (fun i σ H' _ h => SqL.of (h.1 _ _ hl)) ?_ ?_
    · rintro i y σ H1 H2 hi ⟨s1, L, x5, zs, ws, rfl, hz, hzs, hw, hws, eL, L0, Ln⟩ ⟨rfl, hu⟩
      obtain ⟨t, ht, hv⟩ := pAt hp hu
      have ot := o.all t (List.mem_of_getElem? ht)
      have d1 := ot.d1
      have nlm : M ≤ LQ := by omega
      have dl := (b t (List.mem_of_getElem? ht)).d
      have hv1 := hv.mono s1
      have tl1 : (ts.take (i + 1)).length ≤ 1000 := by rw [List.length_take]; omega
      have m1 := pLen hzs
      have m2 := pLen hws
      have m3 := (spl_spec (left := n) (take_ord i o) n0).1.1.len
      have m4 := (spl_spec (left := n) (take_ord i o) n0).2.1.len
      rw [List.length_take] at m3 m4
      have nn := nl_nn t L
      have nle := nl_le t ot L0
      walk_at "rd"
      by_cases q : 0 < L
      · rw [decide_eq_true q]
        refine ⟨_, rfl, Or.inl ⟨rfl, _, SqL.of hz⟩, _, rfl, _, rfl, _, t, 0, some L, rfl, hv1, d1, by omega, Int.le_refl 0, by omega, fun H3 l3 s3 hl3 ⟨vs, hv3, hvs⟩ => ?_⟩
        have hz3 := s3 _ _ hz
        have m5 := pLen hvs
        have m6 := slO_len t 0 (some L)
        refine ⟨g, l3, zs, vs, rfl, rfl, hz3, hv3, Nat.le_trans (m := 1001) (by omega) (Nat.le_trans (by decide) slM), ?_⟩
        obtain ⟨H4, e4⟩ : ∃ H4, H4 = upd H3 g (.lst (zs ++ vs)) := ⟨_, rfl⟩
        rw [← e4]
        have f1 : Same H H4 := by rw [e4]; exact Same.mut (s1.trans s3) hg
        have f2 : ∃ zs, H4 g = some (.lst zs) ∧ TrVs K H4 zs (splL (ts.take (i + 1)) n) := by
          rw [e4]
          refine ⟨_, upd_same, ?_⟩
          rw [splL_take ht, ← eL, if_pos q]
          exact TrVs.updL hz3 (pApp (hzs.mono s3) hvs)
        have f3 : H4 h = some (.lst ws) := by rw [e4, upd_ne ngh.symm]; exact s3 _ _ hw
        have f4 : TrVs K H4 ws (splR (ts.take i) n) := by rw [e4]; exact TrVs.updL hz3 (hws.mono s3)
        refine ⟨_, rfl, Or.inl ⟨rfl, _, SqL.of f3⟩, _, rfl, _, rfl, _, t, L, none, rfl, hv.mono f1, d1, by omega, L0, by omega, fun H5 l5 s5 hl5 ⟨vs5, hv5, hvs5⟩ => ?_⟩
        have m7 := pLen hvs5
        have m8 := slO_len t L none
        have h5 := s5 _ _ f3
        refine ⟨h, l5, ws, vs5, rfl, rfl, h5, hv5, Nat.le_trans (m := 1001) (by omega) (Nat.le_trans (by decide) slM), ?_⟩
        obtain ⟨zs6, hz6, hzs6⟩ := f2
        have f5 : Same H (upd H5 h (.lst (ws ++ vs5))) := Same.mut (f1.trans s5) hh0
        have f6 : upd H5 h (.lst (ws ++ vs5)) g = some (.lst zs6) := by rw [upd_ne ngh]; exact s5 _ _ hz6
        have f7 : TrVs K (upd H5 h (.lst (ws ++ vs5))) zs6 (splL (ts.take (i + 1)) n) := TrVs.updL h5 (hzs6.mono s5)
        have f8 : TrVs K (upd H5 h (.lst (ws ++ vs5))) (ws ++ vs5) (splR (ts.take (i + 1)) n) := by
          rw [splR_take ht, ← eL]
          exact TrVs.updL h5 (pApp (f4.mono s5) hvs5)
        have f9 : upd H5 h (.lst (ws ++ vs5)) h = some (.lst (ws ++ vs5)) := upd_same
        obtain ⟨a, rfl, ha⟩ := hv.mono f5
        generalize upd H5 h (.lst (ws ++ vs5)) = H6 at *
        have el : nl t L = (ts.take (i + 1)).foldl (fun a u => nl u a) n := by rw [leftAt_step ht, ← eL]
        cases hc : t.c with
        | none =>
          replace ha : H6 a = some (.tup [.int t.s, .int t.d, .non]) := by rw [ha, hc]; rfl
          have e0 : nl t L = 0 := by unfold nl; rw [hc]
          rw [e0] at el
          walk_at "rd"
          exact ⟨f5, 0, _, zs6, _, rfl, f6, f7, f9, f8, el, Int.le_refl 0, n0⟩
        | some c =>
          replace ha : H6 a = some (.tup [.int t.s, .int t.d, .int c]) := by rw [ha, hc]; rfl
          have e0 : nl t L = if L - c > 0 then L - c else 0 := by unfold nl; rw [hc]
          rw [e0] at el nn nle
          walk_at "rd"
          exact ⟨f5, _, _, zs6, _, rfl, f6, f7, f9, f8, el, nn, by omega⟩
      · rw [decide_eq_false q]
        obtain ⟨H4, e4⟩ : ∃ H4, H4 = H2 := ⟨_, rfl⟩
        rw [← e4]
        have f1 : Same H H4 := by rw [e4]; exact s1
        have f2 : ∃ zs, H4 g = some (.lst zs) ∧ TrVs K H4 zs (splL (ts.take (i + 1)) n) := by
          rw [e4]
          refine ⟨_, hz, ?_⟩
          rw [splL_take ht, ← eL, if_neg q, List.append_nil]
          exact hzs
        have f3 : H4 h = some (.lst ws) := by rw [e4]; exact hw
        have f4 : TrVs K H4 ws (splR (ts.take i) n) := by rw [e4]; exact hws
        refine ⟨_, rfl, Or.inl ⟨rfl, _, SqL.of f3⟩, _, rfl, _, rfl, _, t, L, none, rfl, hv.mono f1, d1, by omega, L0, by omega, fun H5 l5 s5 hl5 ⟨vs5, hv5, hvs5⟩ => ?_⟩
        have m7 := pLen hvs5
        have m8 := slO_len t L none
        have h5 := s5 _ _ f3
        refine ⟨h, l5, ws, vs5, rfl, rfl, h5, hv5, Nat.le_trans (m := 1001) (by omega) (Nat.le_trans (by decide) slM), ?_⟩
        obtain ⟨zs6, hz6, hzs6⟩ := f2
        have f5 : Same H (upd H5 h (.lst (ws ++ vs5))) := Same.mut (f1.trans s5) hh0
        have f6 : upd H5 h (.lst (ws ++ vs5)) g = some (.lst zs6) := by rw [upd_ne ngh]; exact s5 _ _ hz6
        have f7 : TrVs K (upd H5 h (.lst (ws ++ vs5))) zs6 (splL (ts.take (i + 1)) n) := TrVs.updL h5 (hzs6.mono s5)
        have f8 : TrVs K (upd H5 h (.lst (ws ++ vs5))) (ws ++ vs5) (splR (ts.take (i + 1)) n) := by
          rw [splR_take ht, ← eL]
          exact TrVs.updL h5 (pApp (f4.mono s5) hvs5)
        have f9 : upd H5 h (.lst (ws ++ vs5)) h = some (.lst (ws ++ vs5)) := upd_same
        obtain ⟨a, rfl, ha⟩ := hv.mono f5
        generalize upd H5 h (.lst (ws ++ vs5)) = H6 at *
        have el : nl t L = (ts.take (i + 1)).foldl (fun a u => nl u a) n := by rw [leftAt_step ht, ← eL]
        cases hc : t.c with
        | none =>
          replace ha : H6 a = some (.tup [.int t.s, .int t.d, .non]) := by rw [ha, hc]; rfl
          have e0 : nl t L = 0 := by unfold nl; rw [hc]
          rw [e0] at el
          walk_at "rd"
          exact ⟨f5, 0, _, zs6, _, rfl, f6, f7, f9, f8, el, Int.le_refl 0, n0⟩
        | some c =>
          replace ha : H6 a = some (.tup [.int t.s, .int t.d, .int c]) := by rw [ha, hc]; rfl
          have e0 : nl t L = if L - c > 0 then L - c else 0 := by unfold nl; rw [hc]
          rw [e0] at el nn nle
          walk_at "rd"
          exact ⟨f5, _, _, zs6, _, rfl, f6, f7, f9, f8, el, nn, by omega⟩
    · rintro σ H1 ⟨s1, L, x5, zs, ws, rfl, hz, hzs, hw, hws, eL, L0, Ln⟩
      rw [e, List.take_length] at hzs hws
      have q1 := tl.len
      have q2 := tr.len
      have z2 : ∀ {b : Int}, b ≤ LQ → b ≤ LQ := id
      refine ⟨_, rfl, g, _, rfl, ⟨zs, hz, hzs⟩, tl.ord o, bl.mono (by omega), by omega, fun H2 p1 k1 s2 a1 a2 a3 => ?_⟩
      refine ⟨_, rfl, h, _, rfl, ⟨ws, s2 _ _ hw, hws.mono s2⟩, tr.ord o, br.mono (by omega), by omega, fun H3 p2 k2 s3 b1 b2 b3 => ?_⟩
      refine ⟨sl2, fun T hT => ?_⟩
      have sT := Same.new (o := .tup [.ref p1, .ref p2]) hT
      exact k _ T p1 k1 p2 k2 (((s1.trans s2).trans s3).trans sT) upd_same (s1.free a1) (s1.free a2) ((s1.trans s2).free b1) ((s1.trans s2).free b2) ((a3.mono s3).mono sT) (b3.mono sT)
end

section
variable {P : Program} {w : World} {K : PySem.W.Frag} {mg : Str → Option Value} {base : Heap}
theorem thT_ok {t : Tr} {wt since : Int} (o : OkT t) (w1 : 1 ≤ wt) (h : ∀ c, t.c = some c → lowOf t wt since < c) : OkT (thT t wt since) ∧ ∀ x, Mem (thT t wt since) x → Mem t x := by
  have e : thinL [t] wt since = [thT t wt since] := by
    show (match t.c with | none => _ | some c => _) = _
    cases hc : t.c with
    | none => rfl
    | some c => exact if_pos (h c hc)
  obtain ⟨h1, h2, _⟩ := thin_spec (ts := [t]) (w := wt) (since := since) o w1
  rw [e] at h1 h2
  refine ⟨h1.ord o, fun x hx => ?_⟩
  have := h2 x (memL_cons.mpr (.inl hx))
  rcases memL_cons.mp this with q | q
  · exact q
  · exact (memL_nil.mp q).elim
def sp_thin (K : PySem.W.Frag) : Sp := fun vs H Q _ => ∃ (x l : Addr) (ts : List Tr) (wt time M : Int), vs = [.ref x, .int wt, .int time] ∧ TsA K H x l ts ∧ Ord ts ∧ BdL M ts ∧ 1 ≤ wt ∧ wt ≤ M ∧ 0 ≤ time ∧ time ≤ M ∧ 3 * M ≤ LQ ∧ ts.length ≤ 1000 ∧
  NewTs K H Q (allJ (thinL ts wt time))
theorem sc_thin : FnScope ["trains", "wait", "time", "found", "since", "start", "step", "count", "low", "stride", "many"] ["trains", "wait", "time"] (defScope s_thin) := ⟨rfl, rfl, rfl, by decide +kernel, rfl, by decide +kernel, by decide +kernel⟩
theorem ok_thin (T : Tx K mg) : FK P w K mg base 7 (He.ga K "thinned") ["trains", "wait", "time"] (sp_thin K) := by
  refine fk_of T.f_thin sc_thin (fun vs H Q E h => ?_) (fun _ _ _ _ _ _ us hl => match us, hl with | [_, _, _], _ => rfl) (fun cdv A outer s H vs Q E hr h => ?_)
  · obtain ⟨x, l, ts, wt, time, M, rfl, ⟨⟨dx, hx⟩, us, hl, hp⟩, o, b, w1, w2, n0, n1, mq, len, k⟩ := h
    rfl
  · obtain ⟨x, l, ts, wt, time, M, rfl, ⟨⟨dx, hx⟩, us, hl, hp⟩, o, b, w1, w2, n0, n1, mq, len, k⟩ := h
    refine ⟨_, (pss_cons (ps_expr (pe_callF (ok_chkB T) (hr.mono (by decide)) T.g_chkB (pa_cons (pe_str) (pa_cons (pv 1) (pa_cons (pe_int) pa_nil)))))
      (pss_cons (ps_expr (pe_callF (ok_chkT T) (hr.mono (by decide)) T.g_chkT (pa_cons (pv 2) pa_nil)))
      (pss_cons (ps_par (i := 3) (j := 4) (by rfl) sc_thin.nd rfl rfl (by decide) rfl rfl (pa_cons (pe_lst pa_nil) (pa_cons (pv 2) pa_nil)) (by rfl))
      (pss_cons (ps_for PassesOwn.never rfl (pi_list (pe_fld (pv 0) rfl)) (pg_tup rfl (pgs_cons (pg_name (i := 5) sc_thin.nd rfl (Or.inl rfl)) (pgs_cons (pg_name (i := 6) sc_thin.nd rfl (Or.inl rfl)) (pgs_cons (pg_name (i := 7) sc_thin.nd rfl (Or.inl rfl)) pgs_nil)))) (pss_cons (ps_set (i := 8) sc_thin.nd rfl (Or.inl rfl) (pe_callB (call_max2 rfl) (by rfl) T.b_max b_max (pa_cons (pe_int) (pa_cons (pe_op op_fdivW (pe_op op_sub (pe_op op_add (pe_op op_sub (pe_op op_add (pv 4) (pv 1)) (pv 5)) (pv 6)) (pe_int)) (pv 6)) pa_nil))))
        (pss_cons (ps_set (i := 9) sc_thin.nd rfl (Or.inl rfl) (pe_op op_fdivW (pe_op op_sub (pe_op op_add (pv 1) (pv 6)) (pe_int)) (pv 6)))
        (pss_one (ps_if (PW.pt (pw_or (pt_cmpR op_isN (pv 7) (pe_non) (nomark _)) (pw_or1 (pt_cmpR op_lt (pv 8) (pv 7) (nomark _))))) (pss_cons (ps_set (i := 10) sc_thin.nd rfl (Or.inl rfl) (pe_ifExp (pt_cmpR op_isN (pv 7) (pe_non) (nomark _)) (pe_non) (pe_op op_add (pe_op op_fdivW (pe_op op_sub (pe_op op_sub (pv 7) (pe_int)) (pv 8)) (pv 9)) (pe_int))))
          (pss_cons (ps_expr (pe_bm PySem.F.plainAttrs_list PySem.F.slot_list_append PySem.F.type_list_append mt_append (pv 3) (pa_cons (pe_tup (pa_cons (pe_op op_add (pv 5) (pe_op op_mulW (pv 8) (pv 6))) (pa_cons (pe_op op_mulW (pv 6) (pv 9)) (pa_cons (pv 10) pa_nil)))) pa_nil)))
          (pss_one (ps_set (i := 4) sc_thin.nd rfl (Or.inl rfl) (pe_ifExp (pt_cmpR op_isN (pv 10) (pe_non) (nomark _)) (pv 4) (pe_callF (ok_lastO T) (hr.mono (by decide)) T.g_lastO (pa_cons (pe_ix ix_list (pv 3) (pe_un un_neg (pe_int)) (fun _ _ => rfl)) pa_nil))))))) pss_nil)))))
      (pss_one (ps_ret (pe_callF (ok_made T) (hr.mono (by decide)) T.g_made (pa_cons (pv 3) pa_nil)))))))), ?_⟩
    have e := pLen hp
    have lh := LH_LW
    have lq := LQ_LH
    have l1 := LQ_1
    have lw := LW_LB
    walk_at "rd"
    refine ⟨_, _, _, rfl, w1, ?_⟩
    walk_at "rd"
    refine ⟨n0, ?_⟩
    refine ⟨Nat.zero_le _, fun g hg => ?_⟩
    have S1 : Same H (upd H g (.lst [])) := Same.new hg
    have hx1 := S1 _ _ hx
    have hl1 := S1 _ _ hl
    walk_at "rd"
    refine ⟨⟨_, SqL.of hl1⟩, ?_⟩
    refine for_it walk_list (fun i σ H' => Same H H' ∧ ∃ since x5 x6 x7 x8 x9 x10 zs acc, σ = [some (.ref x), some (.int wt), some (.int time), some (.ref g), some (.int since), x5, x6, x7, x8, x9, x10] ∧ H' g = some (.lst zs) ∧ TrVs K H' zs acc ∧ acc.length ≤ i ∧
      thinL ts wt time = acc ++ thinL (ts.drop i) wt since ∧ 0 ≤ since ∧ since ≤ M) ⟨S1, time, _, _, _, _, _, _, [], [], rfl, upd_same, .nil, Nat.le_refl _, by rw [List.drop_zero]; rfl, n0, n1⟩ (fun i σ H' _ h => SqL.of (h.1 _ _ hl)) ?_ ?_
    · rintro i y σ H1 H2 hi ⟨s1, since, x5, x6, x7, x8, x9, x10, zs, acc, rfl, hz, hzs, al, et, e0, e1⟩ ⟨rfl, hu⟩
      obtain ⟨t, ht, hv⟩ := pAt hp hu
      have ot := o.all t (List.mem_of_getElem? ht)
      have bt := b t (List.mem_of_getElem? ht)
      have d1 := ot.d1
      have s0 := ot.s0
      have dl := bt.d
      have sl := bt.s
      obtain ⟨a, rfl, ha⟩ := hv.mono s1
      obtain ⟨q1, q2⟩ := ediv_bd (M := 4 * M) (v := since + wt - t.s + t.d - 1) (u := t.d) d1 (by omega) (by omega)
      obtain ⟨q3, q4⟩ := ediv_bd (M := 4 * M) (v := wt + t.d - 1) (u := t.d) d1 (by omega) (by omega)
      obtain ⟨low, hlow⟩ : ∃ low, lowOf t wt since = low := ⟨_, rfl⟩
      have hl0 := lowOf_nn t wt since
      have hl4 : lowOf t wt since ≤ 4 * M := by
        unfold lowOf
        split <;> omega
      rw [hlow] at hl0 hl4
      have hlo : (if (since + wt - t.s + t.d - 1) / t.d > 0 then (since + wt - t.s + t.d - 1) / t.d else 0) = low := hlow
      have m1 := pLen hzs
      rw [drop_at ht] at et
      refine ⟨_, _, rfl, SqT.of ha, rfl, _, _, rfl, _, _, rfl, _, _, rfl, rfl, ?_⟩
      have push : ∀ (p : Addr) (m : Option Int), H2 p = none → thT t wt since = ⟨t.s + low * t.d, t.d * ((wt + t.d - 1) / t.d), m⟩ →
          Same H (upd (upd H2 p (.tup [.int (t.s + low * t.d), .int (t.d * ((wt + t.d - 1) / t.d)), cV m])) g (.lst (zs ++ [.ref p]))) ∧
          upd (upd H2 p (.tup [.int (t.s + low * t.d), .int (t.d * ((wt + t.d - 1) / t.d)), cV m])) g (.lst (zs ++ [.ref p])) p = some (.tup [.int (t.s + low * t.d), .int (t.d * ((wt + t.d - 1) / t.d)), cV m]) ∧
          TrVs K (upd (upd H2 p (.tup [.int (t.s + low * t.d), .int (t.d * ((wt + t.d - 1) / t.d)), cV m])) g (.lst (zs ++ [.ref p]))) (zs ++ [.ref p]) (acc ++ [thT t wt since]) := fun p m hpn eT => by
        have npg : p ≠ g := fun q => by rw [q, hz] at hpn; cases hpn
        have sp : Same H2 (upd H2 p (.tup [.int (t.s + low * t.d), .int (t.d * ((wt + t.d - 1) / t.d)), cV m])) := Same.new hpn
        have lk : upd (upd H2 p (.tup [.int (t.s + low * t.d), .int (t.d * ((wt + t.d - 1) / t.d)), cV m])) g (.lst (zs ++ [.ref p])) p = some (.tup [.int (t.s + low * t.d), .int (t.d * ((wt + t.d - 1) / t.d)), cV m]) := by rw [upd_ne npg]; exact upd_same
        refine ⟨Same.mut (s1.trans sp) hg, lk, pApp (TrVs.updL (sp _ _ hz) (hzs.mono sp)) (.cons ⟨p, rfl, ?_⟩ .nil)⟩
        rw [eT]
        exact lk
      have slen : zs.length < sizeLine := Nat.lt_of_lt_of_le (m := 1001) (by omega) (Nat.le_trans (by decide) slM)
      cases hc : t.c with
      | none =>
        have eT : thT t wt since = ⟨t.s + low * t.d, t.d * ((wt + t.d - 1) / t.d), none⟩ := by
          unfold thT
          rw [hlow, hc]
          rfl
        have et2 : thinL (t :: ts.drop (i + 1)) wt since = thT t wt since :: thinL (ts.drop (i + 1)) wt since := by
          show (match t.c with | none => _ | some c => _) = _
          rw [hc]
        walk_at "rd"
        rw [hlo]
        refine ⟨Or.inl ⟨rfl, _, SqL.of hz⟩, ?_⟩
        walk_at "rd"
        refine ⟨sl3, fun p hpn => ?_⟩
        obtain ⟨f1, f2, f3⟩ := push p none hpn eT
        refine ⟨g, zs, .ref p, rfl, rfl, Same.new hpn _ _ hz, slen, ?_⟩
        walk_at "rd"
        refine ⟨f1, since, _, _, _, _, _, _, zs ++ [V.ref p], acc ++ [thT t wt since], rfl, upd_same, f3, by rw [List.length_append]; show acc.length + 1 ≤ i + 1; omega, ?_, e0, e1⟩
        rw [et, et2, List.append_assoc]
        rfl
      | some c =>
        walk_at "rd"
        rw [hlo]
        by_cases q : low < c
        · rw [decide_eq_true q]
          have cd : ∀ c', t.c = some c' → lowOf t wt since < c' := fun c' e => by rw [hlow]; rw [hc] at e; cases e; exact q
          obtain ⟨tok, tmem⟩ := thT_ok ot w1 cd
          have tbd := thT_bd ot bt w1 w2 e1 cd
          have eT : thT t wt since = ⟨t.s + low * t.d, t.d * ((wt + t.d - 1) / t.d), some ((c - 1 - low) / ((wt + t.d - 1) / t.d) + 1)⟩ := by
            unfold thT
            rw [hlow, hc]
            rfl
          have et2 : thinL (t :: ts.drop (i + 1)) wt since = thT t wt since :: thinL (ts.drop (i + 1)) wt (lastOf (thT t wt since)) := by
            show (match t.c with | none => _ | some c => _) = _
            rw [hc]
            show (if lowOf t wt since < c then _ else _) = _
            rw [if_pos (by rw [hlow]; exact q)]
          have q0 : 1 ≤ (wt + t.d - 1) / t.d := by
            rw [Int.le_ediv_iff_mul_le (by omega)]
            omega
          walk_at "rd"
          refine ⟨Or.inl ⟨rfl, _, SqL.of hz⟩, ?_⟩
          walk_at "rd"
          refine ⟨sl3, fun p hpn => ?_⟩
          obtain ⟨f1, f2, f3⟩ := push p _ hpn eT
          refine ⟨g, zs, .ref p, rfl, rfl, Same.new hpn _ _ hz, slen, ?_⟩
          have f4 := atI_last zs (.ref p)
          have f5 : upd (upd H2 p (.tup [.int (t.s + low * t.d), .int (t.d * ((wt + t.d - 1) / t.d)), cV (some ((c - 1 - low) / ((wt + t.d - 1) / t.d) + 1))])) g (.lst (zs ++ [.ref p])) g = some (.lst (zs ++ [.ref p])) := upd_same
          have nn : (thT t wt since).c ≠ none := by rw [eT]; simp
          have ll : lastOf (thT t wt since) ≤ M ∧ 0 ≤ lastOf (thT t wt since) := by
            have ml := Mem.last tok (c := (c - 1 - low) / ((wt + t.d - 1) / t.d) + 1) (by rw [eT])
            have m2 := tmem _ ml
            have := m2.le ot hc
            have := m2.ge ot
            have := bt.l (by rw [hc]; simp)
            omega
          walk_at "rd"
          refine ⟨_, thT t wt since, rfl, ⟨p, rfl, by rw [eT]; exact f2⟩, ⟨tok, tbd.mono (by omega)⟩, nn, ?_⟩
          refine ⟨f1, lastOf (thT t wt since), _, _, _, _, _, _, zs ++ [V.ref p], acc ++ [thT t wt since], rfl, upd_same, f3, by rw [List.length_append]; show acc.length + 1 ≤ i + 1; omega, ?_, ll.2, ll.1⟩
          rw [et, et2, List.append_assoc]
          rfl
        · rw [decide_eq_false q]
          have et2 : thinL (t :: ts.drop (i + 1)) wt since = thinL (ts.drop (i + 1)) wt since := by
            show (match t.c with | none => _ | some c => _) = _
            rw [hc]
            show (if lowOf t wt since < c then _ else _) = _
            rw [if_neg (by rw [hlow]; exact q)]
          walk_at "rd"
          exact ⟨s1, since, _, _, _, _, _, _, zs, acc, rfl, hz, hzs, by omega, by rw [et, et2], e0, e1⟩
    · rintro σ H1 ⟨s1, since, x5, x6, x7, x8, x9, x10, zs, acc, rfl, hz, hzs, al, et, e0, e1⟩
      rw [e, List.drop_length] at et
      have et : thinL ts wt time = acc := by rw [et]; exact List.append_nil _
      rw [← et] at hzs
      obtain ⟨th, _⟩ := thin_spec (since := time) o w1
      have tl := th.len
      refine ⟨_, rfl, g, _, rfl, ⟨zs, hz, hzs⟩, th.ord o, (thin_bd w1 w2 o b n1).mono (by omega), by omega, fun H' p' l' s' h1 h2 h3 => k H' p' l' (s1.trans s') (s1.free h1) (s1.free h2) h3⟩
end

section
variable {P : Program} {w : World} {K : PySem.W.Frag} {mg : Str → Option Value} {base : Heap}
structure DvI (a b A B X Y : Int) : Prop where
  A0 : 0 < A
  B0 : 0 ≤ B
  p : ∃ p, a * X + b * p = A
  q : ∃ q, a * Y + b * q = B
  dv : ∀ d, d ∣ A → d ∣ B → d ∣ a ∧ d ∣ b
  uv : ∃ u v : Int, 0 ≤ u ∧ 0 ≤ v ∧ u * B + v * A = b ∧ u ≤ b ∧ ((X = u ∧ Y = -v) ∨ (X = -u ∧ Y = v))
theorem dv_start {a b : Int} (ha : 0 < a) (hb : 0 < b) : DvI a b a b 1 0 :=
  ⟨ha, Int.le_of_lt hb, ⟨0, by rw [Int.mul_one, Int.mul_zero, Int.add_zero]⟩, ⟨1, by rw [Int.mul_one, Int.mul_zero, Int.zero_add]⟩, fun d h1 h2 => ⟨h1, h2⟩,
    1, 0, by decide, by decide, by rw [Int.one_mul, Int.zero_mul, Int.add_zero], hb, .inl ⟨rfl, rfl⟩⟩
theorem dv_bd {a b A B X Y : Int} (h : DvI a b A B X Y) : -b ≤ X ∧ X ≤ b ∧ -b ≤ Y ∧ Y ≤ b ∧ 0 ≤ b := by
  obtain ⟨u, v, u0, v0, e, ub, c⟩ := h.uv
  have A0 := h.A0
  have := Int.mul_nonneg u0 h.B0
  have := Int.mul_le_mul_of_nonneg_left (show 1 ≤ A from A0) v0
  omega
theorem dv_step {a b A B X Y : Int} (h : DvI a b A B X Y) (hB : 0 < B) : DvI a b B (A - A / B * B) Y (X - A / B * Y) ∧ A - A / B * B < B ∧ 0 ≤ A / B ∧ A / B ≤ A := by
  have A0 := h.A0
  have em := Int.emod_add_mul_ediv A B
  have m1 := Int.emod_lt_of_pos A hB
  have m0 := Int.emod_nonneg A (show B ≠ 0 by omega)
  have eq : A / B * B = B * (A / B) := Int.mul_comm _ _
  have q0 : 0 ≤ A / B := Int.ediv_nonneg (by omega) (by omega)
  have q1 : A / B ≤ A := by
    have := Int.mul_le_mul_of_nonneg_right (show 1 ≤ B from hB) q0
    omega
  obtain ⟨p, hp⟩ := h.p
  obtain ⟨r, hr⟩ := h.q
  obtain ⟨u, v, u0, v0, e, ub, c⟩ := h.uv
  generalize A / B = Q at *
  have e1 : a * (X - Q * Y) + b * (p - Q * r) = A - Q * B := by
    rw [Int.mul_sub, Int.mul_sub, Int.mul_left_comm a Q Y, Int.mul_left_comm b Q r, ← hp, ← hr, Int.mul_add]
    omega
  refine ⟨⟨hB, by omega, ⟨r, hr⟩, ⟨p - Q * r, e1⟩, fun d h1 h2 => ?_, ?_⟩, by omega, q0, q1⟩
  · refine h.dv d ?_ h1
    have h3 : d ∣ Q * B := Int.dvd_trans h1 (Int.dvd_mul_left Q B)
    have := Int.dvd_add h2 h3
    rw [Int.sub_add_cancel] at this
    exact this
  · have e2 : v * (A - Q * B) + (u + Q * v) * B = b := by
      rw [Int.mul_sub, Int.add_mul, Int.mul_left_comm v Q B, Int.mul_assoc Q v B]
      omega
    refine ⟨v, u + Q * v, v0, by have := Int.mul_nonneg q0 v0; omega, e2, ?_, ?_⟩
    · have := Int.mul_nonneg u0 h.B0
      have := Int.mul_le_mul_of_nonneg_left (show 1 ≤ A from A0) v0
      omega
    · rcases c with ⟨c1, c2⟩ | ⟨c1, c2⟩
      · refine .inr ⟨c2, ?_⟩
        rw [c1, c2, Int.mul_neg]
        omega
      · refine .inl ⟨c2, ?_⟩
        rw [c1, c2]
        omega
def sp_divd : Sp := fun vs H Q _ => ∃ a b : Int, vs = [.int a, .int b] ∧ 0 < a ∧ 0 < b ∧ a ≤ LW ∧ b ≤ LW ∧
  ∀ (H' : Hp) (T : Addr) (g x y : Int), Same H H' → H' T = some (.tup [.int g, .int x]) → 0 < g → g ∣ a → g ∣ b → a * x + b * y = g → -b ≤ x → x ≤ b → Q (.ref T) H'
theorem sc_divd : FnScope ["one", "other", "x", "y", "share"] ["one", "other"] (defScope s_divd) := ⟨rfl, rfl, rfl, by decide +kernel, rfl, by decide +kernel, by decide +kernel⟩
theorem ok_divd (T : Tx K mg) : FK P w K mg base 1 (He.ga K "divided") ["one", "other"] (sp_divd) := by
  refine fk_of T.f_divd sc_divd (fun vs H Q E h => ?_) (fun _ _ _ _ _ _ us hl => match us, hl with | [_, _], _ => rfl) (fun cdv A outer s H vs Q E hr h => ?_)
  · obtain ⟨a, b, rfl, ha, hb, a1, b1, k⟩ := h
    rfl
  · obtain ⟨a, b, rfl, ha, hb, a1, b1, k⟩ := h
    refine ⟨_, (pss_cons (ps_asg (pe_tup (pa_cons (pe_int) (pa_cons (pe_int) pa_nil))) (pg_tup rfl (pgs_cons (pg_name (i := 2) sc_divd.nd rfl (Or.inl rfl)) (pgs_cons (pg_name (i := 3) sc_divd.nd rfl (Or.inl rfl)) pgs_nil))))
      (pss_cons (ps_while PassesOwn.never (pt_cmpR op_gt (pv 1) (pe_int) (nomark _)) (pss_cons (ps_set (i := 4) sc_divd.nd rfl (Or.inl rfl) (pe_op op_fdivW (pv 0) (pv 1)))
        (pss_cons (ps_par (i := 0) (j := 1) (by rfl) sc_divd.nd rfl rfl (by decide) rfl rfl (pa_cons (pv 1) (pa_cons (pe_op op_sub (pv 0) (pe_op op_mulW (pv 4) (pv 1))) pa_nil)) (by rfl))
        (pss_one (ps_par (i := 2) (j := 3) (by rfl) sc_divd.nd rfl rfl (by decide) rfl rfl (pa_cons (pv 3) (pa_cons (pe_op op_sub (pv 2) (pe_op op_mulW (pv 4) (pv 3))) pa_nil)) (by rfl))))))
      (pss_one (ps_ret (pe_tup (pa_cons (pv 0) (pa_cons (pv 2) pa_nil))))))), ?_⟩
    have lw := LW_LB
    have lb := LW_big
    refine ⟨sl2, fun t ht => ⟨_, _, rfl, SqT.of upd_same, rfl, _, _, rfl, _, _, rfl, rfl, ?_⟩⟩
    have st : Same H (upd H t (.tup [.int 1, .int 0])) := Same.new ht
    refine while_by (fun σ H' => Same H H' ∧ ∃ A B X Y sh, σ = [some (.int A), some (.int B), some (.int X), some (.int Y), sh] ∧ A ≤ LW ∧ B ≤ LW ∧ DvI a b A B X Y) (fun (σ : L2.St) _ => match σ[1]? with | some (some (V.int n)) => n.toNat | _ => 0) ⟨st, a, b, 1, 0, _, rfl, a1, b1, dv_start ha hb⟩ ?_ ?_
    · rintro σ H1 ⟨s1, A, B, X, Y, sh, rfl, A1, B1, I⟩
      have A0 := I.A0
      have B0 := I.B0
      obtain ⟨x1, x2, y1, y2, _⟩ := dv_bd I
      walk_at "rd"
      by_cases q : 0 < B
      · obtain ⟨J, z1, z2, z3⟩ := dv_step I q
        rw [decide_eq_true q]
        walk_at "rd"
        refine ⟨⟨s1, B, A - A / B * B, Y, X - A / B * Y, _, rfl, B1, by omega, J⟩, ?_⟩
        show (A - A / B * B).toNat < B.toNat
        omega
      · rw [decide_eq_false q]
        have B2 : B = 0 := by omega
        subst B2
        obtain ⟨p, hp⟩ := I.p
        obtain ⟨d1, d2⟩ := I.dv A (Int.dvd_refl A) (Int.dvd_zero A)
        walk_at "rd"
        exact ⟨sl2, fun T hT => k _ T A X p (s1.trans (Same.new hT)) upd_same A0 d1 d2 hp x1 x2⟩
    · rintro σ H Q Q' hq ⟨v, h1, i, j, h2, h3, c, h4, h5⟩
      exact ⟨v, h1, i, j, h2, h3, c, h4, hq _ _ h5⟩
end

section
variable {P : Program} {w : World} {K : PySem.W.Frag} {mg : Str → Option Value} {base : Heap}
theorem LQ_sq : LQ * LQ + 1000000 * LQ ≤ LB := by decide +kernel
theorem iteD {c : Prop} {d : Decidable c} {A B : Prop} (h : c) (k : A) : if @decide c d = true then A else B := by
  rw [if_pos (decide_eq_true h)]
  exact k
theorem iteE {c : Prop} {d : Decidable c} {A B : Prop} (h : ¬ c) (k : B) : if @decide c d = true then A else B := by
  rw [if_neg (by rw [decide_eq_false h]; decide)]
  exact k
def sp_comT (K : PySem.W.Frag) : Sp := fun vs H Q _ => ∃ (v u : V) (a b : Tr) (c1 c2 M : Int), vs = [v, u] ∧ TrV K H v a ∧ TrV K H u b ∧ OkT a ∧ OkT b ∧ Bd M a ∧ Bd M b ∧ a.c = some c1 ∧ b.c = some c2 ∧ 1 ≤ M ∧ M * M ≤ LQ ∧
  ∀ (H' : Hp) (l' : Addr) (cs : List Tr), Same H H' → H l' = none → LsA K H' l' cs → (cs = [] ∨ ∃ c, cs = [c]) → (∀ c, c ∈ cs → OkT c ∧ c.c ≠ none ∧ Bd LQ c) → (∀ x, MemL cs x ↔ Mem a x ∧ Mem b x) → Q (.ref l') H'
theorem sc_comT : FnScope ["one", "other", "greatest", "share", "gap", "step", "meet", "low", "start", "lasts", "train"] ["one", "other"] (defScope s_comT) := ⟨rfl, rfl, rfl, by decide +kernel, rfl, by decide +kernel, by decide +kernel⟩
theorem ok_comT (T : Tx K mg) : FK P w K mg base 2 (He.ga K "common_train") ["one", "other"] (sp_comT K) := by
  refine fk_of T.f_comT sc_comT (fun vs H Q E h => ?_) (fun _ _ _ _ _ _ us hl => match us, hl with | [_, _], _ => rfl) (fun cdv A outer s H vs Q E hr h => ?_)
  · obtain ⟨v, u, ⟨s1, d1, _⟩, ⟨s2, d2, _⟩, c1, c2, M, rfl, ⟨p, rfl, hp⟩, ⟨q, rfl, hq⟩, oa, ob, ba, bb, ⟨⟩, ⟨⟩, m1, mm, k⟩ := h
    rfl
  · obtain ⟨v, u, ⟨s1, d1, _⟩, ⟨s2, d2, _⟩, c1, c2, M, rfl, ⟨p, rfl, hp⟩, ⟨q, rfl, hq⟩, oa, ob, ba, bb, ⟨⟩, ⟨⟩, m1, mm, k⟩ := h
    refine ⟨_, (pss_cons (ps_asg (pe_callF (ok_divd T) (hr.mono (by decide)) T.g_divd (pa_cons (pe_ix ix_tup (pv 0) (pe_int) (fun _ _ => rfl)) (pa_cons (pe_ix ix_tup (pv 1) (pe_int) (fun _ _ => rfl)) pa_nil))) (pg_tup rfl (pgs_cons (pg_name (i := 2) sc_comT.nd rfl (Or.inl rfl)) (pgs_cons (pg_name (i := 3) sc_comT.nd rfl (Or.inl rfl)) pgs_nil))))
      (pss_cons (ps_set (i := 4) sc_comT.nd rfl (Or.inl rfl) (pe_op op_sub (pe_ix ix_tup (pv 1) (pe_int) (fun _ _ => rfl)) (pe_ix ix_tup (pv 0) (pe_int) (fun _ _ => rfl))))
      (pss_cons (ps_if (pt_cmpR op_ne (pe_op op_mod (pv 4) (pv 2)) (pe_int) (nomark _)) (pss_one (ps_ret (pe_lst pa_nil))) pss_nil)
      (pss_cons (ps_set (i := 5) sc_comT.nd rfl (Or.inl rfl) (pe_op op_mulW (pe_op op_fdivW (pe_ix ix_tup (pv 0) (pe_int) (fun _ _ => rfl)) (pv 2)) (pe_ix ix_tup (pv 1) (pe_int) (fun _ _ => rfl))))
      (pss_cons (ps_set (i := 6) sc_comT.nd rfl (Or.inl rfl) (pe_op op_add (pe_ix ix_tup (pv 0) (pe_int) (fun _ _ => rfl)) (pe_op op_mulW (pe_op op_mod (pe_op op_mulW (pe_op op_fdivW (pv 4) (pv 2)) (pv 3)) (pe_op op_fdivW (pe_ix ix_tup (pv 1) (pe_int) (fun _ _ => rfl)) (pv 2))) (pe_ix ix_tup (pv 0) (pe_int) (fun _ _ => rfl)))))
      (pss_cons (ps_set (i := 7) sc_comT.nd rfl (Or.inl rfl) (pe_callB (call_max2 rfl) (by rfl) T.b_max b_max (pa_cons (pe_ix ix_tup (pv 0) (pe_int) (fun _ _ => rfl)) (pa_cons (pe_ix ix_tup (pv 1) (pe_int) (fun _ _ => rfl)) pa_nil))))
      (pss_cons (ps_set (i := 8) sc_comT.nd rfl (Or.inl rfl) (pe_op op_add (pv 7) (pe_op op_mod (pe_op op_sub (pv 6) (pv 7)) (pv 5))))
      (pss_cons (ps_setLc (i := 9) (own := [("train", 10)]) rfl sc_comT.nd rfl rfl (sw_true rfl rfl rfl (by decide +kernel)) (pi_tup (pe_tup (pa_cons (pv 0) (pa_cons (pv 1) pa_nil)))) (blkOk_by (N := ["one", "other", "greatest", "share", "gap", "step", "meet", "low", "start", "lasts", "train"]) (sc := defScope s_comT) (by decide +kernel)) (fun _ _ _ _ _ => (pg_name (i := 10) sc_comT.nd rfl (Or.inl rfl))) (fun _ _ _ _ _ => (pts_one (pt_cmpR op_notN (pe_ix (show IxR _ (rIxT K) from ix_tup) (pv 10) (pe_int) (fun _ _ => rfl)) (pe_non) (nomark _)))) (fun _ _ _ _ _ => (pe_callF (ok_lastO T) (hr.mono (by decide)) T.g_lastO (pa_cons (pv 10) pa_nil))))
      (pss_cons (ps_if (pt_cmpR (op_eqD hr.units) (pv 9) (pe_lst pa_nil) (nomark _)) (pss_one (ps_ret (pe_lst (pa_cons (pe_tup (pa_cons (pv 8) (pa_cons (pv 5) (pa_cons (pe_non) pa_nil)))) pa_nil)))) pss_nil)
      (pss_one (ps_ret (pe_ifExp (pt_cmpR op_le (pv 8) (pe_callB (cr_min rfl) (by rfl) T.b_min b_min (pa_cons (pv 9) pa_nil)) (nomark _)) (pe_lst (pa_cons (pe_tup (pa_cons (pv 8) (pa_cons (pv 5) (pa_cons (pe_op op_add (pe_op op_fdivW (pe_op op_sub (pe_callB (cr_min rfl) (by rfl) T.b_min b_min (pa_cons (pv 9) pa_nil)) (pv 8)) (pv 5)) (pe_int)) pa_nil)))) pa_nil)) (pe_lst pa_nil))))))))))))), ?_⟩
    have hp : H p = some (.tup [.int s1, .int d1, .int c1]) := hp
    have hq : H q = some (.tup [.int s2, .int d2, .int c2]) := hq
    have a1 : 1 ≤ d1 := oa.d1
    have b1 : 1 ≤ d2 := ob.d1
    have a2 : 0 ≤ s1 := oa.s0
    have b2 : 0 ≤ s2 := ob.s0
    have a3 : d1 ≤ M := ba.d
    have b3 : d2 ≤ M := bb.d
    have a4 : s1 ≤ M := ba.s
    have b4 : s2 ≤ M := bb.s
    have lh := LH_LW
    have lq := LQ_LH
    have l1 := LQ_1
    have lw := LW_LB
    have ls := LQ_sq
    have mM : M ≤ M * M := by
      have := Int.mul_le_mul_of_nonneg_left m1 (show 0 ≤ M by omega)
      omega
    walk_at "rd"
    refine ⟨by omega, by omega, fun H1 T g x y S1 hT g0 ga gb e x1 x2 => ?_⟩
    have hp1 := S1 _ _ hp
    have hq1 := S1 _ _ hq
    refine ⟨_, _, rfl, SqT.of hT, rfl, _, _, rfl, _, _, rfl, rfl, ?_⟩
    walk_at "rd"
    have g1 : g ≤ d1 := Int.le_of_dvd (by omega) ga
    by_cases hg : (s2 - s1) % g = 0
    · rw [vT hg]
      have i1 : 1 ≤ d1 / g ∧ d1 / g ≤ M := ⟨by rw [Int.le_ediv_iff_mul_le g0]; omega, (ediv_bd (M := M) (by omega) (by omega) a3).2⟩
      have i2 : 1 ≤ d2 / g ∧ d2 / g ≤ M := ⟨by rw [Int.le_ediv_iff_mul_le g0]; have := Int.le_of_dvd (by omega) gb; omega, (ediv_bd (M := M) (by omega) (by omega) b3).2⟩
      obtain ⟨i1, i3⟩ := i1
      obtain ⟨i2, i4⟩ := i2
      obtain ⟨i5, i6⟩ := ediv_bd (M := M) (v := s2 - s1) (u := g) (by omega) (by omega) (by omega)
      have i7 := Int.emod_nonneg ((s2 - s1) / g * x) (show d2 / g ≠ 0 by omega)
      have i8 := Int.emod_lt_of_pos ((s2 - s1) / g * x) (show 0 < d2 / g by omega)
      obtain ⟨st0, st1⟩ := mulle (show 0 ≤ d1 / g by omega) (show 0 ≤ d2 by omega) i3 b3
      have st2 : 1 ≤ d1 / g * d2 := by
        have := Int.mul_le_mul_of_nonneg_right i1 (show 0 ≤ d2 by omega)
        omega
      walk_at "rd"
      refine ⟨sl2, fun tp htp => ⟨_, rfl, ⟨_, SqT.of upd_same⟩, fun D hD => ?_⟩⟩
      have S2 : Same H1 (upd H1 tp (.tup [.ref p, .ref q])) := Same.new htp
      have htp2 : upd H1 tp (.tup [.ref p, .ref q]) tp = some (.tup [.ref p, .ref q]) := upd_same
      have S3 : Same H (upd H1 tp (.tup [.ref p, .ref q])) := S1.trans S2
      generalize upd H1 tp (.tup [.ref p, .ref q]) = H2 at *
      obtain ⟨la, ela⟩ : ∃ la, lastOf ⟨s1, d1, some c1⟩ = la := ⟨_, rfl⟩
      obtain ⟨lb, elb⟩ : ∃ lb, lastOf ⟨s2, d2, some c2⟩ = lb := ⟨_, rfl⟩
      have la1 : la ≤ M := by rw [← ela]; exact ba.l (by simp)
      have lb1 : lb ≤ M := by rw [← elb]; exact bb.l (by simp)
      refine lc_it walk_tup (fun i H' => Same H2 H' ∧ H' D = some (.lst ((([la, lb] : List Int).take i).map V.int))) ⟨Same.new hD, upd_same⟩ (fun i H' _ h => SqT.of (h.1 _ _ htp2)) ?_ ?_
      · rintro i r H3 H4 hi ⟨s3, hb⟩ ⟨rfl, hu⟩
        have hi : i < 2 := hi
        have yy : ∃ (t : Tr) (r0 : Addr) (c : Int), r = .ref r0 ∧ H r0 = some (.tup [.int t.s, .int t.d, .int c]) ∧ WT t ∧ t.c = some c ∧ ([la, lb] : List Int)[i]? = some (lastOf t) := by
          rcases (show i = 0 ∨ i = 1 by omega) with z | z
          · subst z
            cases hu
            exact ⟨⟨s1, d1, some c1⟩, p, c1, rfl, hp, ⟨oa, ba.mono (by omega)⟩, rfl, by rw [ela]; rfl⟩
          · subst z
            cases hu
            exact ⟨⟨s2, d2, some c2⟩, q, c2, rfl, hq, ⟨ob, bb.mono (by omega)⟩, rfl, by rw [elb]; rfl⟩
        obtain ⟨t, r0, c, rfl, hr, wt, hc, hlt⟩ := yy
        have hr := (S3.trans s3) _ _ hr
        refine ⟨rfl, ?_⟩
        walk_at "rd"
        refine ⟨_, t, rfl, ⟨r0, rfl, by rw [hc]; exact hr⟩, wt, by rw [hc]; simp, _, hb, ?_, Same.mut s3 hD, ?_⟩
        · rw [List.length_map, List.length_take]
          exact Nat.lt_of_lt_of_le (m := 1001) (by show min i 2 < 1001; omega) (Nat.le_trans (by decide) slM)
        · rw [upd_same, List.take_add_one, hlt, List.map_append]
          rfl
      · rintro H3 ⟨s3, hb⟩
        have hb : H3 D = some (.lst [.int la, .int lb]) := hb
        refine ⟨_, rfl, Nat.zero_le _, fun e1 he1 => ?_⟩
        have S4 : Same H3 (upd H3 e1 (.lst [])) := Same.new he1
        have hb4 := S4 _ _ hb
        have S5 : Same H (upd H3 e1 (.lst [])) := (S3.trans s3).trans S4
        refine ⟨.list [.int la, .int lb], .list [], .lst (SqL.of hb4) (.cons (.int _) (.cons (.int _) .nil)), .lst (SqL.of upd_same) .nil, rfl, rfl, ?_⟩
        generalize upd H3 e1 (.lst []) = H4 at *
        refine ⟨_, rfl, iteF ?_⟩
        refine ⟨_, rfl, _, rfl, D, [la, lb], rfl, SqL.of hb4, by show 0 < 2; omega, fun m hm hle => ?_⟩
        have ma : m ≤ la := hle la List.mem_cons_self
        have mb : m ≤ lb := hle lb (List.mem_cons_of_mem _ List.mem_cons_self)
        have mo : m = la ∨ m = lb := by
          rcases List.mem_cons.mp hm with z | z
          · exact .inl z
          · exact .inr (List.mem_singleton.mp z)
        have z := common_spec (low := if s2 > s1 then s2 else s1) (m := m) oa ob rfl rfl g0 ga gb e hg rfl (by rw [ela, elb]; exact mo) (by rw [ela]; exact ma) (by rw [elb]; exact mb)
        dsimp only at z
        have hST : stepM d1 d2 g = d1 / g * d2 := rfl
        obtain ⟨z1, z2, z3, z4⟩ := z
        refine ⟨_, _, rfl, rfl, _, rfl, ?_⟩
        have lo0 : 0 ≤ (if s2 > s1 then s2 else s1) := by split <;> omega
        by_cases c : startM (if s2 > s1 then s2 else s1) (meetM s1 s2 d1 d2 g x) (stepM d1 d2 g) ≤ m
        · refine iteD c ?_
          obtain ⟨y1, y2⟩ := z3 c
          refine ⟨_, rfl, _, rfl, _, rfl, D, [la, lb], rfl, SqL.of hb4, by show 0 < 2; omega, fun m' hm' hle' => ?_⟩
          have em : m' = m := by
            have := hle' m hm
            have := hle m' hm'
            omega
          subst em
          refine ⟨_, rfl, _, _, rfl, rfl, _, rfl, _, _, rfl, rfl, show CDivW _ (d1 / g * d2) from (by walk_at "ar"), _, _, rfl, rfl, sl3, fun p2 hp2 => ⟨sl1, fun z hz => ?_⟩⟩
          obtain ⟨S, hS⟩ : ∃ S, startM (if s2 > s1 then s2 else s1) (meetM s1 s2 d1 d2 g x) (stepM d1 d2 g) = S := ⟨_, rfl⟩
          have np : p2 ≠ z := ne_of_none upd_same hz
          have S6 : Same H4 (upd (upd H4 p2 (.tup [.int (startM (if s2 > s1 then s2 else s1) (meetM s1 s2 d1 d2 g x) (stepM d1 d2 g)), .int (stepM d1 d2 g), .int ((m' - startM (if s2 > s1 then s2 else s1) (meetM s1 s2 d1 d2 g x) (stepM d1 d2 g)) / stepM d1 d2 g + 1)])) z (.lst [.ref p2])) :=
            (Same.new hp2).trans (Same.new hz)
          have lk : upd (upd H4 p2 (.tup [.int (startM (if s2 > s1 then s2 else s1) (meetM s1 s2 d1 d2 g x) (stepM d1 d2 g)), .int (stepM d1 d2 g), .int ((m' - startM (if s2 > s1 then s2 else s1) (meetM s1 s2 d1 d2 g x) (stepM d1 d2 g)) / stepM d1 d2 g + 1)])) z (.lst [.ref p2]) p2 = some (.tup [.int (startM (if s2 > s1 then s2 else s1) (meetM s1 s2 d1 d2 g x) (stepM d1 d2 g)), .int (stepM d1 d2 g), .int ((m' - startM (if s2 > s1 then s2 else s1) (meetM s1 s2 d1 d2 g x) (stepM d1 d2 g)) / stepM d1 d2 g + 1)]) := by
            rw [upd_ne np]
            exact upd_same
          have z0 : H4 z = none := by rw [upd_ne np.symm] at hz; exact hz
          refine k _ z [⟨startM (if s2 > s1 then s2 else s1) (meetM s1 s2 d1 d2 g x) (stepM d1 d2 g), stepM d1 d2 g, some ((m' - startM (if s2 > s1 then s2 else s1) (meetM s1 s2 d1 d2 g x) (stepM d1 d2 g)) / stepM d1 d2 g + 1)⟩] (S5.trans S6) (S5.free z0) ⟨[.ref p2], upd_same, .cons ⟨p2, rfl, lk⟩ .nil⟩ (.inr ⟨_, rfl⟩) ?_ ?_
          · intro c0 hc0
            have e0 := List.mem_singleton.mp hc0
            refine ⟨by rw [e0]; exact y1, by rw [e0]; simp, ?_⟩
            have ml := Mem.last y1 rfl
            have mle := ((y2 _).mp ml).1.le oa rfl
            rw [ela] at mle
            rw [e0]
            refine ⟨?_, ?_, fun _ => by omega⟩
            · show d1 / g * d2 ≤ LQ
              omega
            · show startM (if s2 > s1 then s2 else s1) (meetM s1 s2 d1 d2 g x) (stepM d1 d2 g) ≤ LQ
              omega
          · intro t
            rw [memL_cons]
            exact ⟨fun h => h.elim (fun h => (y2 t).mp h) fun h => (memL_nil.mp h).elim, fun h => .inl ((y2 t).mpr h)⟩
        · refine iteE c ⟨Nat.zero_le _, fun z hz => ?_⟩
          exact k _ z [] (S5.trans (Same.new hz)) (S5.free hz) ⟨[], upd_same, .nil⟩ (.inl rfl) (fun c hc => by simp at hc) fun t => ⟨fun h => (memL_nil.mp h).elim, fun h => (z4 c t h).elim⟩
    · rw [vF hg]
      walk_at "rd"
      refine ⟨Nat.zero_le _, fun z hz => ?_⟩
      refine k _ z [] (S1.trans (Same.new hz)) (S1.free hz) ⟨[], upd_same, .nil⟩ (.inl rfl) (fun c hc => by simp at hc) fun t => ⟨fun h => (memL_nil.mp h).elim, fun h => ?_⟩
      obtain ⟨h1, h2⟩ := h
      have h1 := ((mem_iff oa rfl t).mp h1).2.2
      have h2 := ((mem_iff ob rfl t).mp h2).2.2
      exact (crt_no ga gb hg t h1 h2).elim
end

section
variable {P : Program} {w : World} {K : PySem.W.Frag} {mg : Str → Option Value} {base : Heap}
theorem meas1 {A B i j n : Nat} (en : n = ((A : Int) + B - i - j).toNat) (h1 : i < A) (h2 : j < B) : ((A : Int) + B - ((i : Int) + 1) - j).toNat < n := by omega
theorem meas2 {A B i j n : Nat} (en : n = ((A : Int) + B - i - j).toNat) (h1 : i < A) (h2 : j < B) : ((A : Int) + B - (i : Int) - ((j : Int) + 1)).toNat < n := by omega
def sp_shar (K : PySem.W.Frag) : Sp := fun vs H Q _ => ∃ (x l y m : Addr) (a b : List Tr) (M : Int), vs = [.ref x, .ref y] ∧ TsA K H x l a ∧ TsA K H y m b ∧ Ord a ∧ Ord b ∧ Fin a ∧ Fin b ∧ BdL M a ∧ BdL M b ∧ 1 ≤ M ∧ M * M ≤ LQ ∧ a.length + b.length ≤ 1000 ∧
  ∀ us, Ord us → (∀ z, MemL us z ↔ MemL a z ∧ MemL b z) → NewTs K H Q (allJ us)
theorem sc_shar : FnScope ["one", "other", "found", "at", "place", "left", "right"] ["one", "other"] (defScope s_shar) := ⟨rfl, rfl, rfl, by decide +kernel, rfl, by decide +kernel, by decide +kernel⟩
theorem ok_shar (T : Tx K mg) : FK P w K mg base 7 (He.ga K "shared") ["one", "other"] (sp_shar K) := by
  refine fk_of T.f_shar sc_shar (fun vs H Q E h => ?_) (fun _ _ _ _ _ _ us hl => match us, hl with | [_, _], _ => rfl) (fun cdv A outer s H vs Q E hr h => ?_)
  · obtain ⟨x, l, y, m, a, b, M, rfl, ⟨⟨dx, hx⟩, us, hl, hp⟩, ⟨⟨dy, hy⟩, vs, hm, hq⟩, oa, ob, fa, fb, ba, bb, m1, mm, len, k⟩ := h
    rfl
  · obtain ⟨x, l, y, m, a, b, M, rfl, ⟨⟨dx, hx⟩, us, hl, hp⟩, ⟨⟨dy, hy⟩, vs, hm, hq⟩, oa, ob, fa, fb, ba, bb, m1, mm, len, k⟩ := h
    refine ⟨_, (pss_cons (ps_par3 (i := 2) (j := 3) (l := 4) (by rfl) sc_shar.nd rfl rfl rfl (by decide) (by decide) (by decide) rfl rfl rfl (pa_cons (pe_lst pa_nil) (pa_cons (pe_int) (pa_cons (pe_int) pa_nil))) (by rfl))
      (pss_cons (ps_while PassesOwn.never (PW.pt (pw_and (pt_cmpR op_lt (pv 3) (pe_callB call_len_seq (by rfl) T.b_len b_len (pa_cons (pe_fld (pv 0) rfl) pa_nil)) (nomark _)) (pw_and1 (pt_cmpR op_lt (pv 4) (pe_callB call_len_seq (by rfl) T.b_len b_len (pa_cons (pe_fld (pv 1) rfl) pa_nil)) (nomark _))))) (pss_cons (ps_par (i := 5) (j := 6) (by rfl) sc_shar.nd rfl rfl (by decide) rfl rfl (pa_cons (pe_ix ix_list (pe_fld (pv 0) rfl) (pv 3) (fun _ _ => rfl)) (pa_cons (pe_ix ix_list (pe_fld (pv 1) rfl) (pv 4) (fun _ _ => rfl)) pa_nil)) (by rfl))
        (pss_cons (ps_expr (pe_bm PySem.F.plainAttrs_list PySem.F.slot_list_extend PySem.F.type_list_extend mt_extend (pv 2) (pa_cons (pe_callF (ok_comT T) (hr.mono (by decide)) T.g_comT (pa_cons (pv 5) (pa_cons (pv 6) pa_nil))) pa_nil)))
        (pss_one (ps_if (PW.pt (pw_or (pt_cmpR op_isN (pe_ix ix_tup (pv 6) (pe_int) (fun _ _ => rfl)) (pe_non) (nomark _)) (pw_or1 (PW.pt (pw_and (pt_cmpR op_notN (pe_ix ix_tup (pv 5) (pe_int) (fun _ _ => rfl)) (pe_non) (nomark _)) (pw_and1 (pt_cmpR op_le (pe_callF (ok_lastO T) (hr.mono (by decide)) T.g_lastO (pa_cons (pv 5) pa_nil)) (pe_callF (ok_lastO T) (hr.mono (by decide)) T.g_lastO (pa_cons (pv 6) pa_nil)) (nomark _)))))))) (pss_one (ps_set (i := 3) sc_shar.nd rfl (Or.inl rfl) (pe_op op_add (pv 3) (pe_int)))) (pss_one (ps_set (i := 4) sc_shar.nd rfl (Or.inl rfl) (pe_op op_add (pv 4) (pe_int)))))))))
      (pss_one (ps_ret (pe_callF (ok_made T) (hr.mono (by decide)) T.g_made (pa_cons (pv 2) pa_nil)))))), ?_⟩
    have ea := pLen hp
    have eb := pLen hq
    have lh := LH_LW
    have lq := LQ_LH
    have l1 := LQ_1
    have mM : M ≤ M * M := by
      have := Int.mul_le_mul_of_nonneg_left m1 (show 0 ≤ M by omega)
      omega
    refine ⟨Nat.zero_le _, fun g hg => ?_⟩
    refine ⟨_, _, _, rfl, ?_⟩
    refine ⟨fun n σ H' => n = (match σ[3]?, σ[4]? with | some (some (V.int i)), some (some (V.int j)) => ((a.length : Int) + b.length - i - j).toNat | _, _ => 0) ∧
      Same H H' ∧ ∃ (i j : Nat) (cs : List Tr) (zs : List V) (x5 x6 : Option V), σ = [some (.ref x), some (.ref y), some (.ref g), some (.int i), some (.int j), x5, x6] ∧ H' g = some (.lst zs) ∧ TrVs K H' zs cs ∧ ShInv a b i j cs ∧ i ≤ a.length ∧ j ≤ b.length ∧ (∀ u, u ∈ cs → Bd LQ u),
      ⟨_, rfl, Same.new hg, 0, 0, [], [], _, _, rfl, upd_same, .nil, sh_start a b, Nat.zero_le _, Nat.zero_le _, fun u hu => by simp at hu⟩, ?_⟩
    rintro n σ H1 ⟨en, s1, i, j, cs, zs, x5, x6, rfl, hz, hzs, I, ia, jb, bc⟩
    replace en : n = ((a.length : Int) + b.length - i - j).toNat := en
    have hx1 := s1 _ _ hx
    have hy1 := s1 _ _ hy
    have hl1 := s1 _ _ hl
    have hm1 := s1 _ _ hm
    have fin : (a.length ≤ i ∨ b.length ≤ j) → ∃ (l' : Addr) (ts : List Tr), [V.ref g] = [.ref l'] ∧ LsA K H1 l' ts ∧ Ord ts ∧ BdL LQ ts ∧ ts.length ≤ 1000 ∧ NewTs K H1 Q (allJ ts) := fun he =>
      ⟨g, cs, rfl, ⟨zs, hz, hzs⟩, I.ord, bc, by have := I.len; omega, fun H' p' l' s' h1 h2 h3 => k cs I.ord (sh_end I he) H' p' l' (s1.trans s') (s1.free h1) (s1.free h2) h3⟩
    walk_at "rd"
    by_cases c1 : (i : Int) < us.length
    · refine iteD c1 ?_
      walk_at "rd"
      by_cases c2 : (j : Int) < vs.length
      · refine iteD c2 ?_
        refine ⟨_, fun σ' H' h => h, ?_⟩
        have c1' : i < us.length := by omega
        have c2' : j < vs.length := by omega
        obtain ⟨ta, hta, va⟩ := pAt hp (List.getElem?_eq_getElem c1')
        obtain ⟨tb, htb, vb⟩ := pAt hq (List.getElem?_eq_getElem c2')
        obtain ⟨pa, epa, ha⟩ := va.mono s1
        obtain ⟨pb, epb, hb⟩ := vb.mono s1
        have ix1 : atI us (i : Int) = some (V.ref pa) := by rw [← epa]; exact atI_nat (List.getElem?_eq_getElem c1')
        have ix2 : atI vs (j : Int) = some (V.ref pb) := by rw [← epb]; exact atI_nat (List.getElem?_eq_getElem c2')
        have ma := List.mem_of_getElem? hta
        have mb := List.mem_of_getElem? htb
        obtain ⟨ca, hca⟩ : ∃ c, ta.c = some c := by
          cases q : ta.c with
          | none => exact absurd q (fa ta ma)
          | some c => exact ⟨c, rfl⟩
        obtain ⟨cb, hcb⟩ : ∃ c, tb.c = some c := by
          cases q : tb.c with
          | none => exact absurd q (fb tb mb)
          | some c => exact ⟨c, rfl⟩
        have m2 := pLen hzs
        walk_at "rd"
        refine ⟨Or.inl ⟨rfl, _, SqL.of hz⟩, ?_⟩
        walk_at "rd"
        refine ⟨_, _, ta, tb, ca, cb, M, rfl, ⟨pa, rfl, ha⟩, ⟨pb, rfl, hb⟩, oa.all ta ma, ob.all tb mb, ba ta ma, bb tb mb, hca, hcb, m1, mm, fun H2 l2 ds s2 hl2 ⟨ws, hw, hws⟩ d1 d2 d3 => ?_⟩
        have hz2 := s2 _ _ hz
        have m3 := pLen hws
        have m4 : ds.length ≤ 1 := by
          rcases d1 with e | ⟨c, e⟩ <;> rw [e] <;> simp
        have m5 := I.len
        refine ⟨g, l2, zs, ws, rfl, rfl, hz2, hw, Nat.le_trans (m := 2001) (by omega) (Nat.le_trans (by decide) slM), ?_⟩
        have f1 : Same H (upd H2 g (.lst (zs ++ ws))) := Same.mut (s1.trans s2) hg
        have f2 : upd H2 g (.lst (zs ++ ws)) g = some (.lst (zs ++ ws)) := upd_same
        have f3 : TrVs K (upd H2 g (.lst (zs ++ ws))) (zs ++ ws) (cs ++ ds) := TrVs.updL hz2 (pApp (hzs.mono s2) hws)
        have ta' : TrV K (upd H2 g (.lst (zs ++ ws))) (.ref pa) ta := (TrV.mono (t := ta) s2 ⟨pa, rfl, ha⟩).updL hz2
        have tb' : TrV K (upd H2 g (.lst (zs ++ ws))) (.ref pb) tb := (TrV.mono (t := tb) s2 ⟨pb, rfl, hb⟩).updL hz2
        generalize upd H2 g (.lst (zs ++ ws)) = H3 at *
        have ha3 : H3 pa = some (.tup [.int ta.s, .int ta.d, .int ca]) := by
          obtain ⟨_, e, h⟩ := ta'
          cases e
          rw [h, hca]
          rfl
        have hb3 : H3 pb = some (.tup [.int tb.s, .int tb.d, .int cb]) := by
          obtain ⟨_, e, h⟩ := tb'
          cases e
          rw [h, hcb]
          rfl
        obtain ⟨st1, st2⟩ := sh_step (cs := ds) I oa ob fa fb hta htb d1 (fun c hc => ⟨(d2 c hc).1, (d2 c hc).2.1⟩) d3
        have bc2 : ∀ u, u ∈ cs ++ ds → Bd LQ u := fun u hu => by
          rcases List.mem_append.mp hu with h | h
          · exact bc u h
          · exact (d2 u h).2.2
        walk_at "rd"
        refine ⟨_, ta, rfl, ta', ⟨oa.all ta ma, (ba ta ma).mono (by omega)⟩, by rw [hca]; simp, ?_⟩
        walk_at "rd"
        refine ⟨_, tb, rfl, tb', ⟨ob.all tb mb, (bb tb mb).mono (by omega)⟩, by rw [hcb]; simp, ?_⟩
        walk_at "rd"
        by_cases c3 : lastOf ta ≤ lastOf tb
        · refine iteD c3 ?_
          walk_at "rd"
          refine ⟨_, ?_, rfl, f1, i + 1, j, cs ++ ds, zs ++ ws, _, _, rfl, f2, f3, st1 c3, by omega, jb, bc2⟩
          exact meas1 en (ea ▸ c1') (eb ▸ c2')
        · refine iteE c3 ?_
          walk_at "rd"
          refine ⟨_, ?_, rfl, f1, i, j + 1, cs ++ ds, zs ++ ws, _, _, rfl, f2, f3, st2 c3, ia, by omega, bc2⟩
          exact meas2 en (ea ▸ c1') (eb ▸ c2')
      · refine iteE c2 ?_
        exact ⟨_, rfl, fin (.inr (by omega))⟩
    · refine iteE c1 ?_
      exact ⟨_, rfl, fin (.inl (by omega))⟩
end

section
variable {P : Program} {w : World} {K : PySem.W.Frag} {mg : Str → Option Value} {base : Heap}
/-! ### a heap but for one address -/
def hide (D : Addr) (H : Hp) : Hp := fun b => if b = D then none else H b
theorem hide_ne {D b : Addr} {H : Hp} (h : b ≠ D) : hide D H b = H b := if_neg h
theorem hide_at {D b : Addr} {H : Hp} {o : HO} (h : hide D H b = some o) : b ≠ D ∧ H b = some o := by
  unfold hide at h
  split at h
  · cases h
  · rename_i q
    exact ⟨q, h⟩
theorem hide_same {D : Addr} {H : Hp} : Same (hide D H) H := fun b o h => (hide_at h).2
theorem hide_mono {D : Addr} {H H' : Hp} (s : Same H H') : Same (hide D H) (hide D H') := fun b o h => by
  obtain ⟨h1, h2⟩ := hide_at h
  rw [hide_ne h1]
  exact s b o h2
theorem hide_upd {D : Addr} {H : Hp} {o : HO} : hide D (upd H D o) = hide D H := by
  funext b
  unfold hide
  by_cases q : b = D
  · rw [if_pos q, if_pos q]
  · rw [if_neg q, if_neg q, upd_ne q]
theorem hide_new {D : Addr} {H : Hp} (h : H D = none) : Same H (hide D H) := fun b o e => by
  rw [hide_ne (ne_of_none e h)]
  exact e
/-- what stands in H stands in H', though something new is hidden -/
theorem hide_into {D : Addr} {H H' : Hp} (s : Same H H') (h : H D = none) : Same H (hide D H') := (hide_new h).trans (hide_mono s)
theorem hide_free {D b : Addr} {H : Hp} (h : H b = none) : hide D H b = none := by
  unfold hide
  split
  · rfl
  · exact h
/-! ### outages -/
def OutV (H : Hp) (v : V) (o : Int × Int) : Prop := ∃ a, v = .ref a ∧ H a = some (.tup [.int o.1, .int o.2])
theorem OutV.mono {H H' : Hp} (e : Same H H') {v : V} {o : Int × Int} (h : OutV H v o) : OutV H' v o := by
  obtain ⟨a, h1, h2⟩ := h
  exact ⟨a, h1, e _ _ h2⟩
abbrev OutVs (H : Hp) (vs : List V) (ds : List (Int × Int)) : Prop := Paired (OutV H) vs ds
theorem OutVs.mono {H H' : Hp} (e : Same H H') {vs : List V} {ds : List (Int × Int)} (h : OutVs H vs ds) : OutVs H' vs ds := pImp (fun _ _ => OutV.mono e) h
def sp_isOut (_ : PySem.W.Frag) : Sp := fun vs H Q _ => ∃ (v : V) (o : Int × Int) (lo : Int), vs = [v, .int lo] ∧ OutV H v o ∧ lo ≤ o.1 ∧ o.1 < o.2 ∧ o.2 ≤ 1000000000000000000000000000000 ∧ ∀ H', Same H H' → Q (.bl true) H'
theorem and3 {a b c : Prop} {x : Decidable a} {y : Decidable b} {z : Decidable c} (h1 : a) (h2 : b) (h3 : c) : (decide a && (decide b && decide c)) = true := by
  rw [decide_eq_true h1, decide_eq_true h2, decide_eq_true h3]
  rfl
theorem sc_isOut : FnScope ["value", "low", "part"] ["value", "low"] (defScope s_isOut) := ⟨rfl, rfl, rfl, by decide +kernel, rfl, by decide +kernel, by decide +kernel⟩
theorem ok_isOut (T : Tx K mg) : FK P w K mg base 2 (He.ga K "is_outage") ["value", "low"] (sp_isOut K) := by
  refine fk_of T.f_isOut sc_isOut (fun vs H Q E h => ?_) (fun _ _ _ _ _ _ us hl => match us, hl with | [_, _], _ => rfl) (fun cdv A outer s H vs Q E hr h => ?_)
  · obtain ⟨v, ⟨b, e⟩, lo, rfl, ⟨a, rfl, ha⟩, h1, h2, h3, k⟩ := h
    rfl
  · obtain ⟨v, ⟨b, e⟩, lo, rfl, ⟨a, rfl, ha⟩, h1, h2, h3, k⟩ := h
    obtain ⟨_, t_MOST_END⟩ := T.i_MOST_END
    refine ⟨_, (pss_cons (ps_if (PW.pt (pw_or (pt_not (pt_val (pe_isi T.b_isinstance (pa_cons (pv 0) (pa_cons (pe_tyN T.b_tuple b_tuple) pa_nil))))) (pw_or (pt_cmpR op_ne (pe_callB call_len_seq (by rfl) T.b_len b_len (pa_cons (pv 0) pa_nil)) (pe_int) (nomark _)) (pw_or1 (pt_not (pt_val (pe_callB (cr_all rfl) (by rfl) T.b_all b_all (pa_cons (pe_lc (own := [("part", 2)]) rfl sc_isOut.nd (pi_tup (pv 0)) (blkOk_by (N := ["value", "low", "part"]) (sc := defScope s_isOut) (by decide +kernel)) (fun _ _ _ _ _ => (pg_name (i := 2) sc_isOut.nd rfl (Or.inl rfl))) (fun _ _ _ _ _ => pts_nil) (fun _ _ _ _ _ => (pe_callF (ok_isInt T) (hr.mono (by decide)) T.g_isInt (pa_cons (pv 2) pa_nil)))) pa_nil)))))))) (pss_one (ps_ret (pe_bl))) pss_nil)
      (pss_one (ps_ret (pe_chain3 op_le op_lt op_le (pv 1) (pe_ix ix_tup (pv 0) (pe_int) (fun _ _ => rfl)) (pe_ix ix_tup (pv 0) (pe_int) (fun _ _ => rfl)) (pe_glob (v := .int 1000000000000000000000000000000) (by rfl) t_MOST_END ⟨_, rfl⟩))))), ?_⟩
    have ha : H a = some (.tup [.int b, .int e]) := ha
    have h1 : lo ≤ b := h1
    have h2 : b < e := h2
    have h3 : e ≤ 1000000000000000000000000000000 := h3
    walk_at "rd"
    refine ⟨⟨_, SqT.of ha⟩, fun D hD => ?_⟩
    refine lc_it walk_tup (fun i H' => Same H H' ∧ H' D = some (.lst ((List.replicate i true).map V.bl))) ⟨Same.new hD, upd_same⟩ (fun i H' _ h => SqT.of (h.1 _ _ ha)) ?_ ?_
    · rintro i r H1 H2 hi ⟨s1, hb⟩ ⟨rfl, hu⟩
      have hi : i < 2 := hi
      have : ∃ n, r = .int n := by
        rcases (show i = 0 ∨ i = 1 by omega) with z | z
        · subst z
          cases hu
          exact ⟨_, rfl⟩
        · subst z
          cases hu
          exact ⟨_, rfl⟩
      obtain ⟨n, rfl⟩ := this
      refine ⟨rfl, ?_⟩
      walk_at "rd"
      refine ⟨_, hb, ?_, Same.mut s1 hD, ?_⟩
      · rw [List.length_map, List.length_replicate]
        exact Nat.lt_of_lt_of_le (m := 3) (by omega) (Nat.le_trans (by decide) slM)
      · rw [upd_same, List.replicate_succ', List.map_append]
        rfl
    · rintro H1 ⟨s1, hb⟩
      have ha1 := s1 _ _ ha
      refine ⟨D, _, rfl, SqL.of hb, ?_⟩
      walk_at "rd"
      refine iteD h1 ?_
      walk_at "rd"
      refine iteD h2 ?_
      walk_at "rd"
      show Q (.bl (decide (e ≤ 1000000000000000000000000000000))) H1
      rw [decide_eq_true h3]
      exact k H1 s1
theorem downs_drop {lo : Int} {ds : List (Int × Int)} {o : Int × Int} {i : Nat} (hd : Downs lo (ds.drop i)) (ho : ds[i]? = some o) : lo ≤ o.1 ∧ o.1 < o.2 ∧ o.2 ≤ 1000000000000000000000000000000 ∧ Downs (o.2 + 1) (ds.drop (i + 1)) := by
  rw [drop_at ho] at hd
  exact hd
def sp_chkO (_ : PySem.W.Frag) : Sp := fun vs H Q _ => ∃ (l : Addr) (us : List V) (ds : List (Int × Int)), vs = [.ref l] ∧ H l = some (.lst us) ∧ OutVs H us ds ∧ Downs 0 ds ∧ ds.length ≤ 50 ∧ ∀ H', Same H H' → Q .non H'
theorem sc_chkO : FnScope ["outages", "low", "at", "outage"] ["outages"] (defScope s_chkO) := ⟨rfl, rfl, rfl, by decide +kernel, rfl, by decide +kernel, by decide +kernel⟩
theorem ok_chkO (T : Tx K mg) : FK P w K mg base 3 (He.ga K "check_outages") ["outages"] (sp_chkO K) := by
  refine fk_of T.f_chkO sc_chkO (fun vs H Q E h => ?_) (fun _ _ _ _ _ _ us hl => match us, hl with | [_], _ => rfl) (fun cdv A outer s H vs Q E hr h => ?_)
  · obtain ⟨l, us, ds, rfl, hl, hp, hd, len, k⟩ := h
    rfl
  · obtain ⟨l, us, ds, rfl, hl, hp, hd, len, k⟩ := h
    obtain ⟨_, t_MOST_OUTAGES⟩ := T.i_MOST_OUTAGES
    refine ⟨_, (pss_cons (ps_if (PW.pt (pw_or (pt_not (pt_val (pe_isi T.b_isinstance (pa_cons (pv 0) (pa_cons (pe_tyN T.b_list b_list) pa_nil))))) (pw_or1 (pt_cmpR op_gt (pe_callB call_len_seq (by rfl) T.b_len b_len (pa_cons (pv 0) pa_nil)) (pe_glob (v := .int 50) (by rfl) t_MOST_OUTAGES ⟨_, rfl⟩) (nomark _))))) (pss_one (ps_never)) pss_nil)
      (pss_cons (ps_set (i := 1) sc_chkO.nd rfl (Or.inl rfl) (pe_int))
      (pss_one (ps_for PassesOwn.never rfl (pi_enum (by rfl) T.b_enumerate (pa_cons (pv 0) pa_nil)) (pg_tup rfl (pgs_cons (pg_name (i := 2) sc_chkO.nd rfl (Or.inl rfl)) (pgs_cons (pg_name (i := 3) sc_chkO.nd rfl (Or.inl rfl)) pgs_nil))) (pss_cons (ps_if (pt_not (pt_val (pe_callF (ok_isOut T) (hr.mono (by decide)) T.g_isOut (pa_cons (pv 3) (pa_cons (pv 1) pa_nil))))) (pss_one (ps_never)) pss_nil)
        (pss_one (ps_set (i := 1) sc_chkO.nd rfl (Or.inl rfl) (pe_op op_add (pe_ix ix_tup (pv 3) (pe_int) (fun _ _ => rfl)) (pe_int))))))))), ?_⟩
    have e := pLen hp
    walk_at "rd"
    rw [decide_eq_false (by omega)]
    walk_at "rd"
    refine ⟨_, _, rfl, SqL.of hl, ?_⟩
    refine for_it walk_enum (fun i σ H' => Same H H' ∧ ∃ lo x2 x3, σ = [some (.ref l), some (.int lo), x2, x3] ∧ Downs lo (ds.drop i)) ⟨Same.refl H, 0, _, _, rfl, hd⟩ (fun i σ H' _ h => SqL.of (h.1 _ _ hl)) ?_ (fun σ H' h => k H' h.1)
    rintro i x σ H1 H2 hi ⟨s1, lo, x2, x3, rfl, hdi⟩ ⟨T, y, z, rfl, hT, rfl, hy, hz⟩
    cases hy
    obtain ⟨o, h1, h2⟩ := pAt hp hz
    obtain ⟨d1, d2, d3, d4⟩ := downs_drop hdi h1
    have s2 := s1.trans (Same.new (o := .tup [.int i, z]) hT)
    refine ⟨_, _, rfl, SqT.of upd_same, rfl, _, _, rfl, _, _, rfl, rfl, ?_⟩
    walk_at "rd"
    refine ⟨_, o, lo, rfl, h2.mono s2, d1, d2, d3, fun H3 s3 => ?_⟩
    obtain ⟨a, rfl, ha⟩ := (h2.mono s2).mono s3
    walk_at "rd"
    exact ⟨s2.trans s3, o.2 + 1, _, _, rfl, d4⟩
/-! ### what a breaker passes -/
theorem BB_C : 48 * (BB + 1000000000000 * BB) ≤ LQ := by decide +kernel
def sp_pasd (K : PySem.W.Frag) : Sp := fun vs H Q _ => ∃ (x l : Addr) (ts : List Tr) (n wt : Int), vs = [.ref x, .int n, .int wt] ∧ TsA K H x l ts ∧ NF ts ∧ Inf ts ∧ BdL BB ts ∧ 1 ≤ n ∧ n ≤ 1000000000000 ∧ 1 ≤ wt ∧ wt ≤ 1000000000000000000000000 ∧ ts.length ≤ 100 ∧
  NewTs K H Q (passedM ts n wt)
theorem sc_pasd : FnScope ["coming", "left", "wait", "first", "others"] ["coming", "left", "wait"] (defScope s_pasd) := ⟨rfl, rfl, rfl, by decide +kernel, rfl, by decide +kernel, by decide +kernel⟩
theorem ok_pasd (T : Tx K mg) : FK P w K mg base 8 (He.ga K "passed") ["coming", "left", "wait"] (sp_pasd K) := by
  refine fk_of T.f_pasd sc_pasd (fun vs H Q E h => ?_) (fun _ _ _ _ _ _ us hl => match us, hl with | [_, _, _], _ => rfl) (fun cdv A outer s H vs Q E hr h => ?_)
  · obtain ⟨x, l, ts, n, wt, rfl, ta, nf, inf, bd, n1, n2, w1, w2, len, k⟩ := h
    rfl
  · obtain ⟨x, l, ts, n, wt, rfl, ta, nf, inf, bd, n1, n2, w1, w2, len, k⟩ := h
    refine ⟨_, (pss_cons (ps_asg (pe_callF (ok_splA T) (hr.mono (by decide)) T.g_splA (pa_cons (pv 0) (pa_cons (pv 1) pa_nil))) (pg_tup rfl (pgs_cons (pg_name (i := 3) sc_pasd.nd rfl (Or.inl rfl)) (pgs_cons (pg_name (i := 4) sc_pasd.nd rfl (Or.inl rfl)) pgs_nil))))
      (pss_one (ps_ret (pe_op (op_addF (ok_trA T) (hr.mono (by decide)) T.m_trA T.sfT) (pv 3) (pe_callF (ok_thin T) (hr.mono (by decide)) T.g_thin (pa_cons (pv 4) (pa_cons (pv 2) (pa_cons (pe_ixF (ok_trG T) (hr.mono (by decide)) T.m_trG T.fnT (pv 0) (pe_op op_sub (pv 1) (pe_int))) pa_nil)))))))), ?_⟩
    have bc := BB_C
    have bb := BB_big
    have lh := LH_LW
    have lq := LQ_LH
    have F := passed_facts nf inf n1 w1
    obtain ⟨b1, b2, b3, b4, b5, b6, b7, b8⟩ := passed_bd (M := BB) (L := 1000000000000) nf inf n1 n2 w1 (by omega) bd
    have nb : n * BB ≤ 1000000000000 * BB := Int.mul_le_mul_of_nonneg_right n2 (by omega)
    have nb0 : 0 ≤ n * BB := Int.mul_nonneg (by omega) (by omega)
    obtain ⟨time, ht, t0⟩ := F.time
    have hto : (nthT ts (n - 1)).getD 0 = time := by rw [ht]; rfl
    have jo := F.joinO
    have tho := F.thO
    rw [hto] at b2 b7 b8 jo tho
    have kk : passedM ts n wt = allJ (allJ (splL ts n) ++ allJ (thinL (allJ (splR ts n)) wt time)) := by
      unfold passedM
      rw [hto]
    rw [kk] at k
    obtain ⟨⟨tl, _, _⟩, tr, _⟩ := spl_spec (left := n) nf.ord (by omega)
    have l1 := allJ_len F.oneO
    have l2 := allJ_len F.othO
    have l3 := tl.len
    have l4 := tr.len
    have th := (thin_spec (since := time) (allJ_nf F.othO).ord w1).1
    have l5 := th.len
    have l6 := allJ_len tho
    refine ⟨_, rfl, _, rfl, x, l, ts, n, BB, rfl, ta, nf.ord, bd, by omega, by omega, by omega, by omega, by omega, fun H1 T p1 k1 p2 k2 s1 hT a1 a2 a3 a4 t1 t2 => ?_⟩
    refine ⟨_, _, rfl, SqT.of hT, rfl, _, _, rfl, _, _, rfl, rfl, ?_⟩
    obtain ⟨dx, hx⟩ := (ta.mono s1).1
    walk_at "rd"
    refine ⟨x, dx, _, rfl, hx, x, l, ts, n - 1, time, rfl, ta.mono s1, ⟨nf.ord, bd.mono (by omega)⟩, by omega, by omega, by omega, ht, ?_⟩
    refine ⟨p2, k2, allJ (splR ts n), wt, time, 2 * (BB + 1000000000000 * BB), rfl, t2, (allJ_nf F.othO).ord, b6, w1, by omega, t0, b2, by omega, by omega, fun H2 p3 k3 s2 b1' b2' t3 => ?_⟩
    obtain ⟨d1, h1⟩ := (t1.mono s2).1
    obtain ⟨d3, h3⟩ := t3.1
    refine ⟨p1, d1, p3, d3, _, _, rfl, h1, rfl, h3, p1, k1, p3, k3, allJ (splL ts n), _, rfl, t1.mono s2, t3, jo, ?_, by rw [List.length_append]; omega, fun H3 p4 k4 s3 c1 c2 t4 => ⟨⟨_, rfl⟩, ?_⟩⟩
    · intro t htm
      rcases List.mem_append.mp htm with q | q
      · exact (b5 t q).mono (by omega)
      · exact (b8 t q).mono (by omega)
    · have s4 := s1.trans s2
      exact k H3 p4 k4 (s4.trans s3) (s4.free c1) (s4.free c2) t4
/-! ### states -/
def StV (K : PySem.W.Frag) (H : Hp) (v : V) (st : Option Int) : Prop := ∃ a, v = .ref a ∧ SqT K H a (match st with | none => [.str "closed", .int 0] | some n => [.str "half", .int n])
theorem StV.mono {H H' : Hp} (e : Same H H') {v : V} {st : Option Int} (h : StV K H v st) : StV K H' v st := by
  obtain ⟨a, h1, h2⟩ := h
  exact ⟨a, h1, Same.sqt e h2⟩
abbrev StVs (K : PySem.W.Frag) (H : Hp) (vs : List V) (st : List (Option Int)) : Prop := Paired (StV K H) vs st
theorem StVs.mono {H H' : Hp} (e : Same H H') {vs : List V} {st : List (Option Int)} (h : StVs K H vs st) : StVs K H' vs st := pImp (fun _ _ => StV.mono e) h
def stD : Option Int → PyData
  | none => .tuple [.str "closed", .int 0]
  | some n => .tuple [.str "half", .int n]
theorem StV.dp {H : Hp} {v : V} {st : Option Int} (h : StV K H v st) : Dp K H v (stD st) := by
  obtain ⟨a, rfl, h⟩ := h
  cases st with
  | none => exact .tup h (.cons (.str _) (.cons (.int _) .nil))
  | some n => exact .tup h (.cons (.str _) (.cons (.int _) .nil))
theorem stD_shaped : ∀ st : Option Int, SeqAt.shaped (stD st) = true
  | none => by kernel_rfl
  | some n => by kernel_rfl
theorem stD_closed : ∀ st : Option Int, PyData.eqv (stD st) (stD none) = decide (st = none)
  | none => by kernel_rfl
  | some n => by kernel_rfl
def sp_pasL (K : PySem.W.Frag) : Sp := fun vs H Q _ => ∃ (v u : V) (p : Spec) (st : Option Int), vs = [v, u] ∧ SpecV H v p ∧ StV K H u st ∧ Q (.int (leftM p st)) H
theorem sc_pasL : FnScope ["spec", "state"] ["spec", "state"] (defScope s_pasL) := ⟨rfl, rfl, rfl, by decide +kernel, rfl, by decide +kernel, by decide +kernel⟩
theorem ok_pasL (T : Tx K mg) : FK P w K mg base 1 (He.ga K "passes_left") ["spec", "state"] (sp_pasL K) := by
  refine fk_of T.f_pasL sc_pasL (fun vs H Q E h => ?_) (fun _ _ _ _ _ _ us hl => match us, hl with | [_, _], _ => rfl) (fun cdv A outer s H vs Q E hr h => ?_)
  · obtain ⟨v, u, p, st, rfl, ⟨a, rfl, ha⟩, hu, k⟩ := h
    rfl
  · obtain ⟨v, u, p, st, rfl, ⟨a, rfl, ha⟩, hu, k⟩ := h
    refine ⟨_, (pss_one (ps_ret (pe_ifExp (pt_cmpR (op_eqD hr.units) (pv 1) (pe_glob (v := .ref _) (by rfl) T.g_CLOSED rfl) (nomark _)) (pe_ix ix_tup (pv 0) (pe_int) (fun _ _ => rfl)) (pe_int)))), ?_⟩
    refine ⟨_, rfl, _, _, hu.dp, StV.dp (st := none) ⟨_, rfl, T.closed H⟩, stD_shaped _, stD_shaped _, _, rfl, ?_⟩
    rw [stD_closed]
    unfold leftM at k
    by_cases q : st = none
    · rw [if_pos q] at k
      refine iteD q ?_
      walk_at "rd"
      exact k
    · rw [if_neg q] at k
      refine iteE q ?_
      exact k
end

section
variable {P : Program} {w : World} {K : PySem.W.Frag} {mg : Str → Option Value} {base : Heap}
/-! ### spells -/
def TsV (K : PySem.W.Frag) (H : Hp) (v : V) (ts : List Tr) : Prop := ∃ x l, v = .ref x ∧ TsA K H x l ts
theorem TsV.mono {H H' : Hp} (e : Same H H') {v : V} {ts : List Tr} (h : TsV K H v ts) : TsV K H' v ts := by
  obtain ⟨x, l, h1, h2⟩ := h
  exact ⟨x, l, h1, h2.mono e⟩
abbrev TsVs (K : PySem.W.Frag) (H : Hp) (vs : List V) (xs : List (List Tr)) : Prop := Paired (TsV K H) vs xs
theorem TsVs.mono {H H' : Hp} (e : Same H H') {vs : List V} {xs : List (List Tr)} (h : TsVs K H vs xs) : TsVs K H' vs xs := pImp (fun _ _ => TsV.mono e) h
def SpA (K : PySem.W.Frag) (H : Hp) (p : Addr) (sp : SpM) : Prop := ∃ (dx s t : Addr) (us vs : List V), H p = some (.ins (cS K) dx (spF' sp.first sp.rcv s t)) ∧ hide p H s = some (.lst us) ∧ StVs K (hide p H) us sp.st ∧ hide p H t = some (.lst vs) ∧ TsVs K (hide p H) vs sp.trs
theorem SpA.mono {H H' : Hp} (e : Same H H') {p : Addr} {sp : SpM} (h : SpA K H p sp) : SpA K H' p sp := by
  obtain ⟨dx, s, t, us, vs, h1, h2, h3, h4, h5⟩ := h
  have m := hide_mono (D := p) e
  exact ⟨dx, s, t, us, vs, e _ _ h1, m _ _ h2, h3.mono m, m _ _ h4, h5.mono m⟩
/-- a field of the spell is set anew -/
theorem SpA.rec {H : Hp} {p dx s t : Addr} {sp : SpM} {n : Int} (h : SpA K H p sp) (hp : H p = some (.ins (cS K) dx (spF' sp.first sp.rcv s t))) : SpA K (upd H p (.ins (cS K) dx (spF' sp.first n s t))) p { sp with rcv := n } := by
  obtain ⟨dx', s', t', us, vs, h1, h2, h3, h4, h5⟩ := h
  rw [hp] at h1
  injection h1 with h1
  injection h1 with e1 e2 e3
  have e4 : s = s' ∧ t = t' := by
    unfold spF' at e3
    injection e3 with _ e3
    injection e3 with _ e3
    injection e3 with e4 e3
    injection e3 with e5 _
    injection e4 with _ e4
    injection e5 with _ e5
    injection e4 with e4
    injection e5 with e5
    exact ⟨e4, e5⟩
  obtain ⟨rfl, rfl⟩ := e4
  exact ⟨dx, s, t, us, vs, upd_same, by rw [hide_upd]; exact h2, by rw [hide_upd]; exact h3, by rw [hide_upd]; exact h4, by rw [hide_upd]; exact h5⟩
theorem TsA.hideO {H : Hp} {p x l : Addr} {o : HO} {ts : List Tr} (h : TsA K H x l ts) (h1 : x ≠ p) (h2 : l ≠ p) (hp : H p = some o) (no : ∀ xs, o ≠ .tup xs) : TsA K (hide p H) x l ts := by
  obtain ⟨⟨d, a1⟩, us, a2, a3⟩ := h
  refine ⟨⟨d, by rw [hide_ne h1]; exact a1⟩, us, by rw [hide_ne h2]; exact a2, pImp (fun v t ⟨a, e1, e2⟩ => ⟨a, e1, ?_⟩) a3⟩
  rw [hide_ne (fun q => by rw [q, hp] at e2; exact no _ (Option.some.inj e2))]
  exact e2
theorem TsA.hideI {H : Hp} {p x l C dx : Addr} {fs : List (Str × V)} {ts : List Tr} (h : TsA K H x l ts) (h1 : x ≠ p) (h2 : l ≠ p) (hp : H p = some (.ins C dx fs)) : TsA K (hide p H) x l ts :=
  h.hideO h1 h2 hp fun _ q => by cases q
theorem hide_comm {D t : Addr} {H : Hp} {o : HO} (h : t ≠ D) : hide D (upd H t o) = upd (hide D H) t o := by
  funext b
  by_cases q : b = D
  · subst q
    rw [upd_ne h.symm]
    unfold hide
    rw [if_pos rfl, if_pos rfl]
  · rw [hide_ne q]
    by_cases z : b = t
    · subst z
      rw [upd_same, upd_same]
    · rw [upd_ne z, upd_ne z, hide_ne q]
theorem chain_take {r : RowM} {sp : SpM} (rok : RowOk r) (h : SpOk r sp) {i : Nat} {p : Spec} {st : Option Int} (h1 : r.specs[i]? = some p) (h2 : sp.st[i]? = some st) :
    ∃ x, sp.trs[i]? = some x ∧ sp.trs[i + 1]? = some (passedM x (leftM p st) p.2.1) ∧ (sp.trs.take (i + 1)).length = i + 1 ∧ (sp.trs.take (i + 1))[i]? = some x := by
  have p1 := rok.p1
  obtain ⟨c1, c2, c3⟩ := chain_ok (r.specs.zip sp.st) _ M0 1 (first_ok rok h.f0 h.fb) (by unfold M0; omega) (specs_ok rok sp.st)
  rw [← h.trs] at c1 c2 c3
  have il := (List.getElem?_eq_some_iff.mp h1).1
  have zl : (r.specs.zip sp.st).length = r.specs.length := by
    rw [List.length_zip, h.len]
    exact Nat.min_self _
  have hx := List.getElem?_eq_getElem (l := sp.trs) (i := i) (by omega)
  have hy := List.getElem?_eq_getElem (l := sp.trs) (i := i + 1) (by omega)
  obtain ⟨q, hq, e, _⟩ := c3 i _ _ hx hy
  have hz : (r.specs.zip sp.st)[i]? = some (p, st) := List.getElem?_zip_eq_some.mpr ⟨h1, h2⟩
  rw [hz] at hq
  cases hq
  refine ⟨_, hx, by rw [hy, e], ?_, ?_⟩
  · rw [List.length_take]
    omega
  · rw [List.getElem?_take, if_pos (by omega)]
    exact hx
theorem hide_swap {D x : Addr} {H : Hp} : hide D (hide x H) = hide x (hide D H) := by
  funext b
  unfold hide
  by_cases h1 : b = D
  · rw [if_pos h1]
    by_cases h2 : b = x
    · rw [if_pos h2]
    · rw [if_neg h2, if_pos h1]
  · rw [if_neg h1]
    by_cases h2 : b = x
    · rw [if_pos h2, if_pos h2]
    · rw [if_neg h2, if_neg h2, if_neg h1]
theorem StV.hideL {H : Hp} {D : Addr} {ys : List V} {v : V} {st : Option Int} (hD : H D = some (.lst ys)) (h : StV K H v st) : StV K (hide D H) v st := by
  obtain ⟨a, h1, h2⟩ := h
  refine ⟨a, h1, ?_⟩
  rcases h2 with (h | ⟨o, h⟩) | h
  · exact .inl (.inl (by rw [hide_ne (ne_of h hD (by intro q; cases q))]; exact h))
  · exact .inl (.inr ⟨o, by rw [hide_ne (ne_of h hD (by intro q; cases q))]; exact h⟩)
  · exact .inr h
theorem StVs.hideL {H : Hp} {D : Addr} {ys : List V} {vs : List V} {st : List (Option Int)} (hD : H D = some (.lst ys)) (h : StVs K H vs st) : StVs K (hide D H) vs st := pImp (fun _ _ => StV.hideL hD) h
/-- D: a list that stands already, and that the spell does not touch -/
def sp_spI (K : PySem.W.Frag) : Sp := fun vs H Q _ => ∃ (x dx l D : Addr) (us ys : List V) (v : V) (r : RowM) (st : List (Option Int)) (f : Int), vs = [.ref x, v, .int f, .ref l] ∧ H D = some (.lst ys) ∧ l ≠ D ∧ H x = some (.ins (cS K) dx []) ∧ RowA K (hide x H) v r ∧ hide x H l = some (.lst us) ∧ StVs K (hide x H) us st ∧
  SpOk r (newSp r f st) ∧ RowOk r ∧ ∀ H', Same (hide x H) (hide x H') → SpA K (hide D H') x (newSp r f st) → Q .non H'
theorem sc_spI : FnScope ["self", "row", "first", "states", "spec", "state"] ["self", "row", "first", "states"] (defScope s_spI) := ⟨rfl, rfl, rfl, by decide +kernel, rfl, by decide +kernel, by decide +kernel⟩
theorem ok_spI (T : Tx K mg) : FK P w K mg base 9 (He.ma K (He.ga K "Spell") "__init__") ["self", "row", "first", "states"] (sp_spI K) := by
  refine fk_of T.f_spI sc_spI (fun vs H Q E h => ?_) (fun _ _ _ _ _ _ us hl => match us, hl with | [_, _, _, _], _ => rfl) (fun cdv A outer s H vs Q E hr h => ?_)
  · obtain ⟨x, dx, l, D, us, ys, v, r, st, f, rfl, hD, lD, hx, ⟨rx, dr, lr, ur, rfl, hr1, hr2, hr3⟩, hl, hst, sok, rok, k⟩ := h
    rfl
  · obtain ⟨x, dx, l, D, us, ys, v, r, st, f, rfl, hD, lD, hx, ⟨rx, dr, lr, ur, rfl, hr1, hr2, hr3⟩, hl, hst, sok, rok, k⟩ := h
    refine ⟨_, (pss_cons (ps_fld (pv 0) (pv 2) rfl)
      (pss_cons (ps_fld (pv 0) (pv 2) rfl)
      (pss_cons (ps_fld (pv 0) (pv 3) rfl)
      (pss_cons (ps_fld (pv 0) (pe_lst (pa_cons (pe_makeF T.mkT (ok_trI T) (hr.mono (by decide)) T.g_Trains (pa_cons (pe_lst (pa_cons (pe_tup (pa_cons (pv 2) (pa_cons (pe_fld (pv 1) rfl) (pa_cons (pe_non) pa_nil)))) pa_nil)) pa_nil)) pa_nil)) rfl)
      (pss_one (ps_for PassesOwn.never rfl (pi_zip (by rfl) T.b_zip (pa_cons (pe_fld (pv 1) rfl) (pa_cons (pv 3) pa_nil))) (pg_tup rfl (pgs_cons (pg_name (i := 4) sc_spI.nd rfl (Or.inl rfl)) (pgs_cons (pg_name (i := 5) sc_spI.nd rfl (Or.inl rfl)) pgs_nil))) (pss_one (ps_expr (pe_bm PySem.F.plainAttrs_list PySem.F.slot_list_append PySem.F.type_list_append mt_append (pe_fld (pv 0) rfl) (pa_cons (pe_callF (ok_pasd T) (hr.mono (by decide)) T.g_pasd (pa_cons (pe_ix ix_list (pe_fld (pv 0) rfl) (pe_un un_neg (pe_int)) (fun _ _ => rfl)) (pa_cons (pe_callF (ok_pasL T) (hr.mono (by decide)) T.g_pasL (pa_cons (pv 4) (pa_cons (pv 5) pa_nil))) (pa_cons (pe_ix ix_tup (pv 4) (pe_int) (fun _ _ => rfl)) pa_nil)))) pa_nil)))))))))), ?_⟩
    have tok := sok.trsOk rok
    have Dx : D ≠ x := ne_of hD hx (by intro q; cases q)
    have hD' : hide x H D = some (.lst ys) := by rw [hide_ne Dx]; exact hD
    refine ⟨_, rfl, _, rfl, x, _, dx, _, rfl, hx, T.clS, T.nS_first, (by show 0 < 1000; decide), ?_⟩
    refine ⟨_, rfl, _, rfl, x, _, dx, _, rfl, upd_same, T.clS, T.nS_recovered, (by show 1 < 1000; decide), ?_⟩
    refine ⟨_, rfl, _, rfl, x, _, dx, _, rfl, upd_same, T.clS, T.nS_states, (by show 2 < 1000; decide), ?_⟩
    have e3 : hide x (upd (upd (upd H x (.ins (cS K) dx (putF "first" (.int f) []))) x (.ins (cS K) dx (putF "recovered" (.int f) (putF "first" (.int f) [])))) x (.ins (cS K) dx (putF "states" (.ref l) (putF "recovered" (.int f) (putF "first" (.int f) []))))) = hide x H := by
      rw [hide_upd, hide_upd, hide_upd]
    have x3 : (upd (upd (upd H x (.ins (cS K) dx (putF "first" (.int f) []))) x (.ins (cS K) dx (putF "recovered" (.int f) (putF "first" (.int f) [])))) x (.ins (cS K) dx (putF "states" (.ref l) (putF "recovered" (.int f) (putF "first" (.int f) []))))) x = some (.ins (cS K) dx (putF "states" (.ref l) (putF "recovered" (.int f) (putF "first" (.int f) [])))) := upd_same
    generalize upd (upd (upd H x (.ins (cS K) dx (putF "first" (.int f) []))) x (.ins (cS K) dx (putF "recovered" (.int f) (putF "first" (.int f) [])))) x (.ins (cS K) dx (putF "states" (.ref l) (putF "recovered" (.int f) (putF "first" (.int f) [])))) = H3 at *
    have S3 : Same (hide x H) H3 := by rw [← e3]; exact hide_same
    have hr13 := S3 _ _ hr1
    walk_at "rd"
    refine ⟨sl3, fun tp htp => ⟨sl1, fun lp hlp => ?_⟩⟩
    have S4 := (Same.new (o := .tup [.int f, .int r.pace, .non]) htp).trans (Same.new (o := .lst [.ref tp]) hlp)
    have ls4 : LsA K (upd (upd H3 tp (.tup [.int f, .int r.pace, .non])) lp (.lst [.ref tp])) lp [⟨f, r.pace, none⟩] := ⟨[.ref tp], upd_same, .cons ⟨tp, rfl, (Same.new hlp) _ _ upd_same⟩ .nil⟩
    generalize upd (upd H3 tp (.tup [.int f, .int r.pace, .non])) lp (.lst [.ref tp]) = H4 at *
    intro y dy hy hdy hne
    have S5 : Same H4 (upd (upd H4 dy (.own y)) y (.ins (cT K) dy [])) := (Same.new hdy).trans (Same.new (by rw [upd_ne hne.symm]; exact hy))
    have fo := first_ok rok sok.f0 sok.fb
    have nf : NF [⟨f, r.pace, none⟩] := fo.nf
    have bw := BB_LW1
    have bb := BB_C
    have b0 := BB_big
    have lq := LQ_LH
    have m0 : M0 ≤ LH := by decide +kernel
    refine ⟨y, dy, lp, [⟨f, r.pace, none⟩], rfl, upd_same, ls4.mono S5, nf.ord, fo.bd.mono m0, by show 1 ≤ 1000; omega, fun H5 l5 hb hl5 hy5 hls => ⟨rfl, ?_⟩⟩
    rw [allJ_id nf] at hls
    have S6 : Same H4 H5 := fun b o e => hb b o (ne_of_none e hy) (S5 b o e)
    have x4 := S4 _ _ x3
    have x5 := S6 _ _ x4
    have xy : y ≠ x := fun q => by rw [q, x4] at hy; cases hy
    have xl : l5 ≠ x := fun q => by rw [q, S5 _ _ x4] at hl5; cases hl5
    have ty : TsA K (hide x H5) y l5 [⟨f, r.pace, none⟩] := TsA.hideI ⟨⟨dy, hy5⟩, hls⟩ xy xl x5
    refine ⟨sl1, fun t ht => ?_⟩
    have S7 : Same H5 (upd H5 t (.lst [.ref y])) := Same.new ht
    have x6 := S7 _ _ x5
    have t6 : upd H5 t (.lst [.ref y]) t = some (.lst [.ref y]) := upd_same
    have D3 : H3 D = some (.lst ys) := S3 _ _ hD'
    have D5 : H5 D = some (.lst ys) := S6 _ _ (S4 _ _ D3)
    have yD : y ≠ D := fun q => by rw [q, S4 _ _ D3] at hy; cases hy
    have l5D : l5 ≠ D := fun q => by rw [q, S5 _ _ (S4 _ _ D3)] at hl5; cases hl5
    have tD : t ≠ D := fun q => by rw [q, D5] at ht; cases ht
    have tyD : TsA K (hide D (hide x H5)) y l5 [⟨f, r.pace, none⟩] := ty.hideO yD l5D (by rw [hide_ne Dx]; exact D5) fun _ q => by cases q
    have ty6 : TsA K (hide t (hide D (hide x (upd H5 t (.lst [.ref y]))))) y l5 [⟨f, r.pace, none⟩] := tyD.mono (hide_into (hide_mono (hide_mono S7)) (hide_free (hide_free ht)))
    have S8 : Same H3 (upd H5 t (.lst [.ref y])) := (S4.trans S6).trans S7
    have ht3 : H3 t = none := (S4.trans S6).free ht
    have htx : t ≠ x := fun q => by rw [q, x5] at ht; cases ht
    generalize upd H5 t (.lst [.ref y]) = H6 at *
    refine ⟨_, rfl, x, _, dx, _, rfl, x6, T.clS, T.nS_trains, (by show 3 < 1000; decide), ?_⟩
    rw [spF_put]
    have S9 : Same (hide x H) (hide x (upd H6 x (.ins (cS K) dx (spF' f f l t)))) := by
      rw [hide_upd, ← e3]
      exact hide_mono S8
    have x7 : upd H6 x (.ins (cS K) dx (spF' f f l t)) x = some (.ins (cS K) dx (spF' f f l t)) := upd_same
    have t7 : upd H6 x (.ins (cS K) dx (spF' f f l t)) t = some (.lst [.ref y]) := by rw [upd_ne htx]; exact t6
    have ty7 : TsA K (hide t (hide D (hide x (upd H6 x (.ins (cS K) dx (spF' f f l t)))))) y l5 [⟨f, r.pace, none⟩] := by rw [hide_upd]; exact ty6
    have htH : hide x H t = none := by rw [← e3]; exact hide_free ht3
    generalize upd H6 x (.ins (cS K) dx (spF' f f l t)) = H7 at *
    have r7 := hide_same _ _ (S9 _ _ hr1)
    have l7 := hide_same _ _ (S9 _ _ hl)
    have lr7 := hide_same _ _ (S9 _ _ hr2)
    have u1 := pLen hst
    have u2 := pLen hr3
    have u3 : st.length = r.specs.length := sok.len
    have u4 := rok.len
    walk_at "rd"
    refine ⟨_, _, _, _, rfl, SqL.of lr7, SqL.of l7, ?_⟩
    have nmin : r.specs.length = min ur.length us.length := by omega
    refine for_it (walk_zip nmin) (fun i σ H' => Same (hide x H) (hide x H') ∧ H' x = some (.ins (cS K) dx (spF' f f l t)) ∧ ∃ x4 x5 vs, σ = [some (.ref x), some (.ref rx), some (.int f), some (.ref l), x4, x5] ∧ H' t = some (.lst vs) ∧ TsVs K (hide t (hide D (hide x H'))) vs ((newSp r f st).trs.take (i + 1)))
      ⟨S9, x7, _, _, [.ref y], rfl, t7, ?_⟩ (fun i σ H' _ h => ⟨SqL.of (hide_same _ _ (h.1 _ _ hr2)), SqL.of (hide_same _ _ (h.1 _ _ hl))⟩) ?_ ?_
    · have z := tok.zero
      have e : (newSp r f st).trs.take 1 = [[⟨f, r.pace, none⟩]] := by
        rw [List.take_add_one, z]
        rfl
      rw [e]
      exact .cons ⟨y, l5, rfl, ty7⟩ .nil
    · rintro i q σ H1 H2 hi ⟨s1, x1, x4, x5, vs, rfl, hv, hvs⟩ ⟨T, c, d, rfl, hT, rfl, hc, hd⟩
      obtain ⟨p, h1, h2⟩ := pAt hr3 hc
      obtain ⟨so, h3, h4⟩ := pAt hst hd
      obtain ⟨tr, c1, c2, c3, c4⟩ := chain_take rok sok h1 h3
      have sT : Same H1 (upd H1 T (.tup [c, d])) := Same.new hT
      obtain ⟨v0, w0, tv⟩ := pAt2 hvs c4
      have vl := pLen hvs
      rw [c3] at vl
      have s2 : Same (hide x H) (hide x (upd H1 T (.tup [c, d]))) := s1.trans (hide_mono sT)
      have x2 := sT _ _ x1
      have v2 := sT _ _ hv
      have hvs2 := hvs.mono (hide_mono (D := t) (hide_mono (D := D) (hide_mono (D := x) sT)))
      have tv2 := tv.mono (hide_mono (D := t) (hide_mono (D := D) (hide_mono (D := x) sT)))
      have hT2 : upd H1 T (.tup [c, d]) T = some (.tup [c, d]) := upd_same
      generalize upd H1 T (.tup [c, d]) = H2 at *
      obtain ⟨y1, l1, rfl, t1⟩ := tv2
      have t1' := ((t1.mono hide_same).mono hide_same).mono hide_same
      have D2 : H2 D = some (.lst ys) := hide_same _ _ (s2 _ _ hD')
      obtain ⟨a, rfl, ha⟩ := (h2.mono s2).mono hide_same
      have h4' := (h4.mono s2).mono hide_same
      have ix : atI vs (-1) = some (V.ref y1) := atI_lst (by rw [vl]; exact w0)
      have po := leftM_pos rok h1 so
      obtain ⟨⟨_, _⟩, ⟨w1, w2⟩, _⟩ := rok.sp p (List.mem_of_getElem? h1)
      have to := tok.ok i tr c1
      refine ⟨_, _, rfl, SqT.of hT2, rfl, _, _, rfl, _, _, rfl, rfl, ?_⟩
      walk_at "rd"
      refine ⟨Or.inl ⟨rfl, _, SqL.of v2⟩, ?_⟩
      walk_at "rd"
      refine ⟨_, _, p, so, rfl, ⟨a, rfl, ha⟩, h4', ?_⟩
      walk_at "rd"
      refine ⟨y1, l1, tr, leftM p so, p.2.1, rfl, t1', to.nf, to.inf, to.bd, po.1, po.2, w1, w2, by have := to.len; omega, fun H3 p3 l3 s3 f1 f2 t3 => ?_⟩
      have v3 := s3 _ _ v2
      have x3' := s3 _ _ x2
      refine ⟨t, vs, .ref p3, rfl, rfl, v3, Nat.lt_of_lt_of_le (m := 1001) (by omega) (Nat.le_trans (by decide) slM), ?_⟩
      have q1 : p3 ≠ x := fun q => by rw [q, x2] at f1; cases f1
      have q2 : l3 ≠ x := fun q => by rw [q, x2] at f2; cases f2
      have q3 : p3 ≠ t := fun q => by rw [q, v2] at f1; cases f1
      have q4 : l3 ≠ t := fun q => by rw [q, v2] at f2; cases f2
      have q5 : p3 ≠ D := fun q => by rw [q, D2] at f1; cases f1
      have q6 : l3 ≠ D := fun q => by rw [q, D2] at f2; cases f2
      have t4 : TsA K (hide t (hide D (hide x H3))) p3 l3 (passedM tr (leftM p so) p.2.1) :=
        ((t3.hideI q1 q2 x3').hideO q5 q6 (by rw [hide_ne Dx]; exact s3 _ _ D2) fun _ q => by cases q).hideO q3 q4 (by rw [hide_ne tD, hide_ne htx]; exact v3) fun _ q => by cases q
      refine ⟨?_, by rw [upd_ne htx.symm]; exact x3', _, _, vs ++ [V.ref p3], rfl, upd_same, ?_⟩
      · rw [hide_comm htx]
        exact Same.mut (s2.trans (hide_mono s3)) htH
      · rw [hide_comm htx, hide_comm tD, hide_upd, List.take_add_one, c2]
        exact pApp (hvs2.mono (hide_mono (hide_mono (hide_mono s3)))) (.cons ⟨p3, l3, rfl, t4⟩ .nil)
    · rintro σ H1 ⟨s1, x1, x4, x5, vs, rfl, hv, hvs⟩
      have tl : (newSp r f st).trs.length = r.specs.length + 1 := tok.len
      rw [show r.specs.length + 1 = (newSp r f st).trs.length from tl.symm, List.take_length] at hvs
      have D1 : hide x H1 D = some (.lst ys) := s1 _ _ hD'
      refine k H1 s1 ⟨dx, l, t, us, vs, by rw [hide_ne Dx.symm]; exact x1, ?_, ?_, ?_, ?_⟩
      · rw [← hide_swap, hide_ne lD]
        exact s1 _ _ hl
      · rw [← hide_swap]
        exact (hst.mono s1).hideL D1
      · rw [← hide_swap, hide_ne tD, hide_ne htx]
        exact hv
      · rw [← hide_swap]
        exact hvs.mono hide_same
end

section
variable {P : Program} {w : World} {K : PySem.W.Frag} {mg : Str → Option Value} {base : Heap}
theorem len_at {α : Type} {l : List α} {i : Nat} (h : i < l.length) : ∃ a, l[i]? = some a := ⟨_, List.getElem?_eq_getElem h⟩
def sp_spO (K : PySem.W.Frag) : Sp := fun vs H Q _ => ∃ (p : Addr) (v : V) (r : RowM) (sp : SpM) (i : Nat), vs = [.ref p, v, .int (i : Int)] ∧ SpA K H p sp ∧ RowA K H v r ∧ RowOk r ∧ SpOk r sp ∧ i < r.specs.length ∧ Q (cV (openM r sp i)) H
theorem sc_spO : FnScope ["self", "row", "index", "time"] ["self", "row", "index"] (defScope s_spO) := ⟨rfl, rfl, rfl, by decide +kernel, rfl, by decide +kernel, by decide +kernel⟩
theorem ok_spO (T : Tx K mg) : FK P w K mg base 4 (He.ma K (He.ga K "Spell") "opening") ["self", "row", "index"] (sp_spO K) := by
  refine fk_of T.f_spO sc_spO (fun vs H Q E h => ?_) (fun _ _ _ _ _ _ us hl => match us, hl with | [_, _, _], _ => rfl) (fun cdv A outer s H vs Q E hr h => ?_)
  · obtain ⟨p, v, r, sp, i, rfl, ⟨dx, s, t, us, vs, hp, hs, hst, ht, hts⟩, ⟨rx, dr, lr, ur, rfl, hr1, hr2, hr3⟩, rok, sok, il, k⟩ := h
    rfl
  · obtain ⟨p, v, r, sp, i, rfl, ⟨dx, s, t, us, vs, hp, hs, hst, ht, hts⟩, ⟨rx, dr, lr, ur, rfl, hr1, hr2, hr3⟩, rok, sok, il, k⟩ := h
    refine ⟨_, (pss_cons (ps_set (i := 3) sc_spO.nd rfl (Or.inl rfl) (pe_ixF (ok_trG T) (hr.mono (by decide)) T.m_trG T.fnT (pe_ix ix_list (pe_fld (pv 0) rfl) (pe_op op_add (pv 2) (pe_int)) (fun _ _ => rfl)) (pe_op op_sub (pe_callF (ok_pasL T) (hr.mono (by decide)) T.g_pasL (pa_cons (pe_ix ix_list (pe_fld (pv 1) rfl) (pv 2) (fun _ _ => rfl)) (pa_cons (pe_ix ix_list (pe_fld (pv 0) rfl) (pv 2) (fun _ _ => rfl)) pa_nil))) (pe_int))))
      (pss_one (ps_ret (pe_ifExp (pt_cmpR op_lt (pv 3) (pe_fld (pv 0) rfl) (nomark _)) (pv 3) (pe_non))))), ?_⟩
    have tok := sok.trsOk rok
    have hs := hide_same _ _ hs
    have ht := hide_same _ _ ht
    have bq := BB_C
    have b0 := BB_big
    have lh := LH_LW
    have lq := LQ_LH
    obtain ⟨q, hq⟩ := len_at il
    obtain ⟨st, hst1⟩ := len_at (l := sp.st) (i := i) (by rw [sok.len]; exact il)
    obtain ⟨tr, htr⟩ := len_at (l := sp.trs) (i := i + 1) (by rw [tok.len]; omega)
    obtain ⟨uq, e1, sq⟩ := pAt2 hr3 hq
    obtain ⟨ust, e2, sst⟩ := pAt2 hst hst1
    obtain ⟨utr, e3, x1, l1, rfl, ta⟩ := pAt2 hts htr
    have ta := ta.mono hide_same
    have sst := sst.mono hide_same
    have i1 := atI_nat e1
    have i2 := atI_nat e2
    have i3 : atI vs ((i : Int) + 1) = some (V.ref x1) := by
      rw [show (i : Int) + 1 = ((i + 1 : Nat) : Int) by omega]
      exact atI_nat e3
    obtain ⟨po1, po2⟩ := leftM_pos rok hq st
    have to := tok.ok _ _ htr
    obtain ⟨tm, htm⟩ := to.inf.nth (leftM q st - 1)
    have op : openM r sp i = if tm < sp.rcv then some tm else none := by
      unfold openM
      rw [hq, hst1, htr]
      simp only
      rw [htm]
    obtain ⟨d1, hx1⟩ := ta.1
    walk_at "rd"
    refine ⟨_, _, q, st, rfl, sq, sst, ?_⟩
    walk_at "rd"
    refine ⟨x1, d1, _, rfl, hx1, x1, l1, tr, leftM q st - 1, tm, rfl, ta, ⟨to.nf.ord, to.bd.mono (by omega)⟩, by have := to.len; omega, by omega, by omega, htm, ?_⟩
    walk_at "rd"
    rw [op] at k
    by_cases c : tm < sp.rcv
    · refine iteD c ?_
      rw [if_pos c] at k
      walk_at "rd"
      exact k
    · refine iteE c ?_
      rw [if_neg c] at k
      exact k
theorem StV.updL {H : Hp} {D : Addr} {ys : List V} {o : HO} (hD : H D = some (.lst ys)) {v : V} {st : Option Int} (h : StV K H v st) : StV K (upd H D o) v st := by
  obtain ⟨a, h1, h2⟩ := h
  exact ⟨a, h1, sqt_upd h2 hD⟩
theorem states_take {r : RowM} {sp : SpM} {t : Int} {i : Nat} (h : i < r.specs.length) : (statesM r sp t).take (i + 1) = (statesM r sp t).take i ++ [stI r sp t i] := by
  have e : (statesM r sp t)[i]? = some (stI r sp t i) := by
    unfold statesM
    rw [List.getElem?_map, List.getElem?_range h]
    rfl
  rw [List.take_add_one, e]
  rfl
def sp_spS (K : PySem.W.Frag) : Sp := fun vs H Q _ => ∃ (p : Addr) (v : V) (r : RowM) (sp : SpM) (t : Int), vs = [.ref p, v, .int t] ∧ SpA K H p sp ∧ RowA K H v r ∧ RowOk r ∧ SpOk r sp ∧
  ∀ (H' : Hp) (l : Addr) (us : List V), Same H H' → H l = none → H' l = some (.lst us) → StVs K H' us (statesM r sp t) → Q (.ref l) H'
theorem sc_spS : FnScope ["self", "row", "time", "found", "many", "index", "spec", "is_half"] ["self", "row", "time"] (defScope s_spS) := ⟨rfl, rfl, rfl, by decide +kernel, rfl, by decide +kernel, by decide +kernel⟩
theorem ok_spS (T : Tx K mg) : FK P w K mg base 5 (He.ma K (He.ga K "Spell") "states_at") ["self", "row", "time"] (sp_spS K) := by
  refine fk_of T.f_spS sc_spS (fun vs H Q E h => ?_) (fun _ _ _ _ _ _ us hl => match us, hl with | [_, _, _], _ => rfl) (fun cdv A outer s H vs Q E hr h => ?_)
  · obtain ⟨p, v, r, sp, t, rfl, sa, ra, rok, sok, k⟩ := h
    rfl
  · obtain ⟨p, v, r, sp, t, rfl, sa, ra, rok, sok, k⟩ := h
    refine ⟨_, (pss_cons (ps_set (i := 3) sc_spS.nd rfl (Or.inl rfl) (pe_lst pa_nil))
      (pss_cons (ps_set (i := 4) sc_spS.nd rfl (Or.inl rfl) (pe_op op_fdivW (pe_op op_sub (pv 2) (pe_fld (pv 0) rfl)) (pe_fld (pv 1) rfl)))
      (pss_cons (ps_for PassesOwn.never rfl (pi_enum (by rfl) T.b_enumerate (pa_cons (pe_fld (pv 1) rfl) pa_nil)) (pg_tup rfl (pgs_cons (pg_name (i := 5) sc_spS.nd rfl (Or.inl rfl)) (pgs_cons (pg_name (i := 6) sc_spS.nd rfl (Or.inl rfl)) pgs_nil))) (pss_cons (ps_set (i := 7) sc_spS.nd rfl (Or.inl rfl) ((pe_and (pe_cmpR op_notN (pe_methF (pv 0) T.clS T.m_spO (ok_spO T) (hr.mono (by decide)) (pa_cons (pv 1) (pa_cons (pv 5) pa_nil))) (pe_non) (nomark _)) (pe_one (pe_cmpR op_lt (pv 4) (pe_ix ix_tup (pv 6) (pe_int) (fun _ _ => rfl)) (nomark _))))))
        (pss_one (ps_expr (pe_bm PySem.F.plainAttrs_list PySem.F.slot_list_append PySem.F.type_list_append mt_append (pv 3) (pa_cons (pe_ifExp (pt_val (pv 7)) (pe_tup (pa_cons (pe_str) (pa_cons (pv 4) pa_nil))) (pe_glob (v := .ref _) (by rfl) T.g_CLOSED rfl)) pa_nil))))))
      (pss_one (ps_ret (pv 3)))))), ?_⟩
    obtain ⟨rx, dr, lr, ur, rfl, hr1, hr2, hr3⟩ := id ra
    obtain ⟨dx, s, tt, us, vs, hp, _⟩ := id sa
    have u2 := pLen hr3
    have u4 := rok.len
    have p1 := rok.p1
    have p2 := rok.p2
    have lw := LW_LB
    have lb := LW_big
    refine ⟨Nat.zero_le _, fun g hg => ?_⟩
    have S1 : Same H (upd H g (.lst [])) := Same.new hg
    have g1 : upd H g (.lst []) g = some (.lst []) := upd_same
    generalize upd H g (.lst []) = H1 at *
    have hp1 := S1 _ _ hp
    have hr11 := S1 _ _ hr1
    have hr21 := S1 _ _ hr2
    walk_at "rd"
    refine ⟨_, _, rfl, SqL.of hr21, ?_⟩
    refine for_it walk_enum (fun i σ H' => Same H H' ∧ ∃ x5 x6 x7 zs, σ = [some (.ref p), some (.ref rx), some (.int t), some (.ref g), some (.int ((t - sp.rcv) / r.pace)), x5, x6, x7] ∧ H' g = some (.lst zs) ∧ StVs K H' zs ((statesM r sp t).take i)) ⟨S1, _, _, _, [], rfl, g1, .nil⟩
      (fun i σ H' _ h => SqL.of (h.1 _ _ hr2)) ?_ ?_
    · rintro i q σ H2 H3 hi ⟨s1, x5, x6, x7, zs, rfl, hz, hzs⟩ ⟨T0, y, z, rfl, hT, rfl, hy, hu⟩
      cases hy
      obtain ⟨sp1, h1, h2⟩ := pAt hr3 hu
      have il : i < r.specs.length := (List.getElem?_eq_some_iff.mp h1).1
      have sT : Same H2 (upd H2 T0 (.tup [.int (i : Int), z])) := Same.new hT
      have hT2 : upd H2 T0 (.tup [.int (i : Int), z]) T0 = some (.tup [.int (i : Int), z]) := upd_same
      have s2 := s1.trans sT
      have hz2 := sT _ _ hz
      have hzs2 := hzs.mono sT
      generalize upd H2 T0 (.tup [.int (i : Int), z]) = H4 at *
      obtain ⟨a, rfl, ha⟩ := h2.mono s2
      have m1 := pLen hzs2
      have m2 : ((statesM r sp t).take i).length ≤ i := by rw [List.length_take]; omega
      have slen : zs.length < sizeLine := Nat.lt_of_lt_of_le (m := 1001) (by omega) (Nat.le_trans (by decide) slM)
      have e5 : stI r sp t i = (match openM r sp i with | some _ => if (t - sp.rcv) / r.pace < sp1.2.2 then some ((t - sp.rcv) / r.pace) else none | none => none) := by
        unfold stI
        rw [h1]
        cases openM r sp i <;> rfl
      have clos : ∀ x5 x6 x7, stI r sp t i = none → (Same H (upd H4 g (.lst (zs ++ [.ref (He.ga K "CLOSED")]))) ∧ ∃ y5 y6 y7 zs', ([some (.ref p), some (.ref rx), some (.int t), some (.ref g), some (.int ((t - sp.rcv) / r.pace)), x5, x6, x7] : L2.St) = [some (.ref p), some (.ref rx), some (.int t), some (.ref g), some (.int ((t - sp.rcv) / r.pace)), y5, y6, y7] ∧
          upd H4 g (.lst (zs ++ [.ref (He.ga K "CLOSED")])) g = some (.lst zs') ∧ StVs K (upd H4 g (.lst (zs ++ [.ref (He.ga K "CLOSED")]))) zs' ((statesM r sp t).take (i + 1))) := fun x5 x6 x7 e => by
        refine ⟨Same.mut s2 hg, _, _, _, _, rfl, upd_same, ?_⟩
        rw [states_take il, e]
        exact pApp (pImp (fun _ _ h => StV.updL hz2 h) hzs2) (.cons ⟨_, rfl, T.closed _⟩ .nil)
      refine ⟨_, _, rfl, SqT.of hT2, rfl, _, _, rfl, _, _, rfl, rfl, ?_⟩
      refine ⟨_, rfl, p, dx, _, rfl, s2 _ _ hp, rfl, _, rfl, _, rfl, p, _, r, sp, i, rfl, sa.mono s2, ra.mono s2, rok, sok, il, ?_⟩
      cases ho : openM r sp i with
      | none =>
        rw [ho] at e5
        walk_at "rd"
        refine ⟨Or.inl ⟨rfl, _, SqL.of hz2⟩, ?_⟩
        walk_at "rd"
        exact ⟨g, zs, _, rfl, rfl, hz2, slen, clos _ _ _ e5⟩
      | some n =>
        rw [ho] at e5
        walk_at "rd"
        refine ⟨Or.inl ⟨rfl, _, SqL.of hz2⟩, _, rfl, _, rfl, ?_⟩
        by_cases c : (t - sp.rcv) / r.pace < sp1.2.2
        · refine iteD c ?_
          have e6 : stI r sp t i = some ((t - sp.rcv) / r.pace) := by rw [e5]; exact if_pos c
          walk_at "rd"
          refine ⟨sl2, fun tp htp => ?_⟩
          have sp1 : Same H4 (upd H4 tp (.tup [.str "half", .int ((t - sp.rcv) / r.pace)])) := Same.new htp
          have hz3 := sp1 _ _ hz2
          have tp3 : upd H4 tp (.tup [.str "half", .int ((t - sp.rcv) / r.pace)]) tp = some (.tup [.str "half", .int ((t - sp.rcv) / r.pace)]) := upd_same
          refine ⟨g, zs, .ref tp, rfl, rfl, hz3, slen, ?_⟩
          refine ⟨Same.mut (s2.trans sp1) hg, _, _, _, zs ++ [V.ref tp], rfl, upd_same, ?_⟩
          rw [states_take il, e6]
          exact pApp (pImp (fun _ _ h => StV.updL hz3 h) (hzs2.mono sp1)) (.cons (StV.updL hz3 ⟨tp, rfl, SqT.of tp3⟩) .nil)
        · refine iteE c ?_
          have e6 : stI r sp t i = none := by rw [e5]; exact if_neg c
          walk_at "rd"
          exact ⟨g, zs, _, rfl, rfl, hz2, slen, clos _ _ _ e6⟩
    · rintro σ H2 ⟨s1, x5, x6, x7, zs, rfl, hz, hzs⟩
      rw [u2, show r.specs.length = (statesM r sp t).length from (statesM_len r sp t).symm, List.take_length] at hzs
      exact ⟨_, rfl, k H2 g zs s1 hg hz hzs⟩
def sp_spW (K : PySem.W.Frag) : Sp := fun vs H Q _ => ∃ (p : Addr) (v : V) (r : RowM) (sp : SpM), vs = [.ref p, v] ∧ SpA K H p sp ∧ RowA K H v r ∧ RowOk r ∧ SpOk r sp ∧
  ∀ (H' : Hp) (m : Int), Same H H' → 0 ≤ m → m ≤ 1000000000000 → Q (.int (sp.rcv + m * r.pace)) H'
theorem sc_spW : FnScope ["self", "row", "more", "index", "spec"] ["self", "row"] (defScope s_spW) := ⟨rfl, rfl, rfl, by decide +kernel, rfl, by decide +kernel, by decide +kernel⟩
theorem ok_spW (T : Tx K mg) : FK P w K mg base 5 (He.ma K (He.ga K "Spell") "whole") ["self", "row"] (sp_spW K) := by
  refine fk_of T.f_spW sc_spW (fun vs H Q E h => ?_) (fun _ _ _ _ _ _ us hl => match us, hl with | [_, _], _ => rfl) (fun cdv A outer s H vs Q E hr h => ?_)
  · obtain ⟨p, v, r, sp, rfl, sa, ra, rok, sok, k⟩ := h
    rfl
  · obtain ⟨p, v, r, sp, rfl, sa, ra, rok, sok, k⟩ := h
    refine ⟨_, (pss_cons (ps_set (i := 2) sc_spW.nd rfl (Or.inl rfl) (pe_lst (pa_cons (pe_int) pa_nil)))
      (pss_cons (ps_for PassesOwn.never rfl (pi_enum (by rfl) T.b_enumerate (pa_cons (pe_fld (pv 1) rfl) pa_nil)) (pg_tup rfl (pgs_cons (pg_name (i := 3) sc_spW.nd rfl (Or.inl rfl)) (pgs_cons (pg_name (i := 4) sc_spW.nd rfl (Or.inl rfl)) pgs_nil))) (pss_one (ps_if (pt_cmpR op_notN (pe_methF (pv 0) T.clS T.m_spO (ok_spO T) (hr.mono (by decide)) (pa_cons (pv 1) (pa_cons (pv 3) pa_nil))) (pe_non) (nomark _)) (pss_one (ps_expr (pe_bm PySem.F.plainAttrs_list PySem.F.slot_list_append PySem.F.type_list_append mt_append (pv 2) (pa_cons (pe_op op_sub (pe_ix ix_tup (pv 4) (pe_int) (fun _ _ => rfl)) (pe_int)) pa_nil)))) pss_nil)))
      (pss_one (ps_ret (pe_op op_add (pe_fld (pv 0) rfl) (pe_op op_mulW (pe_callB (cr_max rfl) (by rfl) T.b_max b_max (pa_cons (pv 2) pa_nil)) (pe_fld (pv 1) rfl))))))), ?_⟩
    obtain ⟨rx, dr, lr, ur, rfl, hr1, hr2, hr3⟩ := id ra
    obtain ⟨dx, s, tt, us, vs, hp, _⟩ := id sa
    have u2 := pLen hr3
    have u4 := rok.len
    have p1 := rok.p1
    have p2 := rok.p2
    have lw := LW_LB
    have lb := LW_big
    refine ⟨sl1, fun g hg => ?_⟩
    have S1 : Same H (upd H g (.lst [.int 0])) := Same.new hg
    have g1 : upd H g (.lst [.int 0]) g = some (.lst [.int 0]) := upd_same
    generalize upd H g (.lst [.int 0]) = H1 at *
    have hp1 := S1 _ _ hp
    have hr11 := S1 _ _ hr1
    have hr21 := S1 _ _ hr2
    walk_at "rd"
    refine ⟨_, _, rfl, SqL.of hr21, ?_⟩
    refine for_it walk_enum (fun i σ H' => Same H H' ∧ ∃ x3 x4 ns, σ = [some (.ref p), some (.ref rx), some (.ref g), x3, x4] ∧ H' g = some (.lst (ns.map V.int)) ∧ ns.length ≤ i + 1 ∧ 0 < ns.length ∧ ∀ n, n ∈ ns → 0 ≤ n ∧ n ≤ 1000000000000) ⟨S1, _, _, [0], rfl, g1, Nat.le_refl _, by decide, fun n hn => by rw [List.mem_singleton.mp hn]; omega⟩
      (fun i σ H' _ h => SqL.of (h.1 _ _ hr2)) ?_ ?_
    · rintro i q σ H2 H3 hi ⟨s1, x3, x4, ns, rfl, hz, nl, np, nb⟩ ⟨T0, y, z, rfl, hT, rfl, hy, hu⟩
      cases hy
      obtain ⟨sp1, h1, h2⟩ := pAt hr3 hu
      have il : i < r.specs.length := (List.getElem?_eq_some_iff.mp h1).1
      have sT : Same H2 (upd H2 T0 (.tup [.int (i : Int), z])) := Same.new hT
      have hT2 : upd H2 T0 (.tup [.int (i : Int), z]) T0 = some (.tup [.int (i : Int), z]) := upd_same
      have s2 := s1.trans sT
      have hz2 := sT _ _ hz
      generalize upd H2 T0 (.tup [.int (i : Int), z]) = H4 at *
      obtain ⟨a, rfl, ha⟩ := h2.mono s2
      obtain ⟨_, _, c1, c2⟩ := rok.sp sp1 (List.mem_of_getElem? h1)
      refine ⟨_, _, rfl, SqT.of hT2, rfl, _, _, rfl, _, _, rfl, rfl, ?_⟩
      refine ⟨_, rfl, p, dx, _, rfl, s2 _ _ hp, rfl, _, rfl, _, rfl, p, _, r, sp, i, rfl, sa.mono s2, ra.mono s2, rok, sok, il, ?_⟩
      cases ho : openM r sp i with
      | none =>
        walk_at "rd"
        exact ⟨s2, _, _, ns, rfl, hz2, by omega, np, nb⟩
      | some n =>
        walk_at "rd"
        refine ⟨Or.inl ⟨rfl, _, SqL.of hz2⟩, ?_⟩
        walk_at "rd"
        refine ⟨g, _, _, rfl, rfl, hz2, ?_, Same.mut s2 hg, _, _, ns ++ [sp1.2.2 - 1], rfl, ?_, ?_, ?_, ?_⟩
        · rw [List.length_map]
          exact Nat.lt_of_lt_of_le (m := 1001) (by omega) (Nat.le_trans (by decide) slM)
        · rw [upd_same, List.map_append]
          rfl
        · rw [List.length_append]
          show ns.length + 1 ≤ i + 1 + 1
          omega
        · rw [List.length_append]
          omega
        · intro n hn
          rcases List.mem_append.mp hn with q | q
          · exact nb n q
          · rw [List.mem_singleton.mp q]
            omega
    · rintro σ H2 ⟨s1, x3, x4, ns, rfl, hz, nl, np, nb⟩
      have hp2 := s1 _ _ hp
      have hr12 := s1 _ _ hr1
      walk_at "rd"
      refine ⟨g, ns, rfl, SqL.of hz, np, fun m hm hle => ?_⟩
      obtain ⟨m0, m1⟩ := nb m hm
      walk_at "rd"
      exact k H2 m s1 m0 m1
end

/-- a == [], a any list -/
def rEqE (K : PySem.W.Frag) : R2 := fun x y H Q => ∃ (a b : Addr) (xs : List V), x = .ref a ∧ y = .ref b ∧ SqL K H a xs ∧ SqL K H b [] ∧ Q (.bl xs.isEmpty) H
theorem op_eqE {X : Cx} (hu : X.A.units + 64 < cLine) : OpR X (compareOp .Eq) (rEqE X.K) := by
  rintro pins s σ H x y v u Q I rx ry ⟨a, b, xs, rfl, rfl, ha, hb, q⟩
  cases rx
  cases ry
  obtain ⟨us, r1, p1, _⟩ := I.list ha
  obtain ⟨ws, r2, p2, _⟩ := I.list hb
  cases r2
  cases xs with
  | nil =>
    cases r1
    exact SeqAt.eq_listAt (e := fun _ => true) p1.isList p2.isList rfl (by omega) (fun j h1 h2 => absurd h1 (Nat.not_lt_zero _)) ⟨.bl true, H, I, rfl, q⟩
  | cons c cs =>
    cases r1
    exact SeqAt.eq_list_lengthsAt p1.isList p2.isList (by simp) (by omega) ⟨.bl false, H, I, rfl, q⟩
section
variable {P : Program} {w : World} {K : PySem.W.Frag} {mg : Str → Option Value} {base : Heap}
abbrev SpAs (K : PySem.W.Frag) (H : Hp) (us : List V) (sps : List SpM) : Prop := Paired (fun v sp => ∃ p, v = .ref p ∧ SpA K H p sp) us sps
theorem SpAs.mono {H H' : Hp} (e : Same H H') {us : List V} {sps : List SpM} (h : SpAs K H us sps) : SpAs K H' us sps := pImp (fun _ _ ⟨p, h1, h2⟩ => ⟨p, h1, h2.mono e⟩) h
theorem rep_st (T : Tx K mg) {H : Hp} : ∀ n : Nat, StVs K H (List.replicate n [V.ref (He.ga K "CLOSED")]).flatten (List.replicate n none)
  | 0 => .nil
  | n + 1 => by
    rw [List.replicate_succ, List.flatten_cons, List.replicate_succ]
    exact .cons ⟨_, rfl, T.closed _⟩ (rep_st T n)
theorem flat_len {n : Nat} {c : V} : (List.replicate n [c]).flatten.length = n := by
  rw [List.length_flatten, List.map_replicate, List.sum_replicate_nat]
  show n * 1 = n
  omega
def sp_spF (K : PySem.W.Frag) : Sp := fun vs H Q _ => ∃ (v : V) (r : RowM) (l : Addr) (us : List V) (known : List SpM) (t : Int), vs = [v, .ref l, .int t] ∧ RowA K H v r ∧ RowOk r ∧ H l = some (.lst us) ∧ SpAs K H us known ∧ (∀ sp, sp ∈ known → SpOk r sp) ∧
  0 ≤ t ∧ t ≤ 1000000000000000000000000000000 ∧ ∀ (H' : Hp) (p : Addr), Same H H' → H p = none → SpA K (hide l H') p (fromM r known t) → Q (.ref p) H'
theorem sc_spF : FnScope ["row", "known", "time", "first", "states"] ["row", "known", "time"] (defScope s_spF) := ⟨rfl, rfl, rfl, by decide +kernel, rfl, by decide +kernel, by decide +kernel⟩
theorem ok_spF (T : Tx K mg) : FK P w K mg base 11 (He.ga K "spell_from") ["row", "known", "time"] (sp_spF K) := by
  refine fk_of T.f_spF sc_spF (fun vs H Q E h => ?_) (fun _ _ _ _ _ _ us hl => match us, hl with | [_, _, _], _ => rfl) (fun cdv A outer s H vs Q E hr h => ?_)
  · obtain ⟨v, r, l, us, known, t, rfl, ra, rok, hl, hs, hk, t0, t1, k⟩ := h
    rfl
  · obtain ⟨v, r, l, us, known, t, rfl, ra, rok, hl, hs, hk, t0, t1, k⟩ := h
    refine ⟨_, (pss_cons (ps_set (i := 3) sc_spF.nd rfl (Or.inl rfl) (pe_callF (ok_reqT T) (hr.mono (by decide)) T.g_reqT (pa_cons (pv 0) (pa_cons (pe_callF (ok_firR T) (hr.mono (by decide)) T.g_firR (pa_cons (pv 0) (pa_cons (pv 2) pa_nil))) pa_nil))))
      (pss_cons (ps_set (i := 4) sc_spF.nd rfl (Or.inl rfl) (pe_ifExp (pt_cmpR (op_eqE hr.units) (pv 1) (pe_lst pa_nil) (nomark _)) (pe_op op_rep (pe_lst (pa_cons (pe_glob (v := .ref _) (by rfl) T.g_CLOSED rfl) pa_nil)) (pe_callB (call_lenF (ok_rowL T) (hr.mono (by decide)) T.m_rowL) (by rfl) T.b_len b_len (pa_cons (pv 0) pa_nil))) (pe_methF (pe_ix ix_list (pv 1) (pe_un un_neg (pe_int)) (fun _ _ => rfl)) T.clS T.m_spS (ok_spS T) (hr.mono (by decide)) (pa_cons (pv 0) (pa_cons (pv 3) pa_nil)))))
      (pss_one (ps_ret (pe_makeF T.mkS (ok_spI T) (hr.mono (by decide)) T.g_Spell (pa_cons (pv 0) (pa_cons (pv 3) (pa_cons (pv 4) pa_nil)))))))), ?_⟩
    obtain ⟨rx, dr, lr, ur, rfl, hr1, hr2, hr3⟩ := id ra
    have bb := BB_big
    have bw := BB_LW1
    have p1 := rok.p1
    have p2 := rok.p2
    have s1 := rok.s1
    have fn := firR_nn r t
    have fl : firR r t ≤ LW := by
      have := fstM_up rok t t0
      have := rok.s2
      have : firR r t ≤ firR r t * r.pace := by
        have := Int.mul_le_mul_of_nonneg_left p1 fn
        omega
      have e : fstM r t = r.shift + firR r t * r.pace := rfl
      omega
    have fin : ∀ (H3 : Hp) (q : Addr) (us3 : List V), Same H H3 → q ≠ l → H3 q = some (.lst us3) → StVs K H3 us3 (stFrom r known (fstM r t)) → ∀ x dx, H3 x = none → H3 dx = none → dx ≠ x →
        sp_spI K [.ref x, .ref rx, .int (fstM r t), .ref q] (upd (upd H3 dx (.own x)) x (.ins (cS K) dx [])) (fun v H2 => v = .non ∧ Q (.ref x) H2) E0 := fun H3 q us3 S3 ql hq hus x dx hx hdx hne => by
      have S4 : Same H3 (upd (upd H3 dx (.own x)) x (.ins (cS K) dx [])) := (Same.new hdx).trans (Same.new (by rw [upd_ne hne.symm]; exact hx))
      have S5 := hide_into S4 hx
      refine ⟨x, dx, q, l, us3, us, .ref rx, r, stFrom r known (fstM r t), fstM r t, rfl, hide_same _ _ (S5 _ _ (S3 _ _ hl)), ql, upd_same, ra.mono (S3.trans S5), S5 _ _ hq, hus.mono S5, fromM_ok rok known t0 t1, rok, fun H4 s4 sa => ⟨rfl, k H4 x (((S3.trans S5).trans s4).trans hide_same) (S3.free hx) sa⟩⟩
    refine ⟨_, rfl, _, rfl, _, rfl, _, r, t, rfl, ra, rok, t0, by omega, ?_⟩
    refine ⟨_, r, firR r t, rfl, ra, p1, p2, fn, fl, ?_⟩
    refine ⟨_, rfl, Nat.zero_le _, fun e he => ?_⟩
    have S1 : Same H (upd H e (.lst [])) := Same.new he
    have e1 : upd H e (.lst []) e = some (.lst []) := upd_same
    generalize upd H e (.lst []) = H1 at *
    refine ⟨_, _, us, rfl, rfl, SqL.of (S1 _ _ hl), SqL.of e1, _, rfl, ?_⟩
    rcases snoc_of us with eu | ⟨pre, u, eu⟩
    · subst eu
      cases hs
      refine iteT ?_
      refine ⟨sl1, fun c hc => ?_⟩
      have S2 := S1.trans (Same.new (o := .lst [.ref (He.ga K "CLOSED")]) hc)
      refine ⟨_, rfl, rx, dr, _, rfl, S2 _ _ hr1, _, r, rfl, ra.mono S2, _, rfl, by omega, by have := rok.len; omega, ?_⟩
      refine ⟨c, _, _, rfl, rfl, upd_same, by have := rok.len; omega, by have := rok.len; omega, ?_, fun q hq => ?_⟩
      · have := rok.len
        show 1 * r.specs.length ≤ sizeLine
        exact Nat.le_trans (m := 5) (by omega) (Nat.le_trans (by decide) slM)
      · exact ⟨_, rfl, _, rfl, _, rfl, fin _ q _ (S2.trans (Same.new hq)) (ne_of_none (S2 _ _ hl) hq).symm upd_same (rep_st T r.specs.length)⟩
    · subst eu
      rw [show (pre ++ [u]).isEmpty = false by simp]
      refine iteF ?_
      obtain ⟨tp, sp, ek, h1, p, rfl, sa⟩ := pSnoc hs
      have sa := sa.mono S1
      obtain ⟨dx, _, _, _, _, hp, _⟩ := id sa
      have esp : stFrom r known (fstM r t) = statesM r sp (fstM r t) := by
        unfold stFrom
        rw [ek, List.getLast?_concat]
      have ix := atI_last pre (V.ref p)
      have hl1 := S1 _ _ hl
      refine ⟨_, rfl, _, rfl, _, _, _, _, rfl, rfl, SqL.of hl1, ix, p, dx, _, rfl, hp, rfl, _, rfl, _, rfl, ?_⟩
      refine ⟨p, _, r, sp, fstM r t, rfl, sa, ra.mono S1, rok, hk sp (by rw [ek]; simp), fun H2 q us2 s2 hq hq2 hus => ?_⟩
      exact ⟨_, rfl, _, rfl, _, rfl, fin H2 q us2 (S1.trans s2) (ne_of_none hl1 hq).symm hq2 (by rw [esp]; exact hus)⟩
end

section
variable {P : Program} {w : World} {K : PySem.W.Frag} {mg : Str → Option Value} {base : Heap}
theorem downs_take : ∀ {ds : List (Int × Int)} {lo : Int} (n : Nat), Downs lo ds → Downs lo (ds.take n)
  | _, _, 0, _ => trivial
  | [], _, n + 1, _ => trivial
  | o :: r, lo, n + 1, h => ⟨h.1, h.2.1, h.2.2.1, downs_take n h.2.2.2⟩
theorem downs_at : ∀ {ds : List (Int × Int)} {lo : Int} {i : Nat} {o : Int × Int}, Downs lo ds → ds[i]? = some o → lo ≤ o.1 ∧ o.1 < o.2 ∧ o.2 ≤ 1000000000000000000000000000000
  | [], _, i, o, _, h => by simp at h
  | a :: r, lo, 0, o, h, e => by
    have e := Option.some.inj e
    subst e
    exact ⟨h.1, h.2.1, h.2.2.1⟩
  | a :: r, lo, i + 1, o, h, e => by
    have := downs_at (i := i) h.2.2.2 (by simpa using e)
    have := h.2.1
    have := h.1
    omega
theorem downs_adj : ∀ {ds : List (Int × Int)} {lo : Int} {i : Nat} {a b : Int × Int}, Downs lo ds → ds[i]? = some a → ds[i + 1]? = some b → a.2 < b.1
  | [], _, i, a, b, _, h, _ => by simp at h
  | x :: r, lo, 0, a, b, h, e1, e2 => by
    have e1 := Option.some.inj e1
    subst e1
    have := downs_at (i := 0) h.2.2.2 (by simpa using e2)
    omega
  | x :: r, lo, i + 1, a, b, h, e1, e2 => downs_adj (i := i) h.2.2.2 (by simpa using e1) (by simpa using e2)
theorem spells_take {r : RowM} {ds : List (Int × Int)} {j : Nat} {o : Int × Int} (h : ds[j]? = some o) : spellsM r (ds.take (j + 1)) = stepS r (spellsM r (ds.take j)) o := by
  unfold spellsM
  rw [List.take_add_one, h, List.foldl_append]
  rfl
theorem spA_tl {H : Hp} {p : Addr} {sp : SpM} {r : RowM} (h : SpA K H p sp) (sok : SpOk r sp) (rok : RowOk r) : ∃ (dx s t : Addr) (vs : List V) (x l : Addr), H p = some (.ins (cS K) dx (spF' sp.first sp.rcv s t)) ∧ H t = some (.lst vs) ∧ atI vs (-1) = some (.ref x) ∧ TsA K H x l sp.tl := by
  obtain ⟨dx, s, t, us, vs, hp, hs, hst, ht, hts⟩ := h
  have tok := sok.trsOk rok
  obtain ⟨v, e, x, l, rfl, ta⟩ := pAt2 hts tok.tl
  have vl := pLen hts
  refine ⟨dx, s, t, vs, x, l, hp, hide_same _ _ ht, atI_lst ?_, ta.mono hide_same⟩
  rw [vl, tok.len]
  exact e
theorem tcnt_tl {r : RowM} {sp : SpM} (sok : SpOk r sp) (rok : RowOk r) : tCnt sp.tl = none ∧ WTs sp.tl ∧ sp.tl.length ≤ 100000 ∧ ∀ x, nthT sp.tl (cntB sp.tl x) = some (nextM sp.tl x) := by
  have to := (sok.trsOk rok).tlOk
  have bq := BB_C
  have b0 := BB_big
  have lh := LH_LW
  have lq := LQ_LH
  exact ⟨tCnt_inf to.inf, ⟨to.nf.ord, to.bd.mono (by omega)⟩, by have := to.len; omega, fun x => next_of to x⟩
def sp_spOf (K : PySem.W.Frag) : Sp := fun vs H Q _ => ∃ (v : V) (r : RowM) (l : Addr) (us : List V) (ds : List (Int × Int)), vs = [v, .ref l] ∧ RowA K H v r ∧ RowOk r ∧ H l = some (.lst us) ∧ OutVs H us ds ∧ Downs 0 ds ∧ ds.length ≤ 50 ∧
  ∀ (H' : Hp) (g : Addr) (zs : List V), Same H H' → H g = none → H' g = some (.lst zs) → SpAs K H' zs (spellsM r ds) → Q (.ref g) H'
theorem sc_spOf : FnScope ["row", "outages", "found", "at", "begin", "end", "spell"] ["row", "outages"] (defScope s_spOf) := ⟨rfl, rfl, rfl, by decide +kernel, rfl, by decide +kernel, by decide +kernel⟩
theorem ok_spOf (T : Tx K mg) : FK P w K mg base 12 (He.ga K "spells_of") ["row", "outages"] (sp_spOf K) := by
  refine fk_of T.f_spOf sc_spOf (fun vs H Q E h => ?_) (fun _ _ _ _ _ _ us hl => match us, hl with | [_, _], _ => rfl) (fun cdv A outer s H vs Q E hr h => ?_)
  · obtain ⟨v, r, l, us, ds, rfl, ra, rok, hl, hos, hd, len, k⟩ := h
    rfl
  · obtain ⟨v, r, l, us, ds, rfl, ra, rok, hl, hos, hd, len, k⟩ := h
    refine ⟨_, (pss_cons (ps_par (i := 2) (j := 3) (by rfl) sc_spOf.nd rfl rfl (by decide) rfl rfl (pa_cons (pe_lst pa_nil) (pa_cons (pe_int) pa_nil)) (by rfl))
      (pss_cons (ps_while PassesOwn.never (pt_cmpR op_lt (pv 3) (pe_callB call_len_seq (by rfl) T.b_len b_len (pa_cons (pv 1) pa_nil)) (nomark _)) (pss_cons (ps_asg (pe_ix ix_list (pv 1) (pv 3) (fun _ _ => rfl)) (pg_tup rfl (pgs_cons (pg_name (i := 4) sc_spOf.nd rfl (Or.inl rfl)) (pgs_cons (pg_name (i := 5) sc_spOf.nd rfl (Or.inl rfl)) pgs_nil))))
        (pss_cons (ps_set (i := 3) sc_spOf.nd rfl (Or.inl rfl) (pe_op op_add (pv 3) (pe_int)))
        (pss_one (ps_if (pt_cmpR op_lt (pe_callF (ok_reqT T) (hr.mono (by decide)) T.g_reqT (pa_cons (pv 0) (pa_cons (pe_callF (ok_firR T) (hr.mono (by decide)) T.g_firR (pa_cons (pv 0) (pa_cons (pv 4) pa_nil))) pa_nil))) (pv 5) (nomark _)) (pss_cons (ps_set (i := 6) sc_spOf.nd rfl (Or.inl rfl) (pe_callF (ok_spF T) (hr.mono (by decide)) T.g_spF (pa_cons (pv 0) (pa_cons (pv 2) (pa_cons (pv 4) pa_nil)))))
          (pss_cons (ps_fld (pv 6) (pe_callF (ok_nextT T) (hr.mono (by decide)) T.g_nextT (pa_cons (pe_ix ix_list (pe_fld (pv 6) rfl) (pe_un un_neg (pe_int)) (fun _ _ => rfl)) (pa_cons (pv 5) pa_nil))) rfl)
          (pss_cons (ps_while PassesOwn.never (PW.pt (pw_and (pt_cmpR op_lt (pv 3) (pe_callB call_len_seq (by rfl) T.b_len b_len (pa_cons (pv 1) pa_nil)) (nomark _)) (pw_and1 (pt_cmpR op_le (pe_ix ix_tup (pe_ix ix_list (pv 1) (pv 3) (fun _ _ => rfl)) (pe_int) (fun _ _ => rfl)) (pe_fld (pv 6) rfl) (nomark _))))) (pss_cons (ps_fld (pv 6) (pe_callF (ok_nextT T) (hr.mono (by decide)) T.g_nextT (pa_cons (pe_ix ix_list (pe_fld (pv 6) rfl) (pe_un un_neg (pe_int)) (fun _ _ => rfl)) (pa_cons (pe_callB (call_max2 rfl) (by rfl) T.b_max b_max (pa_cons (pe_fld (pv 6) rfl) (pa_cons (pe_ix ix_tup (pe_ix ix_list (pv 1) (pv 3) (fun _ _ => rfl)) (pe_int) (fun _ _ => rfl)) pa_nil))) pa_nil))) rfl)
            (pss_one (ps_set (i := 3) sc_spOf.nd rfl (Or.inl rfl) (pe_op op_add (pv 3) (pe_int))))))
          (pss_one (ps_expr (pe_bm PySem.F.plainAttrs_list PySem.F.slot_list_append PySem.F.type_list_append mt_append (pv 2) (pa_cons (pv 6) pa_nil))))))) pss_nil)))))
      (pss_one (ps_ret (pv 2))))), ?_⟩
    obtain ⟨rx, dr, lr, ur, rfl, hr1, hr2, hr3⟩ := id ra
    have ul := pLen hos
    have bb := BB_big
    have bw := BB_LW1
    have p1 := rok.p1
    have p2 := rok.p2
    have inv := fun j => spells_inv rok (downs_take (ds := ds) (lo := 0) j hd)
    refine ⟨Nat.zero_le _, fun g hg => ?_⟩
    refine ⟨_, _, rfl, ?_⟩
    refine ⟨fun n σ H' => n = (match σ[3]? with | some (some (V.int j)) => ((ds.length : Int) - j).toNat | _ => 0) ∧ Same H H' ∧ ∃ (j : Nat) (x4 x5 x6 : Option V) (zs : List V), σ = [some (.ref rx), some (.ref l), some (.ref g), some (.int j), x4, x5, x6] ∧
      H' g = some (.lst zs) ∧ SpAs K (hide g H') zs (spellsM r (ds.take j)) ∧ j ≤ ds.length ∧ ∀ o, ds[j]? = some o → ∀ sp, (spellsM r (ds.take j)).getLast? = some sp → ¬ o.1 ≤ sp.rcv,
      ⟨_, rfl, Same.new hg, 0, _, _, _, [], rfl, upd_same, .nil, Nat.zero_le _, fun o _ sp h => by cases h⟩, ?_⟩
    rintro n σ H1 ⟨en, s1, j, x4, x5, x6, zs, rfl, hz, hzs, jl, nx⟩
    replace en : n = ((ds.length : Int) - j).toNat := en
    have hl1 := s1 _ _ hl
    walk_at "rd"
    by_cases c1 : (j : Int) < us.length
    · refine iteD c1 ?_
      refine ⟨_, fun σ' H' h => h, ?_⟩
      obtain ⟨lo, lo0, I⟩ := inv j
      obtain ⟨u, hu⟩ := len_at (l := us) (i := j) (by omega)
      obtain ⟨o, ho, a, rfl, ha⟩ := (pAt hos hu)
      obtain ⟨d1, d2, d3⟩ := downs_at hd ho
      have ix := atI_nat hu
      have ha1 := s1 _ _ ha
      have est := spells_take (r := r) ho
      have epu : stepS r (spellsM r (ds.take j)) o = pushS r (spellsM r (ds.take j)) o := by
        unfold stepS
        cases hla : (spellsM r (ds.take j)).getLast? with
        | none => rfl
        | some sp => exact if_neg (nx o ho sp hla)
      have fn := firR_nn r o.1
      have fl : firR r o.1 ≤ LW := by
        have := fstM_up rok o.1 d1
        have := rok.s2
        have := rok.s1
        have : firR r o.1 ≤ firR r o.1 * r.pace := by
          have := Int.mul_le_mul_of_nonneg_left p1 fn
          omega
        have e : fstM r o.1 = r.shift + firR r o.1 * r.pace := rfl
        omega
      walk_at "rd"
      refine ⟨_, r, o.1, rfl, ra.mono s1, rok, d1, by omega, ?_⟩
      walk_at "rd"
      refine ⟨_, r, firR r o.1, rfl, ra.mono s1, p1, p2, fn, fl, ?_⟩
      walk_at "rd"
      by_cases c2 : fstM r o.1 < o.2
      · refine iteD c2 ?_
        walk_at "rd"
        refine ⟨_, r, g, zs, _, o.1, rfl, ra.mono s1, rok, hz, hzs.mono hide_same, fun sp h => (I.sp sp h).ok, d1, d3 |> fun h => by omega, fun H2 p s2 hp2 sa => ?_⟩
        replace sa : SpA K (hide g H2) p (fromM r (spellsM r (ds.take j)) o.1) := sa
        have hz2 := s2 _ _ hz
        have pg : p ≠ g := (ne_of_none hz hp2).symm
        have sok : SpOk r (fromM r (spellsM r (ds.take j)) o.1) := fromM_ok rok _ d1 (by omega)
        obtain ⟨dx, s0, t0, vs, xl, ll, hp, ht, ixt, tta⟩ := spA_tl sa sok rok
        obtain ⟨tc, twt, tln, tnx⟩ := tcnt_tl sok rok
        have hp' := hide_same _ _ hp
        have ht' := hide_same _ _ ht
        walk_at "rd"
        refine ⟨xl, ll, _, o.2, _, rfl, tta.mono hide_same, twt, tln, by omega, by omega, tc, tnx o.2, fun H3 s3 => ?_⟩
        refine ⟨_, rfl, p, cS K, dx, _, rfl, s3 _ _ hp', T.clS, T.nS_recovered, (by show 4 < 1000; decide), ?_⟩
        rw [spF_rec]
        have sa4 := SpA.rec (n := nextM (fromM r (spellsM r (ds.take j)) o.1).tl o.2) (sa.mono (hide_mono s3)) (hide_mono s3 _ _ hp)
        rw [← hide_comm pg] at sa4
        have zs4 : SpAs K (hide p (hide g (upd H3 p (.ins (cS K) dx (spF' (fromM r (spellsM r (ds.take j)) o.1).first (nextM (fromM r (spellsM r (ds.take j)) o.1).tl o.2) s0 t0))))) zs (spellsM r (ds.take j)) := by
          rw [hide_comm pg, hide_upd]
          exact hzs.mono (hide_into (hide_mono (s2.trans s3)) (hide_free hp2))
        have S4 : Same H (upd H3 p (.ins (cS K) dx (spF' (fromM r (spellsM r (ds.take j)) o.1).first (nextM (fromM r (spellsM r (ds.take j)) o.1).tl o.2) s0 t0))) := Same.mut (s1.trans (s2.trans s3)) (s1.free hp2)
        have g4 : upd H3 p (.ins (cS K) dx (spF' (fromM r (spellsM r (ds.take j)) o.1).first (nextM (fromM r (spellsM r (ds.take j)) o.1).tl o.2) s0 t0)) g = some (.lst zs) := by
          rw [upd_ne pg.symm]
          exact s3 _ _ hz2
        generalize upd H3 p (.ins (cS K) dx (spF' (fromM r (spellsM r (ds.take j)) o.1).first (nextM (fromM r (spellsM r (ds.take j)) o.1).tl o.2) s0 t0)) = H4 at *
        have e4 : spellsM r (ds.take (j + 1)) = spellsM r (ds.take j) ++ [{ fromM r (spellsM r (ds.take j)) o.1 with rcv := nextM (fromM r (spellsM r (ds.take j)) o.1).tl o.2 }] := by
          rw [est, epu]
          exact if_pos c2
        refine ⟨fun n' σ H' => n' = (match σ[3]? with | some (some (V.int j)) => ((ds.length : Int) - j).toNat | _ => 0) ∧ Same H H' ∧ ∃ (i : Nat) (sp : SpM), σ = [some (.ref rx), some (.ref l), some (.ref g), some (.int i), some (.int o.1), some (.int o.2), some (.ref p)] ∧
          H' g = some (.lst zs) ∧ SpAs K (hide p (hide g H')) zs (spellsM r (ds.take j)) ∧ SpA K (hide g H') p sp ∧ spellsM r (ds.take i) = spellsM r (ds.take j) ++ [sp] ∧ i ≤ ds.length ∧ j < i,
          ⟨_, rfl, S4, j + 1, _, rfl, g4, zs4, sa4, e4, by omega, by omega⟩, ?_⟩
        rintro n' σ H5 ⟨en', s5, i, sp, rfl, g5, zs5, sa5, ei, il, ji⟩
        replace en' : n' = ((ds.length : Int) - i).toNat := en'
        obtain ⟨lo', lo0', I'⟩ := inv i
        have F5 := I'.sp sp (by rw [ei]; simp)
        have rb := F5.rb
        have rn := rcv_nn F5
        obtain ⟨dx5, s05, t05, vs5, xl5, ll5, hp5, ht5, ixt5, tta5⟩ := spA_tl sa5 F5.ok rok
        obtain ⟨tc5, twt5, tln5, tnx5⟩ := tcnt_tl F5.ok rok
        have hp5' := hide_same _ _ hp5
        have ht5' := hide_same _ _ ht5
        have hl5 := s5 _ _ hl
        have done : (∀ o2, ds[i]? = some o2 → ¬ o2.1 ≤ sp.rcv) → ∀ (x4 x5 x6 : Option V), (Same H (upd H5 g (.lst (zs ++ [.ref p]))) ∧ ∃ (j' : Nat) (y4 y5 y6 : Option V) (zs' : List V), ([some (.ref rx), some (.ref l), some (.ref g), some (.int i), x4, x5, x6] : L2.St) = [some (.ref rx), some (.ref l), some (.ref g), some (.int j'), y4, y5, y6] ∧
            upd H5 g (.lst (zs ++ [.ref p])) g = some (.lst zs') ∧ SpAs K (hide g (upd H5 g (.lst (zs ++ [.ref p])))) zs' (spellsM r (ds.take j')) ∧ j' ≤ ds.length ∧ ∀ o, ds[j']? = some o → ∀ sp, (spellsM r (ds.take j')).getLast? = some sp → ¬ o.1 ≤ sp.rcv) := fun hx x4 x5 x6 => by
          refine ⟨Same.mut s5 hg, i, _, _, _, _, rfl, upd_same, ?_, il, fun o2 ho2 sp2 hs2 => ?_⟩
          · rw [hide_upd, ei]
            exact pApp (zs5.mono hide_same) (.cons ⟨p, rfl, sa5⟩ .nil)
          · rw [ei, List.getLast?_concat] at hs2
            cases hs2
            exact hx o2 ho2
        have zl := pLen zs5
        have I0 := I.len
        have I1 : (ds.take j).length ≤ 50 := by rw [List.length_take]; omega
        have zlt : zs.length < sizeLine := Nat.lt_of_lt_of_le (m := 1001) (by omega) (Nat.le_trans (by decide) slM)
        have mea : ((ds.length : Int) - (i : Int)).toNat < n := by
          rw [en]
          omega
        walk_at "rd"
        by_cases c3 : (i : Int) < us.length
        · refine iteD c3 ?_
          obtain ⟨u3, hu3⟩ := len_at (l := us) (i := i) (by omega)
          obtain ⟨o3, ho3, a3, rfl, ha3⟩ := (pAt hos hu3)
          obtain ⟨e1, e2, e3⟩ := downs_at hd ho3
          have ix3 := atI_nat hu3
          have ha35 := s5 _ _ ha3
          walk_at "rd"
          by_cases c4 : o3.1 ≤ sp.rcv
          · refine iteD c4 ?_
            refine ⟨_, fun σ' H' h => h, ?_⟩
            walk_at "rd"
            refine ⟨xl5, ll5, _, _, _, rfl, tta5.mono hide_same, twt5, tln5, by split <;> omega, by split <;> omega, tc5, tnx5 _, fun H6 s6 => ?_⟩
            refine ⟨_, rfl, p, cS K, dx5, _, rfl, s6 _ _ hp5', T.clS, T.nS_recovered, (by show 4 < 1000; decide), ?_⟩
            rw [spF_rec]
            walk_at "rd"
            have sa6 := SpA.rec (n := nextM sp.tl (if o3.2 > sp.rcv then o3.2 else sp.rcv)) (sa5.mono (hide_mono s6)) (hide_mono s6 _ _ hp5)
            rw [← hide_comm pg] at sa6
            have ph : H p = none := s1.free hp2
            refine ⟨((ds.length : Int) - ((i : Int) + 1)).toNat, by omega, rfl, Same.mut (s5.trans s6) ph, i + 1, absS sp o3, rfl, ?_, ?_, sa6, ?_, by omega, by omega⟩
            · rw [upd_ne pg.symm]
              exact s6 _ _ g5
            · rw [hide_comm pg, hide_upd]
              exact zs5.mono (hide_mono (hide_mono s6))
            · rw [spells_take ho3, ei]
              unfold stepS
              rw [List.getLast?_concat, List.dropLast_concat]
              exact if_pos c4
          · refine iteE c4 ?_
            walk_at "rd"
            refine ⟨Or.inl ⟨rfl, _, SqL.of g5⟩, ?_⟩
            walk_at "rd"
            exact ⟨g, zs, _, rfl, rfl, g5, zlt, _, mea, rfl, done (fun o2 ho2 => by rw [ho3] at ho2; cases ho2; exact c4) _ _ _⟩
        · refine iteE c3 ?_
          walk_at "rd"
          refine ⟨Or.inl ⟨rfl, _, SqL.of g5⟩, ?_⟩
          walk_at "rd"
          exact ⟨g, zs, _, rfl, rfl, g5, zlt, _, mea, rfl, done (fun o2 ho2 => by have := (List.getElem?_eq_some_iff.mp ho2).1; omega) _ _ _⟩
      · refine iteE c2 ?_
        walk_at "rd"
        have e2 : spellsM r (ds.take (j + 1)) = spellsM r (ds.take j) := by
          rw [est, epu]
          exact if_neg c2
        refine ⟨_, ?_, rfl, s1, j + 1, _, _, _, zs, rfl, hz, by rw [e2]; exact hzs, by omega, fun o2 ho2 sp hsp => ?_⟩
        · show ((ds.length : Int) - ((j : Int) + 1)).toNat < n
          omega
        · rw [e2] at hsp
          have := nx o ho sp hsp
          have := downs_adj hd ho ho2
          omega
    · refine iteE c1 ?_
      refine ⟨_, rfl, ?_⟩
      have e2 : ds.take j = ds := List.take_of_length_le (by omega)
      rw [e2] at hzs
      exact k H1 g zs s1 hg hz (hzs.mono hide_same)
end

section
variable {P : Program} {w : World} {K : PySem.W.Frag} {mg : Str → Option Value} {base : Heap}
/-! ### timelines -/
def TlA (K : PySem.W.Frag) (H : Hp) (x : Addr) (r : RowM) (ds : List (Int × Int)) (sps : List SpM) : Prop := ∃ (dx rx d s : Addr) (os zs : List V), H x = some (.ins (cL K) dx (tlF rx d s)) ∧ RowA K H (.ref rx) r ∧ H d = some (.lst os) ∧ OutVs H os ds ∧ H s = some (.lst zs) ∧ SpAs K H zs sps
theorem TlA.mono {H H' : Hp} (e : Same H H') {x : Addr} {r : RowM} {ds : List (Int × Int)} {sps : List SpM} (h : TlA K H x r ds sps) : TlA K H' x r ds sps := by
  obtain ⟨dx, rx, d, s, os, zs, h1, h2, h3, h4, h5, h6⟩ := h
  exact ⟨dx, rx, d, s, os, zs, e _ _ h1, h2.mono e, e _ _ h3, h4.mono e, e _ _ h5, h6.mono e⟩
/-- a spell does not touch an instance of another class -/
theorem SpA.hideC (T : Tx K mg) {H : Hp} {x p dx : Addr} {fs : List (Str × V)} {sp : SpM} (hx : H x = some (.ins (cL K) dx fs)) (h : SpA K H p sp) : SpA K (hide x H) p sp := by
  obtain ⟨dp, s, t, us, vs, h1, h2, h3, h4, h5⟩ := h
  have px : p ≠ x := ne_of h1 hx (by intro q; injection q with q; exact T.LS q.symm)
  have hx' : hide p H x = some (.ins (cL K) dx fs) := by rw [hide_ne px.symm]; exact hx
  refine ⟨dp, s, t, us, vs, by rw [hide_ne px]; exact h1, ?_, ?_, ?_, ?_⟩
  · rw [hide_swap, hide_ne (ne_of h2 hx' (by intro q; cases q))]
    exact h2
  · rw [hide_swap]
    refine pImp (fun v st ⟨a, e1, e2⟩ => ⟨a, e1, ?_⟩) h3
    rcases e2 with (h | ⟨o, h⟩) | h
    · exact .inl (.inl (by rw [hide_ne (ne_of h hx' (by intro q; cases q))]; exact h))
    · exact .inl (.inr ⟨o, by rw [hide_ne (ne_of h hx' (by intro q; cases q))]; exact h⟩)
    · exact .inr h
  · rw [hide_swap, hide_ne (ne_of h4 hx' (by intro q; cases q))]
    exact h4
  · rw [hide_swap]
    refine pImp (fun v ts ⟨a, l, e1, ta⟩ => ⟨a, l, e1, ?_⟩) h5
    obtain ⟨⟨da, a1⟩, ws, a2, a3⟩ := id ta
    exact ta.hideO (ne_of a1 hx' (by intro q; injection q with q; exact T.LT q.symm)) (ne_of a2 hx' (by intro q; cases q)) hx' fun _ q => by cases q
def sp_tlI (K : PySem.W.Frag) : Sp := fun vs H Q _ => ∃ (x dx l : Addr) (us : List V) (v : V) (r : RowM) (ds : List (Int × Int)), vs = [.ref x, v, .ref l] ∧ H x = some (.ins (cL K) dx []) ∧ RowA K (hide x H) v r ∧ RowOk r ∧ hide x H l = some (.lst us) ∧ OutVs (hide x H) us ds ∧ Downs 0 ds ∧ ds.length ≤ 50 ∧
  ∀ H', Same (hide x H) (hide x H') → TlA K H' x r ds (spellsM r ds) → Q .non H'
theorem sc_tlI : FnScope ["self", "row", "outages"] ["self", "row", "outages"] (defScope s_tlI) := ⟨rfl, rfl, rfl, by decide +kernel, rfl, by decide +kernel, by decide +kernel⟩
theorem ok_tlI (T : Tx K mg) : FK P w K mg base 13 (He.ma K (He.ga K "Timeline") "__init__") ["self", "row", "outages"] (sp_tlI K) := by
  refine fk_of T.f_tlI sc_tlI (fun vs H Q E h => ?_) (fun _ _ _ _ _ _ us hl => match us, hl with | [_, _, _], _ => rfl) (fun cdv A outer s H vs Q E hr h => ?_)
  · obtain ⟨x, dx, l, us, v, r, ds, rfl, hx, ra, rok, hl, hos, hd, len, k⟩ := h
    rfl
  · obtain ⟨x, dx, l, us, v, r, ds, rfl, hx, ra, rok, hl, hos, hd, len, k⟩ := h
    refine ⟨_, (pss_cons (ps_expr (pe_callF (ok_chkO T) (hr.mono (by decide)) T.g_chkO (pa_cons (pv 2) pa_nil)))
      (pss_cons (ps_fld (pv 0) (pv 1) rfl)
      (pss_cons (ps_fld (pv 0) (pe_callTy call_list_of (by rfl) T.b_list b_list (pa_cons (pv 2) pa_nil)) rfl)
      (pss_one (ps_fld (pv 0) (pe_callF (ok_spOf T) (hr.mono (by decide)) T.g_spOf (pa_cons (pv 1) (pa_cons (pe_fld (pv 0) rfl) pa_nil))) rfl))))), ?_⟩
    obtain ⟨rx, dr, lr, ur, rfl, _⟩ := id ra
    refine ⟨_, rfl, l, us, ds, rfl, hide_same _ _ hl, hos.mono hide_same, hd, len, fun H1 s1 => ?_⟩
    have x1 := s1 _ _ hx
    refine ⟨_, rfl, _, rfl, x, cL K, dx, _, rfl, x1, T.clL, T.nL_line, (by show 0 < 1000; decide), ?_⟩
    have S2 : Same (hide x H) (hide x (upd H1 x (.ins (cL K) dx (putF "line" (.ref rx) [])))) := by rw [hide_upd]; exact hide_mono s1
    have x2 : upd H1 x (.ins (cL K) dx (putF "line" (.ref rx) [])) x = some (.ins (cL K) dx (putF "line" (.ref rx) [])) := upd_same
    generalize upd H1 x (.ins (cL K) dx (putF "line" (.ref rx) [])) = H2 at *
    have l2 := hide_same _ _ (S2 _ _ hl)
    refine ⟨_, rfl, _, _, rfl, .inl (SqL.of l2), fun d hdn => ?_⟩
    have S3 : Same H2 (upd H2 d (.lst us)) := Same.new hdn
    have d3 : upd H2 d (.lst us) d = some (.lst us) := upd_same
    have dx' : d ≠ x := fun q => by rw [q, x2] at hdn; cases hdn
    generalize upd H2 d (.lst us) = H3 at *
    have x3 := S3 _ _ x2
    refine ⟨_, rfl, x, cL K, dx, _, rfl, x3, T.clL, T.nL_downs, (by show 1 < 1000; decide), ?_⟩
    have S4 : Same (hide x H) (hide x (upd H3 x (.ins (cL K) dx (putF "downs" (.ref d) (putF "line" (.ref rx) []))))) := by rw [hide_upd]; exact S2.trans (hide_mono S3)
    have x4 : upd H3 x (.ins (cL K) dx (putF "downs" (.ref d) (putF "line" (.ref rx) []))) x = some (.ins (cL K) dx (putF "downs" (.ref d) (putF "line" (.ref rx) []))) := upd_same
    have d4 : upd H3 x (.ins (cL K) dx (putF "downs" (.ref d) (putF "line" (.ref rx) []))) d = some (.lst us) := by rw [upd_ne dx']; exact d3
    generalize upd H3 x (.ins (cL K) dx (putF "downs" (.ref d) (putF "line" (.ref rx) []))) = H4 at *
    refine ⟨_, rfl, _, rfl, x, cL K, dx, _, _, rfl, x4, T.clL, T.nL_downs, rfl, ?_⟩
    refine ⟨.ref rx, r, d, us, ds, rfl, (ra.mono S4).mono hide_same, rok, d4, (hos.mono S4).mono hide_same, hd, len, fun H5 g zs s5 hg hg5 hzs => ?_⟩
    have x5 := s5 _ _ x4
    refine ⟨_, rfl, x, cL K, dx, _, rfl, x5, T.clL, T.nL_spells, (by show 2 < 1000; decide), ?_⟩
    rw [tlF_put]
    have gx : g ≠ x := fun q => by rw [q, x4] at hg; cases hg
    have S6 : Same (hide x H) (hide x (upd H5 x (.ins (cL K) dx (tlF rx d g)))) := by rw [hide_upd]; exact S4.trans (hide_mono s5)
    refine k _ S6 ⟨dx, rx, d, g, us, zs, upd_same, (ra.mono S6).mono hide_same, ?_, (hos.mono S6).mono hide_same, ?_, ?_⟩
    · rw [upd_ne dx']
      exact s5 _ _ d4
    · rw [upd_ne gx]
      exact hg5
    · refine pImp (fun v sp ⟨p, e1, e2⟩ => ⟨p, e1, ?_⟩) hzs
      have := SpA.hideC T x5 e2
      rw [← hide_upd (D := x) (o := .ins (cL K) dx (tlF rx d g))] at this
      exact this.mono hide_same
def sp_tlL (K : PySem.W.Frag) : Sp := fun vs H Q _ => ∃ (x : Addr) (r : RowM) (ds : List (Int × Int)) (sps : List SpM), vs = [.ref x] ∧ TlA K H x r ds sps ∧ Q (.int sps.length) H
theorem sc_tlL : FnScope ["self"] ["self"] (defScope s_tlL) := ⟨rfl, rfl, rfl, by decide +kernel, rfl, by decide +kernel, by decide +kernel⟩
theorem ok_tlL (T : Tx K mg) : FK P w K mg base 1 (He.ma K (He.ga K "Timeline") "__len__") ["self"] (sp_tlL K) := by
  refine fk_of T.f_tlL sc_tlL (fun vs H Q E h => ?_) (fun _ _ _ _ _ _ us hl => match us, hl with | [_], _ => rfl) (fun cdv A outer s H vs Q E hr h => ?_)
  · obtain ⟨x, r, ds, sps, rfl, ⟨dx, rx, d, s, os, zs, h1, h2, h3, h4, h5, h6⟩, k⟩ := h
    rfl
  · obtain ⟨x, r, ds, sps, rfl, ⟨dx, rx, d, s, os, zs, h1, h2, h3, h4, h5, h6⟩, k⟩ := h
    refine ⟨_, (pss_one (ps_ret (pe_callB call_len_seq (by rfl) T.b_len b_len (pa_cons (pe_fld (pv 0) rfl) pa_nil)))), ?_⟩
    walk_at "rd"
    rw [pLen h6]
    exact k
def sp_tlS (K : PySem.W.Frag) : Sp := fun vs H Q _ => ∃ (x : Addr) (r : RowM) (ds : List (Int × Int)) (sps : List SpM) (i : Nat) (sp : SpM), vs = [.ref x, .int (i : Int)] ∧ TlA K H x r ds sps ∧ sps[i]? = some sp ∧ ∀ p, SpA K H p sp → Q (.ref p) H
theorem sc_tlS : FnScope ["self", "index"] ["self", "index"] (defScope s_tlS) := ⟨rfl, rfl, rfl, by decide +kernel, rfl, by decide +kernel, by decide +kernel⟩
theorem ok_tlS (T : Tx K mg) : FK P w K mg base 3 (He.ma K (He.ga K "Timeline") "spell") ["self", "index"] (sp_tlS K) := by
  refine fk_of T.f_tlS sc_tlS (fun vs H Q E h => ?_) (fun _ _ _ _ _ _ us hl => match us, hl with | [_, _], _ => rfl) (fun cdv A outer s H vs Q E hr h => ?_)
  · obtain ⟨x, r, ds, sps, i, sp, rfl, ⟨dx, rx, d, s, os, zs, h1, h2, h3, h4, h5, h6⟩, hi, k⟩ := h
    rfl
  · obtain ⟨x, r, ds, sps, i, sp, rfl, ⟨dx, rx, d, s, os, zs, h1, h2, h3, h4, h5, h6⟩, hi, k⟩ := h
    refine ⟨_, (pss_cons (ps_if (pt_not (pt_val (pe_callF (ok_isBet T) (hr.mono (by decide)) T.g_isBet (pa_cons (pv 1) (pa_cons (pe_int) (pa_cons (pe_op op_sub (pe_callB call_len_seq (by rfl) T.b_len b_len (pa_cons (pe_fld (pv 0) rfl) pa_nil)) (pe_int)) pa_nil)))))) (pss_one (ps_never)) pss_nil)
      (pss_one (ps_ret (pe_ix ix_list (pe_fld (pv 0) rfl) (pv 1) (fun _ _ => rfl))))), ?_⟩
    obtain ⟨v, hv, p, rfl, sa⟩ := pAt2 h6 hi
    have zl := pLen h6
    have il := (List.getElem?_eq_some_iff.mp hi).1
    have ix := atI_nat hv
    walk_at "rd"
    refine ⟨_, _, _, rfl, ?_⟩
    rw [decide_eq_true (show (0 : Int) ≤ i by omega), decide_eq_true (show (i : Int) ≤ (zs.length : Int) - 1 by omega)]
    walk_at "rd"
    exact k p sa
end

section
variable {P : Program} {w : World} {K : PySem.W.Frag} {mg : Str → Option Value} {base : Heap}
structure TlOk (r : RowM) (ds : List (Int × Int)) (sps : List SpM) : Prop where
  rok : RowOk r
  inv : ∃ lo, 0 ≤ lo ∧ SpsInv r lo ds sps
theorem TlOk.F {r : RowM} {ds : List (Int × Int)} {sps : List SpM} (h : TlOk r ds sps) {i : Nat} {sp : SpM} (e : sps[i]? = some sp) : SpF r ds sp := by
  obtain ⟨lo, _, I⟩ := h.inv
  exact I.sp sp (List.mem_of_getElem? e)
/-- a spell's fields -/
theorem SpA.ins {H : Hp} {p : Addr} {sp : SpM} (h : SpA K H p sp) : ∃ (dx s t : Addr) (us vs : List V), H p = some (.ins (cS K) dx (spF' sp.first sp.rcv s t)) ∧ H s = some (.lst us) ∧ StVs K H us sp.st ∧ H t = some (.lst vs) ∧ TsVs K H vs sp.trs := by
  obtain ⟨dx, s, t, us, vs, h1, h2, h3, h4, h5⟩ := h
  exact ⟨dx, s, t, us, vs, h1, hide_same _ _ h2, h3.mono hide_same, hide_same _ _ h4, h5.mono hide_same⟩
def sp_tlG (K : PySem.W.Frag) : Sp := fun vs H Q _ => ∃ (x : Addr) (r : RowM) (ds : List (Int × Int)) (sps : List SpM) (i : Nat) (sp : SpM), vs = [.ref x, .int (i : Int)] ∧ TlA K H x r ds sps ∧ TlOk r ds sps ∧ sps[i]? = some sp ∧
  ∀ (H' : Hp) (T : Addr) (wh : Option Int), Same H H' → H' T = some (.tup [.int sp.first, .int sp.rcv, cV wh]) → (∀ n, wh = some n → ∃ m, 0 ≤ m ∧ m ≤ 1000000000000 ∧ n = sp.rcv + m * r.pace) → Q (.ref T) H'
theorem sc_tlG : FnScope ["self", "index", "spell", "whole"] ["self", "index"] (defScope s_tlG) := ⟨rfl, rfl, rfl, by decide +kernel, rfl, by decide +kernel, by decide +kernel⟩
theorem ok_tlG (T : Tx K mg) : FK P w K mg base 6 (He.ma K (He.ga K "Timeline") "__getitem__") ["self", "index"] (sp_tlG K) := by
  refine fk_of T.f_tlG sc_tlG (fun vs H Q E h => ?_) (fun _ _ _ _ _ _ us hl => match us, hl with | [_, _], _ => rfl) (fun cdv A outer s H vs Q E hr h => ?_)
  · obtain ⟨x, r, ds, sps, i, sp, rfl, ta, ok, hi, k⟩ := h
    rfl
  · obtain ⟨x, r, ds, sps, i, sp, rfl, ta, ok, hi, k⟩ := h
    refine ⟨_, (pss_cons (ps_set (i := 2) sc_tlG.nd rfl (Or.inl rfl) (pe_methF (pv 0) T.clL T.m_tlS (ok_tlS T) (hr.mono (by decide)) (pa_cons (pv 1) pa_nil)))
      (pss_cons (ps_set (i := 3) sc_tlG.nd rfl (Or.inl rfl) (pe_methF (pv 2) T.clS T.m_spW (ok_spW T) (hr.mono (by decide)) (pa_cons (pe_fld (pv 0) rfl) pa_nil)))
      (pss_cons (ps_if (PW.pt (pw_and (pt_cmpR op_lt (pe_op op_add (pv 1) (pe_int)) (pe_callB call_len_seq (by rfl) T.b_len b_len (pa_cons (pe_fld (pv 0) rfl) pa_nil)) (nomark _)) (pw_and1 (pt_cmpR op_le (pe_fld (pe_ix ix_list (pe_fld (pv 0) rfl) (pe_op op_add (pv 1) (pe_int)) (fun _ _ => rfl)) rfl) (pv 3) (nomark _))))) (pss_one (ps_set (i := 3) sc_tlG.nd rfl (Or.inl rfl) (pe_non))) pss_nil)
      (pss_one (ps_ret (pe_tup (pa_cons (pe_fld (pv 2) rfl) (pa_cons (pe_fld (pv 2) rfl) (pa_cons (pv 3) pa_nil))))))))), ?_⟩
    obtain ⟨dx, rx, d, s, os, zs, h1, h2, h3, h4, h5, h6⟩ := id ta
    have rok := ok.rok
    have zl := pLen h6
    refine ⟨_, rfl, x, dx, _, rfl, h1, rfl, _, rfl, x, r, ds, sps, i, sp, rfl, ta, hi, fun p sa => ?_⟩
    replace sa : SpA K H p sp := sa
    obtain ⟨dp, sp0, tp0, us, vs, p1, p2, p3, p4, p5⟩ := sa.ins
    refine ⟨_, rfl, p, dp, _, rfl, p1, rfl, ?_⟩
    walk_at "rd"
    refine ⟨p, _, r, sp, rfl, sa, h2, rok, (ok.F hi).ok, fun H1 m s1 m0 m1 => ?_⟩
    have h11 := s1 _ _ h1
    have h51 := s1 _ _ h5
    have p11 := s1 _ _ p1
    have fin : ∀ wh : Option Int, (∀ n, wh = some n → ∃ m, 0 ≤ m ∧ m ≤ 1000000000000 ∧ n = sp.rcv + m * r.pace) → ∀ T, H1 T = none → Q (.ref T) (upd H1 T (.tup [.int sp.first, .int sp.rcv, cV wh])) := fun wh hw T hT => k _ T wh (s1.trans (Same.new hT)) upd_same hw
    have some1 : ∀ n, some (sp.rcv + m * r.pace) = some n → ∃ m, 0 ≤ m ∧ m ≤ 1000000000000 ∧ n = sp.rcv + m * r.pace := fun n e => ⟨m, m0, m1, (Option.some.inj e).symm⟩
    walk_at "rd"
    by_cases c1 : (i : Int) + 1 < zs.length
    · refine iteD c1 ?_
      obtain ⟨v2, hv2⟩ := len_at (l := zs) (i := i + 1) (by omega)
      obtain ⟨sp2, hs2, q, rfl, sa2⟩ := pAt h6 hv2
      obtain ⟨dq, _, _, _, _, q1, _⟩ := (sa2.mono s1).ins
      have ix : atI zs ((i : Int) + 1) = some (V.ref q) := by
        rw [show (i : Int) + 1 = ((i + 1 : Nat) : Int) by omega]
        exact atI_nat hv2
      walk_at "rd"
      by_cases c2 : sp2.first ≤ sp.rcv + m * r.pace
      · refine iteD c2 ?_
        walk_at "rd"
        exact ⟨sl3, fun T hT => fin none (fun n e => by cases e) T hT⟩
      · refine iteE c2 ?_
        walk_at "rd"
        exact ⟨sl3, fun T hT => fin _ some1 T hT⟩
    · refine iteE c1 ?_
      walk_at "rd"
      exact ⟨sl3, fun T hT => fin _ some1 T hT⟩
def oN : Option Nat → V
  | none => .non
  | some i => .int (i : Int)
def sp_spAt (K : PySem.W.Frag) : Sp := fun vs H Q _ => ∃ (x : Addr) (r : RowM) (ds : List (Int × Int)) (sps : List SpM) (t : Int), vs = [.ref x, .int t] ∧ TlA K H x r ds sps ∧ 0 ≤ t ∧ ∀ (H' : Hp) (o : Option Nat), Same H H' → SpAt sps t o → Q (oN o) H'
theorem sc_spAt : FnScope ["timeline", "time", "index", "spell"] ["timeline", "time"] (defScope s_spAt) := ⟨rfl, rfl, rfl, by decide +kernel, rfl, by decide +kernel, by decide +kernel⟩
theorem ok_spAt (T : Tx K mg) : FK P w K mg base 3 (He.ga K "spell_at") ["timeline", "time"] (sp_spAt K) := by
  refine fk_of T.f_spAt sc_spAt (fun vs H Q E h => ?_) (fun _ _ _ _ _ _ us hl => match us, hl with | [_, _], _ => rfl) (fun cdv A outer s H vs Q E hr h => ?_)
  · obtain ⟨x, r, ds, sps, t, rfl, ta, t0, k⟩ := h
    rfl
  · obtain ⟨x, r, ds, sps, t, rfl, ta, t0, k⟩ := h
    refine ⟨_, (pss_cons (ps_expr (pe_callF (ok_chkT T) (hr.mono (by decide)) T.g_chkT (pa_cons (pv 1) pa_nil)))
      (pss_cons (ps_for PassesOwn.never rfl (pi_enum (by rfl) T.b_enumerate (pa_cons (pe_fld (pv 0) rfl) pa_nil)) (pg_tup rfl (pgs_cons (pg_name (i := 2) sc_spAt.nd rfl (Or.inl rfl)) (pgs_cons (pg_name (i := 3) sc_spAt.nd rfl (Or.inl rfl)) pgs_nil))) (pss_one (ps_if (pt_chain op_le op_lt (pe_fld (pv 3) rfl) (pv 1) (pe_fld (pv 3) rfl)) (pss_one (ps_ret (pv 2))) pss_nil)))
      (pss_one (ps_ret (pe_non))))), ?_⟩
    obtain ⟨dx, rx, d, s, os, zs, h1, h2, h3, h4, h5, h6⟩ := id ta
    have zl := pLen h6
    walk_at "rd"
    refine ⟨t0, ?_⟩
    walk_at "rd"
    refine ⟨_, _, rfl, SqL.of h5, ?_⟩
    refine for_it walk_enum (fun i σ H' => Same H H' ∧ (∃ x2 x3, σ = [some (.ref x), some (.int t), x2, x3]) ∧ ∀ (j : Nat) sp, j < i → sps[j]? = some sp → ¬ (sp.first ≤ t ∧ t < sp.rcv)) ⟨Same.refl H, ⟨_, _, rfl⟩, fun j sp h => absurd h (Nat.not_lt_zero _)⟩ (fun i σ H' _ h => SqL.of (h.1 _ _ h5)) ?_ ?_
    · rintro i y σ H1 H2 hi ⟨s1, ⟨x2, x3, rfl⟩, no⟩ ⟨T0, a, b, rfl, hT, rfl, hy, hz⟩
      cases hy
      obtain ⟨sp, hs, p, rfl, sa⟩ := pAt h6 hz
      have s2 := s1.trans (Same.new (o := .tup [.int i, .ref p]) hT)
      obtain ⟨dp, _, _, _, _, p1, _⟩ := (sa.mono s2).ins
      refine ⟨_, _, rfl, SqT.of upd_same, rfl, _, _, rfl, _, _, rfl, rfl, ?_⟩
      walk_at "rd"
      have next : ¬ (sp.first ≤ t ∧ t < sp.rcv) → ∀ (j : Nat) sp, j < i + 1 → sps[j]? = some sp → ¬ (sp.first ≤ t ∧ t < sp.rcv) := fun hn j sp' hj hs' => by
        rcases Nat.lt_or_ge j i with z | z
        · exact no j sp' z hs'
        · have : j = i := by omega
          subst this
          rw [hs] at hs'
          cases hs'
          exact hn
      by_cases c1 : sp.first ≤ t
      · refine iteD c1 ?_
        walk_at "rd"
        by_cases c2 : t < sp.rcv
        · refine iteD c2 ?_
          walk_at "rd"
          exact k _ (some i) s2 ⟨sp, hs, c1, c2⟩
        · refine iteE c2 ?_
          exact ⟨s2, ⟨_, _, rfl⟩, next fun h => c2 h.2⟩
      · refine iteE c1 ?_
        walk_at "rd"
        exact ⟨s2, ⟨_, _, rfl⟩, next fun h => c1 h.1⟩
    · rintro σ H1 ⟨s1, ⟨x2, x3, rfl⟩, no⟩
      exact k H1 none s1 fun j sp hs => no j sp (by rw [zl]; exact (List.getElem?_eq_some_iff.mp hs).1) hs
theorem firR_LW {r : RowM} (rok : RowOk r) {t : Int} (t0 : 0 ≤ t) (tb : t ≤ 8 * BB) : firR r t ≤ LW := by
  have fn := firR_nn r t
  have := fstM_up rok t t0
  have := rok.s2
  have := rok.s1
  have p1 := rok.p1
  have p2 := rok.p2
  have bw := BB_LW1
  have bb := BB_big
  have : firR r t ≤ firR r t * r.pace := by
    have := Int.mul_le_mul_of_nonneg_left p1 fn
    omega
  have e : fstM r t = r.shift + firR r t * r.pace := rfl
  omega
def rcvAt (sps : List SpM) (i : Nat) : Int := (sps[i]?.map (·.rcv)).getD 0
def fsM (r : RowM) (sps : List SpM) (t : Int) : Option Nat → Int
  | none => fstM r t
  | some i => rcvAt sps i
def sp_firS (K : PySem.W.Frag) : Sp := fun vs H Q _ => ∃ (x : Addr) (r : RowM) (ds : List (Int × Int)) (sps : List SpM) (t : Int), vs = [.ref x, .int t] ∧ TlA K H x r ds sps ∧ RowOk r ∧ 0 ≤ t ∧ t ≤ BB ∧
  ∀ (H' : Hp) (o : Option Nat), Same H H' → SpAt sps (fstM r t) o → Q (.int (fsM r sps t o)) H'
theorem sc_firS : FnScope ["timeline", "time", "row", "found", "index"] ["timeline", "time"] (defScope s_firS) := ⟨rfl, rfl, rfl, by decide +kernel, rfl, by decide +kernel, by decide +kernel⟩
theorem ok_firS (T : Tx K mg) : FK P w K mg base 4 (He.ga K "first_success") ["timeline", "time"] (sp_firS K) := by
  refine fk_of T.f_firS sc_firS (fun vs H Q E h => ?_) (fun _ _ _ _ _ _ us hl => match us, hl with | [_, _], _ => rfl) (fun cdv A outer s H vs Q E hr h => ?_)
  · obtain ⟨x, r, ds, sps, t, rfl, ta, rok, t0, t1, k⟩ := h
    rfl
  · obtain ⟨x, r, ds, sps, t, rfl, ta, rok, t0, t1, k⟩ := h
    refine ⟨_, (pss_cons (ps_set (i := 2) sc_firS.nd rfl (Or.inl rfl) (pe_fld (pv 0) rfl))
      (pss_cons (ps_set (i := 3) sc_firS.nd rfl (Or.inl rfl) (pe_callF (ok_reqT T) (hr.mono (by decide)) T.g_reqT (pa_cons (pv 2) (pa_cons (pe_callF (ok_firR T) (hr.mono (by decide)) T.g_firR (pa_cons (pv 2) (pa_cons (pv 1) pa_nil))) pa_nil))))
      (pss_cons (ps_set (i := 4) sc_firS.nd rfl (Or.inl rfl) (pe_callF (ok_spAt T) (hr.mono (by decide)) T.g_spAt (pa_cons (pv 0) (pa_cons (pv 3) pa_nil))))
      (pss_one (ps_ret (pe_ifExp (pt_cmpR op_isN (pv 4) (pe_non) (nomark _)) (pv 3) (pe_fld (pe_ix ix_list (pe_fld (pv 0) rfl) (pv 4) (fun _ _ => rfl)) rfl))))))), ?_⟩
    obtain ⟨dx, rx, d, s, os, zs, h1, h2, h3, h4, h5, h6⟩ := id ta
    have bb := BB_big
    walk_at "rd"
    refine ⟨_, r, t, rfl, h2, rok, t0, t1, ?_⟩
    walk_at "rd"
    refine ⟨_, r, firR r t, rfl, h2, rok.p1, rok.p2, firR_nn r t, firR_LW rok t0 (by omega), ?_⟩
    walk_at "rd"
    refine ⟨x, r, ds, sps, fstM r t, rfl, ta, fstM_nn rok t, fun H1 o s1 ho => ?_⟩
    have h11 := s1 _ _ h1
    have h51 := s1 _ _ h5
    have k := k H1 o s1 ho
    cases o with
    | none =>
      walk_at "rd"
      exact k
    | some i =>
      obtain ⟨sp, hs, _, _⟩ := ho
      obtain ⟨v, hv, p, rfl, sa⟩ := pAt2 h6 hs
      obtain ⟨dp, _, _, _, _, p1, _⟩ := (sa.mono s1).ins
      have ix := atI_nat hv
      have e : rcvAt sps i = sp.rcv := by unfold rcvAt; rw [hs]; rfl
      rw [show fsM r sps t (some i) = sp.rcv from e] at k
      rw [show oN (some i) = V.int (i : Int) from rfl]
      walk_at "rd"
      exact k
def sp_arr (K : PySem.W.Frag) : Sp := fun vs H Q _ => ∃ (x : Addr) (r : RowM) (ds : List (Int × Int)) (sps : List SpM) (i b : Nat) (sp : SpM) (ts : List Tr), vs = [.ref x, .int (i : Int), .int (b : Int)] ∧ TlA K H x r ds sps ∧ TlOk r ds sps ∧ sps[i]? = some sp ∧ sp.trs[b]? = some ts ∧
  NewTs K H Q (winM ts sp.rcv)
theorem sc_arr : FnScope ["timeline", "index", "breaker", "spell"] ["timeline", "index", "breaker"] (defScope s_arr) := ⟨rfl, rfl, rfl, by decide +kernel, rfl, by decide +kernel, by decide +kernel⟩
theorem ok_arr (T : Tx K mg) : FK P w K mg base 8 (He.ga K "arrivals") ["timeline", "index", "breaker"] (sp_arr K) := by
  refine fk_of T.f_arr sc_arr (fun vs H Q E h => ?_) (fun _ _ _ _ _ _ us hl => match us, hl with | [_, _, _], _ => rfl) (fun cdv A outer s H vs Q E hr h => ?_)
  · obtain ⟨x, r, ds, sps, i, b, sp, ts, rfl, ta, ok, hi, hb, k⟩ := h
    rfl
  · obtain ⟨x, r, ds, sps, i, b, sp, ts, rfl, ta, ok, hi, hb, k⟩ := h
    refine ⟨_, (pss_cons (ps_set (i := 3) sc_arr.nd rfl (Or.inl rfl) (pe_methF (pv 0) T.clL T.m_tlS (ok_tlS T) (hr.mono (by decide)) (pa_cons (pv 1) pa_nil)))
      (pss_cons (ps_if (pt_not (pt_val (pe_callF (ok_isBet T) (hr.mono (by decide)) T.g_isBet (pa_cons (pv 2) (pa_cons (pe_int) (pa_cons (pe_callB (call_lenF (ok_rowL T) (hr.mono (by decide)) T.m_rowL) (by rfl) T.b_len b_len (pa_cons (pe_fld (pv 0) rfl) pa_nil)) pa_nil)))))) (pss_one (ps_never)) pss_nil)
      (pss_one (ps_ret (pe_callF (ok_wind T) (hr.mono (by decide)) T.g_wind (pa_cons (pe_ix ix_list (pe_fld (pv 3) rfl) (pv 2) (fun _ _ => rfl)) (pa_cons (pe_int) (pa_cons (pe_fld (pv 3) rfl) pa_nil)))))))), ?_⟩
    obtain ⟨dx, rx, d, s, os, zs, h1, ⟨rx', dr, lr, ur, er, hr1, hr2, hr3⟩, h3, h4, h5, h6⟩ := id ta
    cases er
    have F := ok.F hi
    have tok := F.ok.trsOk ok.rok
    have to := tok.ok b ts hb
    have bl := (List.getElem?_eq_some_iff.mp hb).1
    have tl := tok.len
    have bq := BB_C
    have b0 := BB_big
    have rn := rcv_nn F
    have rb := F.rb
    refine ⟨_, rfl, x, dx, _, rfl, h1, rfl, _, rfl, x, r, ds, sps, i, sp, rfl, ta, hi, fun p sa => ?_⟩
    replace sa : SpA K H p sp := sa
    obtain ⟨dp, sp0, tp0, us, vs, p1, p2, p3, p4, p5⟩ := sa.ins
    obtain ⟨v, hv, y, l, rfl, tsa⟩ := pAt2 p5 hb
    have ix := atI_nat hv
    walk_at "rd"
    refine ⟨rx, dr, _, rfl, hr1, _, r, rfl, ⟨rx, dr, lr, ur, rfl, hr1, hr2, hr3⟩, _, rfl, by omega, by have := ok.rok.len; omega, ?_⟩
    walk_at "rd"
    refine ⟨_, _, _, rfl, ?_⟩
    rw [decide_eq_true (show (0 : Int) ≤ b by omega), decide_eq_true (show (b : Int) ≤ (r.specs.length : Int) by omega)]
    walk_at "rd"
    refine ⟨y, l, ts, sp.rcv, rfl, tsa, to.nf.ord, to.bd.mono (by omega), by have := to.len; omega, rn, by omega, k⟩
def sp_star (K : PySem.W.Frag) : Sp := fun vs H Q _ => ∃ (x : Addr) (r : RowM) (ds : List (Int × Int)) (sps : List SpM) (i : Nat) (sp : SpM), vs = [.ref x, .int (i : Int)] ∧ TlA K H x r ds sps ∧ sps[i]? = some sp ∧
  ∀ (H' : Hp) (l : Addr) (us : List V), Same H H' → H' l = some (.lst us) → StVs K H' us sp.st → Q (.ref l) H'
theorem sc_star : FnScope ["timeline", "index"] ["timeline", "index"] (defScope s_star) := ⟨rfl, rfl, rfl, by decide +kernel, rfl, by decide +kernel, by decide +kernel⟩
theorem ok_star (T : Tx K mg) : FK P w K mg base 4 (He.ga K "starts") ["timeline", "index"] (sp_star K) := by
  refine fk_of T.f_star sc_star (fun vs H Q E h => ?_) (fun _ _ _ _ _ _ us hl => match us, hl with | [_, _], _ => rfl) (fun cdv A outer s H vs Q E hr h => ?_)
  · obtain ⟨x, r, ds, sps, i, sp, rfl, ta, hi, k⟩ := h
    rfl
  · obtain ⟨x, r, ds, sps, i, sp, rfl, ta, hi, k⟩ := h
    refine ⟨_, (pss_one (ps_ret (pe_callTy call_list_of (by rfl) T.b_list b_list (pa_cons (pe_fld (pe_methF (pv 0) T.clL T.m_tlS (ok_tlS T) (hr.mono (by decide)) (pa_cons (pv 1) pa_nil)) rfl) pa_nil)))), ?_⟩
    obtain ⟨dx, rx, d, s, os, zs, h1, h2, h3, h4, h5, h6⟩ := id ta
    refine ⟨_, rfl, x, dx, _, rfl, h1, rfl, _, rfl, x, r, ds, sps, i, sp, rfl, ta, hi, fun p sa => ?_⟩
    replace sa : SpA K H p sp := sa
    obtain ⟨dp, sp0, tp0, us, vs, p1, p2, p3, p4, p5⟩ := sa.ins
    walk_at "rd"
    intro q hq
    exact k _ q us (Same.new hq) upd_same (p3.mono (Same.new hq))
def sp_opn (K : PySem.W.Frag) : Sp := fun vs H Q _ => ∃ (x : Addr) (r : RowM) (ds : List (Int × Int)) (sps : List SpM) (i : Nat) (sp : SpM), vs = [.ref x, .int (i : Int)] ∧ TlA K H x r ds sps ∧ TlOk r ds sps ∧ sps[i]? = some sp ∧
  ∀ (H' : Hp) (l : Addr), Same H H' → H' l = some (.lst (((List.range r.specs.length).map (openM r sp)).map cV)) → Q (.ref l) H'
theorem sc_opn : FnScope ["timeline", "index", "spell", "breaker"] ["timeline", "index"] (defScope s_opn) := ⟨rfl, rfl, rfl, by decide +kernel, rfl, by decide +kernel, by decide +kernel⟩
theorem ok_opn (T : Tx K mg) : FK P w K mg base 5 (He.ga K "openings") ["timeline", "index"] (sp_opn K) := by
  refine fk_of T.f_opn sc_opn (fun vs H Q E h => ?_) (fun _ _ _ _ _ _ us hl => match us, hl with | [_, _], _ => rfl) (fun cdv A outer s H vs Q E hr h => ?_)
  · obtain ⟨x, r, ds, sps, i, sp, rfl, ta, ok, hi, k⟩ := h
    rfl
  · obtain ⟨x, r, ds, sps, i, sp, rfl, ta, ok, hi, k⟩ := h
    refine ⟨_, (pss_cons (ps_set (i := 2) sc_opn.nd rfl (Or.inr rfl) (pe_methF (pv 0) T.clL T.m_tlS (ok_tlS T) (hr.mono (by decide)) (pa_cons (pv 1) pa_nil)))
      (pss_one (ps_ret (pe_lc (own := [("breaker", 3)]) rfl sc_opn.nd (pi_range1 (by rfl) T.b_range (pa_cons (pe_callB (call_lenF (ok_rowL T) (hr.mono (by decide)) T.m_rowL) (by rfl) T.b_len b_len (pa_cons (pe_fld (pv 0) rfl) pa_nil)) pa_nil)) (blkOk_by (N := ["timeline", "index", "spell", "breaker"]) (sc := defScope s_opn) (by decide +kernel)) (fun _ _ _ _ _ => (pg_name (i := 3) sc_opn.nd rfl (Or.inl rfl))) (fun _ _ _ _ _ => pts_nil) (fun _ _ _ _ _ => (pe_methF (pv 2) T.clS T.m_spO (ok_spO T) (hr.mono (by decide)) (pa_cons (show PE _ _ (tFld K _ _) from pe_fld (pv 0) rfl) (pa_cons (pv 3) pa_nil)))))))), ?_⟩
    obtain ⟨dx, rx, d, s, os, zs, h1, ⟨rx', dr, lr, ur, er, hr1, hr2, hr3⟩, h3, h4, h5, h6⟩ := id ta
    cases er
    have ra : RowA K H (.ref rx) r := ⟨rx, dr, lr, ur, rfl, hr1, hr2, hr3⟩
    refine ⟨_, rfl, x, dx, _, rfl, h1, rfl, _, rfl, x, r, ds, sps, i, sp, rfl, ta, hi, fun p sa => ?_⟩
    replace sa : SpA K H p sp := sa
    obtain ⟨dp, sp0, tp0, us, vs, p1, p2, p3, p4, p5⟩ := sa.ins
    walk_at "rd"
    refine ⟨rx, dr, _, rfl, hr1, _, r, rfl, ra, _, rfl, by omega, by have := ok.rok.len; omega, ?_⟩
    refine ⟨_, rfl, by omega, by have := ok.rok.len; omega, fun D hD => ?_⟩
    refine lc_it (walk_range (lo := 0) (n := ((r.specs.length : Nat) : Int).toNat)) (fun n H' => Same H H' ∧ H' D = some (.lst (((List.range n).map (openM r sp)).map cV))) ⟨Same.new hD, upd_same⟩ (fun _ _ _ _ => trivial) ?_ ?_
    · rintro n y H1 H2 hn ⟨s1, hb⟩ ⟨rfl, rfl⟩
      have hn : n < r.specs.length := hn
      have p11 := s1 _ _ p1
      have h11 := s1 _ _ h1
      refine ⟨rfl, ?_⟩
      refine ⟨_, rfl, p, dp, _, rfl, p11, rfl, ?_⟩
      walk_at "rd"
      refine ⟨p, _, r, sp, n, by show [V.ref p, V.ref rx, V.int (0 + (n : Int))] = _; rw [Int.zero_add], sa.mono s1, ra.mono s1, ok.rok, (ok.F hi).ok, hn, _, hb, ?_, Same.mut s1 hD, ?_⟩
      · rw [List.length_map, List.length_map, List.length_range]
        have := ok.rok.len
        exact Nat.lt_of_lt_of_le (m := 1001) (by omega) (Nat.le_trans (by decide) slM)
      · rw [upd_same, List.range_succ, List.map_append, List.map_append]
        rfl
    · rintro H1 ⟨s1, hb⟩
      exact k H1 D s1 hb
def lastM (sps : List SpM) (t : Int) : Option SpM := sps.foldl (fun a s => if s.first ≤ t then some s else a) none
theorem lastM_take {sps : List SpM} {t : Int} {i : Nat} {sp : SpM} (h : sps[i]? = some sp) : lastM (sps.take (i + 1)) t = if sp.first ≤ t then some sp else lastM (sps.take i) t := by
  unfold lastM
  rw [List.take_add_one, h, List.foldl_append]
  rfl
def sp_lasS (K : PySem.W.Frag) : Sp := fun vs H Q _ => ∃ (x : Addr) (r : RowM) (ds : List (Int × Int)) (sps : List SpM) (t : Int), vs = [.ref x, .int t] ∧ TlA K H x r ds sps ∧ (lastM sps t = none → Q .non H) ∧ (∀ sp p, lastM sps t = some sp → SpA K H p sp → Q (.ref p) H)
theorem sc_lasS : FnScope ["timeline", "time", "found", "spell"] ["timeline", "time"] (defScope s_lasS) := ⟨rfl, rfl, rfl, by decide +kernel, rfl, by decide +kernel, by decide +kernel⟩
theorem ok_lasS (T : Tx K mg) : FK P w K mg base 1 (He.ga K "last_spell") ["timeline", "time"] (sp_lasS K) := by
  refine fk_of T.f_lasS sc_lasS (fun vs H Q E h => ?_) (fun _ _ _ _ _ _ us hl => match us, hl with | [_, _], _ => rfl) (fun cdv A outer s H vs Q E hr h => ?_)
  · obtain ⟨x, r, ds, sps, t, rfl, ta, k1, k2⟩ := h
    rfl
  · obtain ⟨x, r, ds, sps, t, rfl, ta, k1, k2⟩ := h
    refine ⟨_, (pss_cons (ps_set (i := 2) sc_lasS.nd rfl (Or.inl rfl) (pe_non))
      (pss_cons (ps_for PassesOwn.never rfl (pi_list (pe_fld (pv 0) rfl)) (pg_name (i := 3) sc_lasS.nd rfl (Or.inl rfl)) (pss_one (ps_if (pt_cmpR op_le (pe_fld (pv 3) rfl) (pv 1) (nomark _)) (pss_one (ps_set (i := 2) sc_lasS.nd rfl (Or.inl rfl) (pv 3))) pss_nil)))
      (pss_one (ps_ret (pv 2))))), ?_⟩
    obtain ⟨dx, rx, d, s, os, zs, h1, h2, h3, h4, h5, h6⟩ := id ta
    have zl := pLen h6
    walk_at "rd"
    refine ⟨⟨_, SqL.of h5⟩, ?_⟩
    refine for_it walk_list (fun i σ H' => H' = H ∧ ∃ v x3, σ = [some (.ref x), some (.int t), some v, x3] ∧ ((lastM (sps.take i) t = none ∧ v = .non) ∨ ∃ sp p, lastM (sps.take i) t = some sp ∧ v = .ref p ∧ SpA K H p sp)) ⟨rfl, _, _, rfl, .inl ⟨rfl, rfl⟩⟩ (fun i σ H' _ h => by rw [h.1]; exact SqL.of h5) ?_ ?_
    · rintro i y σ H1 H2 hi ⟨rfl, v, x3, rfl, hv⟩ ⟨rfl, hu⟩
      obtain ⟨sp, hs, p, rfl, sa⟩ := pAt h6 hu
      obtain ⟨dp, _, _, _, _, p1, _⟩ := sa.ins
      have e := lastM_take (t := t) hs
      walk_at "rd"
      by_cases c : sp.first ≤ t
      · refine iteD c ?_
        rw [if_pos c] at e
        walk_at "rd"
        exact .inr ⟨sp, p, e, rfl, sa⟩
      · refine iteE c ?_
        rw [if_neg c] at e
        refine ⟨rfl, _, _, rfl, ?_⟩
        rw [e]
        exact hv
    · rintro σ H1 ⟨rfl, v, x3, rfl, hv⟩
      rw [zl, List.take_length] at hv
      rcases hv with ⟨e, rfl⟩ | ⟨sp, p, e, rfl, sa⟩
      · exact ⟨_, rfl, k1 e⟩
      · exact ⟨_, rfl, k2 sp p e sa⟩
def sp_staA (K : PySem.W.Frag) : Sp := fun vs H Q _ => ∃ (x : Addr) (r : RowM) (ds : List (Int × Int)) (sps : List SpM) (t : Int) (st : List (Option Int)), vs = [.ref x, .int t] ∧ TlA K H x r ds sps ∧ TlOk r ds sps ∧ 0 ≤ t ∧
  ((lastM sps t = none ∧ st = List.replicate r.specs.length none) ∨ ∃ sp, lastM sps t = some sp ∧ sp ∈ sps ∧ sp.rcv ≤ t ∧ st = statesM r sp (t - (t - sp.rcv) % r.pace + r.pace)) ∧
  ∀ (H' : Hp) (l : Addr) (us : List V), Same H H' → H' l = some (.lst us) → StVs K H' us st → Q (.ref l) H'
theorem sc_staA : FnScope ["timeline", "time", "row", "spell", "index"] ["timeline", "time"] (defScope s_staA) := ⟨rfl, rfl, rfl, by decide +kernel, rfl, by decide +kernel, by decide +kernel⟩
theorem ok_staA (T : Tx K mg) : FK P w K mg base 6 (He.ga K "states_at") ["timeline", "time"] (sp_staA K) := by
  refine fk_of T.f_staA sc_staA (fun vs H Q E h => ?_) (fun _ _ _ _ _ _ us hl => match us, hl with | [_, _], _ => rfl) (fun cdv A outer s H vs Q E hr h => ?_)
  · obtain ⟨x, r, ds, sps, t, st, rfl, ta, ok, t0, hc, k⟩ := h
    rfl
  · obtain ⟨x, r, ds, sps, t, st, rfl, ta, ok, t0, hc, k⟩ := h
    refine ⟨_, (pss_cons (ps_expr (pe_callF (ok_chkT T) (hr.mono (by decide)) T.g_chkT (pa_cons (pv 1) pa_nil)))
      (pss_cons (ps_asg (pe_tup (pa_cons (pe_fld (pv 0) rfl) (pa_cons (pe_callF (ok_lasS T) (hr.mono (by decide)) T.g_lasS (pa_cons (pv 0) (pa_cons (pv 1) pa_nil))) pa_nil))) (pg_tup rfl (pgs_cons (pg_name (i := 2) sc_staA.nd rfl (Or.inl rfl)) (pgs_cons (pg_name (i := 3) sc_staA.nd rfl (Or.inr rfl)) pgs_nil))))
      (pss_cons (ps_if (pt_cmpR op_isN (pv 3) (pe_non) (nomark _)) (pss_one (ps_ret (pe_op op_rep (pe_lst (pa_cons (pe_glob (v := .ref _) (by rfl) T.g_CLOSED rfl) pa_nil)) (pe_callB (call_lenF (ok_rowL T) (hr.mono (by decide)) T.m_rowL) (by rfl) T.b_len b_len (pa_cons (pv 2) pa_nil))))) pss_nil)
      (pss_cons (ps_if (pt_cmpR op_lt (pv 1) (pe_fld (pv 3) rfl) (nomark _)) (pss_one (ps_never)) pss_nil)
      (pss_one (ps_ret (pe_methF (pv 3) T.clS T.m_spS (ok_spS T) (hr.mono (by decide)) (pa_cons (pv 2) (pa_cons (pe_op op_add (pe_op op_sub (pv 1) (pe_op op_mod (pe_op op_sub (pv 1) (pe_fld (pv 3) rfl)) (pe_fld (pv 2) rfl))) (pe_fld (pv 2) rfl)) pa_nil))))))))), ?_⟩
    obtain ⟨dx, rx, d, s, os, zs, h1, ⟨rx', dr, lr, ur, er, hr1, hr2, hr3⟩, h3, h4, h5, h6⟩ := id ta
    cases er
    have ra : RowA K H (.ref rx) r := ⟨rx, dr, lr, ur, rfl, hr1, hr2, hr3⟩
    have rl := ok.rok.len
    have p1 := ok.rok.p1
    walk_at "rd"
    refine ⟨t0, ?_⟩
    walk_at "rd"
    refine ⟨x, r, ds, sps, t, rfl, ta, ?_, ?_⟩
    · intro e
      have hst : st = List.replicate r.specs.length none := by
        rcases hc with ⟨_, h⟩ | ⟨sp, h, _⟩
        · exact h
        · rw [e] at h
          cases h
      refine ⟨sl2, fun T0 hT => ⟨_, _, rfl, SqT.of upd_same, rfl, _, _, rfl, _, _, rfl, rfl, ?_⟩⟩
      have S1 : Same H (upd H T0 (.tup [.ref rx, .non])) := Same.new hT
      generalize upd H T0 (.tup [.ref rx, .non]) = H1 at *
      walk_at "rd"
      refine ⟨sl1, fun c hc => ?_⟩
      have S2 := S1.trans (Same.new (o := .lst [.ref (He.ga K "CLOSED")]) hc)
      refine ⟨_, rfl, rx, dr, _, rfl, S2 _ _ hr1, _, r, rfl, ra.mono S2, _, rfl, by omega, by omega, ?_⟩
      refine ⟨c, _, _, rfl, rfl, upd_same, by omega, by omega, ?_, fun q hq => ?_⟩
      · show 1 * r.specs.length ≤ sizeLine
        exact Nat.le_trans (m := 5) (by omega) (Nat.le_trans (by decide) slM)
      · exact k _ q _ (S2.trans (Same.new hq)) upd_same (by rw [hst]; exact rep_st T r.specs.length)
    · intro sp p e sa
      obtain ⟨hm, hrc, hst⟩ : sp ∈ sps ∧ sp.rcv ≤ t ∧ st = statesM r sp (t - (t - sp.rcv) % r.pace + r.pace) := by
        rcases hc with ⟨h, _⟩ | ⟨sp', h, h2⟩
        · rw [e] at h
          cases h
        · rw [e] at h
          cases h
          exact h2
      replace sa : SpA K H p sp := sa
      refine ⟨sl2, fun T0 hT => ⟨_, _, rfl, SqT.of upd_same, rfl, _, _, rfl, _, _, rfl, rfl, ?_⟩⟩
      have S1 : Same H (upd H T0 (.tup [.ref rx, .ref p])) := Same.new hT
      generalize upd H T0 (.tup [.ref rx, .ref p]) = H1 at *
      obtain ⟨dp, _, _, _, _, q1, _⟩ := (sa.mono S1).ins
      have hr11 := S1 _ _ hr1
      obtain ⟨lo, _, I⟩ := ok.inv
      walk_at "rd"
      refine iteE (show ¬ t < sp.rcv by omega) ?_
      refine ⟨_, rfl, p, dp, _, rfl, q1, rfl, ?_⟩
      walk_at "rd"
      refine ⟨p, _, r, sp, _, rfl, sa.mono S1, ra.mono S1, ok.rok, (I.sp sp hm).ok, fun H2 l us s2 hl hl2 hus => ?_⟩
      exact k H2 l us (S1.trans s2) hl2 (by rw [hst]; exact hus)
end

section
variable {P : Program} {w : World} {K : PySem.W.Frag} {mg : Str → Option Value} {base : Heap}
/-! ### the law's draws -/
def sp_lMix : Sp := fun vs H Q _ => ∃ (c k : Int), vs = [.int c, .int k] ∧ 0 ≤ k ∧ k ≤ 1000000 ∧ ∀ v : Int, Q (.int v) H
theorem sc_lMix : FnScope ["_law_cell", "_law_k", "_law_figure"] ["_law_cell", "_law_k"] (defScope s_lMix) := ⟨rfl, rfl, rfl, by decide +kernel, rfl, by decide +kernel, by decide +kernel⟩
theorem ok_lMix (T : Tx K mg) : FK P w K mg base 1 (He.ga K "_law_mixed") ["_law_cell", "_law_k"] (sp_lMix) := by
  refine fk_of T.f_lMix sc_lMix (fun vs H Q E h => ?_) (fun _ _ _ _ _ _ us hl => match us, hl with | [_, _], _ => rfl) (fun cdv A outer s H vs Q E hr h => ?_)
  · obtain ⟨c, n, rfl, n0, n1, k⟩ := h
    rfl
  · obtain ⟨c, n, rfl, n0, n1, k⟩ := h
    refine ⟨_, (pss_cons (ps_set (i := 2) sc_lMix.nd rfl (Or.inl rfl) (pe_op op_mod (pe_callTy call_int1 (by rfl) T.b_int b_int (pa_cons (pe_op op_pow (pe_op op_add (pe_op op_add (pe_op op_mod (pe_callTy call_int1 (by rfl) T.b_int b_int (pa_cons (pv 0) pa_nil)) (pe_int)) (pe_op op_mulW (pe_int) (pv 1))) (pe_int)) (pe_int)) pa_nil)) (pe_int)))
      (pss_cons (ps_set (i := 2) sc_lMix.nd rfl (Or.inl rfl) (pe_op op_mod (pe_callTy call_int1 (by rfl) T.b_int b_int (pa_cons (pe_op op_add (pv 2) (pe_op op_mulW (pe_op op_mod (pe_callTy call_int1 (by rfl) T.b_int b_int (pa_cons (pe_op op_fdivW (pv 0) (pe_int)) pa_nil)) (pe_int)) (pe_op op_add (pv 1) (pe_int)))) pa_nil)) (pe_int)))
      (pss_cons (ps_set (i := 2) sc_lMix.nd rfl (Or.inl rfl) (pe_op op_mod (pe_callTy call_int1 (by rfl) T.b_int b_int (pa_cons (pe_op op_mulW (pv 2) (pe_op op_add (pe_op op_add (pe_op op_fdivW (pv 2) (pe_int)) (pe_int)) (pv 1))) pa_nil)) (pe_int)))
      (pss_one (ps_ret (pe_op op_mod (pe_callTy call_int1 (by rfl) T.b_int b_int (pa_cons (pe_op op_mulW (pv 2) (pe_op op_add (pe_op op_fdivW (pv 2) (pe_int)) (pe_int))) pa_nil)) (pe_int))))))), ?_⟩
    have lb := LW_big
    have lw := LW_LB
    walk_at "rdi"
    exact k _
def sp_lWel : Sp := fun vs H Q _ => ∃ (c : Int), vs = [.int c] ∧ ∀ (a : Int) (l : Addr), 0 ≤ a → H l = none → Q (.ref l) (upd H l (.lst [.int a, .int c, .int 0]))
theorem sc_lWel : FnScope ["_law_cell"] ["_law_cell"] (defScope s_lWel) := ⟨rfl, rfl, rfl, by decide +kernel, rfl, by decide +kernel, by decide +kernel⟩
theorem ok_lWel (T : Tx K mg) : FK P w K mg base 1 (He.ga K "_law_well") ["_law_cell"] (sp_lWel) := by
  refine fk_of T.f_lWel sc_lWel (fun vs H Q E h => ?_) (fun _ _ _ _ _ _ us hl => match us, hl with | [_], _ => rfl) (fun cdv A outer s H vs Q E hr h => ?_)
  · obtain ⟨c, rfl, k⟩ := h
    rfl
  · obtain ⟨c, rfl, k⟩ := h
    refine ⟨_, (pss_one (ps_ret (pe_lst (pa_cons (pe_op op_mul (pv 0) (pe_callTy call_int1 (by rfl) T.b_int b_int (pa_cons (pe_cmpR op_ge (pv 0) (pe_op op_pow (pe_int) (pe_int)) (nomark _)) pa_nil))) (pa_cons (pv 0) (pa_cons (pe_int) pa_nil)))))), ?_⟩
    walk_at "rdi"
    have e18 : (10 : Int) ^ Int.toNat 18 = 1000000000000000000 := by decide
    refine .inr ⟨_, rfl, _, _, rfl, rfl, .inr ⟨by split <;> decide, by split <;> decide⟩, _, rfl, sl3, fun p hp => k _ p ?_ hp⟩
    rw [e18]
    by_cases h : (1000000000000000000 : Int) ≤ c
    · rw [decide_eq_true h, if_pos rfl]
      omega
    · rw [decide_eq_false h, if_neg (by decide)]
      omega
def Wel (l : Addr) (n : Int) (H : Hp) : Prop := ∃ a c m : Int, H l = some (.lst [.int a, .int c, .int m]) ∧ 0 ≤ m ∧ m ≤ n ∧ n ≤ 1000
theorem Wel.up {l : Addr} {n n' : Int} {H : Hp} (h : Wel l n H) (h1 : n ≤ n') (h2 : n' ≤ 1000) : Wel l n' H := by
  obtain ⟨a, c, m, e, m0, m1, _⟩ := h
  exact ⟨a, c, m, e, m0, by omega, h2⟩
theorem Wel.mono {l : Addr} {n : Int} {H H' : Hp} (s : Same H H') (h : Wel l n H) : Wel l n H' := by
  obtain ⟨a, c, m, e, r⟩ := h
  exact ⟨a, c, m, s _ _ e, r⟩
/-- a draw: the well alone is changed -/
def DrawTo (H : Hp) (l : Addr) (n : Int) (P : Int → Prop) (Q : VK) : Prop := ∀ (H' : Hp) (v : Int), Same (hide l H) (hide l H') → Wel l n H' → P v → Q (.int v) H'
def sp_lDra : Sp := fun vs H Q _ => ∃ (l : Addr) (n many : Int), vs = [.ref l, .int many] ∧ Wel l n H ∧ n < 1000 ∧ 1 ≤ many ∧ many ≤ LW ∧ DrawTo H l (n + 1) (fun v => 0 ≤ v ∧ v < many) Q
theorem sc_lDra : FnScope ["_law_well_here", "_law_many", "_law_found"] ["_law_well_here", "_law_many"] (defScope s_lDra) := ⟨rfl, rfl, rfl, by decide +kernel, rfl, by decide +kernel, by decide +kernel⟩
theorem ok_lDra (T : Tx K mg) : FK P w K mg base 2 (He.ga K "_law_draw") ["_law_well_here", "_law_many"] (sp_lDra) := by
  refine fk_of T.f_lDra sc_lDra (fun vs H Q E h => ?_) (fun _ _ _ _ _ _ us hl => match us, hl with | [_, _], _ => rfl) (fun cdv A outer s H vs Q E hr h => ?_)
  · obtain ⟨l, n, many, rfl, ⟨a, c, m, hl, m0, m1, _⟩, n1, y1, y2, k⟩ := h
    rfl
  · obtain ⟨l, n, many, rfl, ⟨a, c, m, hl, m0, m1, _⟩, n1, y1, y2, k⟩ := h
    refine ⟨_, (pss_cons (ps_if (pt_cmpR op_gt (pe_ix ix_list (pv 0) (pe_int) (fun _ _ => rfl)) (pe_int) (nomark _)) (pss_cons (ps_set (i := 2) sc_lDra.nd rfl (Or.inl rfl) (pe_op op_mod (pe_callTy call_int1 (by rfl) T.b_int b_int (pa_cons (pe_ix ix_list (pv 0) (pe_int) (fun _ _ => rfl)) pa_nil)) (pv 1)))
        (pss_cons (ps_asg (pe_op op_fdivW (pe_ix ix_list (pv 0) (pe_int) (fun _ _ => rfl)) (pv 1)) (pg_sub (pv 0) (pe_int) set_list))
        (pss_one (ps_ret (pv 2))))) pss_nil)
      (pss_cons (ps_asg (pe_op op_add (pe_ix ix_list (pv 0) (pe_int) (fun _ _ => rfl)) (pe_int)) (pg_sub (pv 0) (pe_int) set_list))
      (pss_one (ps_ret (pe_op op_mod (pe_callTy call_int1 (by rfl) T.b_int b_int (pa_cons (pe_callF (ok_lMix T) (hr.mono (by decide)) T.g_lMix (pa_cons (pe_ix ix_list (pv 0) (pe_int) (fun _ _ => rfl)) (pa_cons (pe_ix ix_list (pv 0) (pe_int) (fun _ _ => rfl)) pa_nil))) pa_nil)) (pv 1)))))), ?_⟩
    have lb := LW_big
    have lw := LW_LB
    have i0 : atI [V.int a, V.int c, V.int m] 0 = some (.int a) := rfl
    have i1 : atI [V.int a, V.int c, V.int m] 1 = some (.int c) := rfl
    have i2 : atI [V.int a, V.int c, V.int m] 2 = some (.int m) := rfl
    walk_at "rdi"
    by_cases q : 0 < a
    · refine iteD q ?_
      walk_at "rdi"
      refine ⟨l, _, 0, 0, rfl, rfl, hl, rfl, ?_⟩
      walk_at "rdi"
      refine k _ _ (by rw [hide_upd]; exact Same.refl _) ⟨_, c, m, upd_same, m0, by omega, by omega⟩ ⟨Int.emod_nonneg _ (by omega), Int.emod_lt_of_pos _ (by omega)⟩
    · refine iteE q ?_
      walk_at "rdi"
      refine ⟨l, _, 2, 2, rfl, rfl, hl, rfl, ?_⟩
      have hl2 : upd H l (.lst ([V.int a, V.int c, V.int m].set 2 (V.int (m + 1)))) l = some (.lst [.int a, .int c, .int (m + 1)]) := upd_same
      have S2 : Same (hide l H) (hide l (upd H l (.lst ([V.int a, V.int c, V.int m].set 2 (V.int (m + 1)))))) := by rw [hide_upd]; exact Same.refl _
      have i1 : atI [V.int a, V.int c, V.int (m + 1)] 1 = some (.int c) := rfl
      have i2 : atI [V.int a, V.int c, V.int (m + 1)] 2 = some (.int (m + 1)) := rfl
      walk_at "rdi"
      refine ⟨by omega, by omega, fun v => ?_⟩
      walk_at "rdi"
      exact k _ _ S2 ⟨a, c, m + 1, hl2, by omega, by omega, by omega⟩ ⟨Int.emod_nonneg _ (by omega), Int.emod_lt_of_pos _ (by omega)⟩
def sp_lOne : Sp := fun vs H Q _ => ∃ (l p : Addr) (n : Int) (ns : List Int), vs = [.ref l, .ref p] ∧ Wel l n H ∧ n < 1000 ∧ H p = some (.lst (ns.map V.int)) ∧ p ≠ l ∧ 1 ≤ ns.length ∧ ns.length ≤ 100 ∧ DrawTo H l (n + 1) (fun v => v ∈ ns) Q
theorem sc_lOne : FnScope ["_law_well_here", "_law_some"] ["_law_well_here", "_law_some"] (defScope s_lOne) := ⟨rfl, rfl, rfl, by decide +kernel, rfl, by decide +kernel, by decide +kernel⟩
theorem ok_lOne (T : Tx K mg) : FK P w K mg base 4 (He.ga K "_law_one") ["_law_well_here", "_law_some"] (sp_lOne) := by
  refine fk_of T.f_lOne sc_lOne (fun vs H Q E h => ?_) (fun _ _ _ _ _ _ us hl => match us, hl with | [_, _], _ => rfl) (fun cdv A outer s H vs Q E hr h => ?_)
  · obtain ⟨l, p, n, ns, rfl, hw, n1, hp, np, y1, y2, k⟩ := h
    rfl
  · obtain ⟨l, p, n, ns, rfl, hw, n1, hp, np, y1, y2, k⟩ := h
    refine ⟨_, (pss_one (ps_ret (pe_ix ix_list (pv 1) (pe_callF (ok_lDra T) (hr.mono (by decide)) T.g_lDra (pa_cons (pv 0) (pa_cons (pe_callB call_len_seq (by rfl) T.b_len b_len (pa_cons (pv 1) pa_nil)) pa_nil))) (fun _ _ => rfl)))), ?_⟩
    have bw := LW_big
    have e : (ns.map V.int).length = ns.length := List.length_map ..
    walk_at "rdi"
    refine ⟨l, n, _, rfl, hw, n1, by omega, by omega, fun H1 v s1 w1 ⟨v0, v1⟩ => ?_⟩
    have hp1 := hide_same _ _ (s1 _ _ (by rw [hide_ne np]; exact hp))
    have vn : ∃ j : Nat, v = (j : Int) ∧ j < ns.length := ⟨v.toNat, by omega, by omega⟩
    obtain ⟨j, rfl, hj⟩ := vn
    obtain ⟨x, hx⟩ := len_at hj
    have ix : atI (ns.map V.int) (j : Int) = some (.int x) := atI_nat (by rw [List.getElem?_map, hx]; rfl)
    exact ⟨_, _, _, _, rfl, rfl, SqL.of hp1, ix, k H1 x s1 w1 (List.mem_of_getElem? hx)⟩
def sp_lPla : Sp := fun vs H Q _ => ∃ (l : Addr) (n many : Int), vs = [.ref l, .int many] ∧ Wel l n H ∧ n ≤ 990 ∧ 1 ≤ many ∧ many ≤ 1000000000000000000000000 ∧ DrawTo H l (n + 3) (fun v => 0 ≤ v ∧ v < many) Q
theorem sc_lPla : FnScope ["_law_well_here", "_law_many", "_law_found", "_law_reach"] ["_law_well_here", "_law_many"] (defScope s_lPla) := ⟨rfl, rfl, rfl, by decide +kernel, rfl, by decide +kernel, by decide +kernel⟩
theorem ok_lPla (T : Tx K mg) : FK P w K mg base 3 (He.ga K "_law_place") ["_law_well_here", "_law_many"] (sp_lPla) := by
  refine fk_of T.f_lPla sc_lPla (fun vs H Q E h => ?_) (fun _ _ _ _ _ _ us hl => match us, hl with | [_, _], _ => rfl) (fun cdv A outer s H vs Q E hr h => ?_)
  · obtain ⟨l, n, many, rfl, hw, n1, y1, y2, k⟩ := h
    rfl
  · obtain ⟨l, n, many, rfl, hw, n1, y1, y2, k⟩ := h
    refine ⟨_, (pss_cons (ps_asg (pe_tup (pa_cons (pe_int) (pa_cons (pe_int) pa_nil))) (pg_tup rfl (pgs_cons (pg_name (i := 2) sc_lPla.nd rfl (Or.inl rfl)) (pgs_cons (pg_name (i := 3) sc_lPla.nd rfl (Or.inl rfl)) pgs_nil))))
      (pss_cons (ps_while PassesOwn.never (pt_cmpR op_lt (pv 3) (pv 1) (nomark _)) (pss_one (ps_par (i := 2) (j := 3) (by rfl) sc_lPla.nd rfl rfl (by decide) rfl rfl (pa_cons (pe_op op_add (pe_op op_mulW (pv 2) (pe_op op_pow (pe_int) (pe_int))) (pe_callF (ok_lDra T) (hr.mono (by decide)) T.g_lDra (pa_cons (pv 0) (pa_cons (pe_op op_pow (pe_int) (pe_int)) pa_nil)))) (pa_cons (pe_op op_mulW (pv 3) (pe_op op_pow (pe_int) (pe_int))) pa_nil)) (by rfl))))
      (pss_one (ps_ret (pe_op op_mod (pe_callTy call_int1 (by rfl) T.b_int b_int (pa_cons (pv 2) pa_nil)) (pv 1)))))), ?_⟩
    have bw := LW_big
    have lw := LW_LB
    have hlp : ∀ t, H t = none → t ≠ l := fun t ht => by
      obtain ⟨_, _, _, e, _⟩ := hw
      exact (ne_of_none e ht).symm
    refine ⟨sl2, fun t ht => ⟨_, _, rfl, SqT.of upd_same, rfl, _, _, rfl, _, _, rfl, rfl, ?_⟩⟩
    have S1 : Same H (upd H t (.tup [.int 0, .int 1])) := Same.new ht
    refine ⟨fun z σ H' => ∃ (f R m : Int) (i : Nat), z = 3 - i ∧ σ = [some (.ref l), some (.int many), some (.int f), some (.int R)] ∧ Same (hide l H) (hide l H') ∧ Wel l m H' ∧ m = n + i ∧ 0 ≤ f ∧ f < R ∧ ((i = 0 ∧ R = 1) ∨ (i = 1 ∧ R = 1000000000) ∨ (i = 2 ∧ R = 1000000000000000000) ∨ (i = 3 ∧ R = 1000000000000000000000000000)),
      ⟨_, 0, 1, n, 0, rfl, rfl, hide_mono S1, hw.mono S1, by omega, by omega, by omega, .inl ⟨rfl, rfl⟩⟩, ?_⟩
    rintro z σ H1 ⟨f, R, m, i, ez, rfl, s1, w1, em, f0, f1, hR⟩
    have R1 : 1 ≤ R ∧ R ≤ 1000000000000000000000000000 := by omega
    walk_at "rdi"
    have e9 : (10 : Int) ^ Int.toNat 9 = 1000000000 := by decide
    by_cases q : R < many
    · refine iteD q ?_
      refine ⟨_, fun σ' H' h => h, ?_⟩
      have i2 : i ≤ 2 := by omega
      walk_at "rdi"
      rw [e9]
      walk_at "rdi"
      refine ⟨l, m, 1000000000, rfl, w1, by omega, by omega, by omega, fun H2 v s2 w2 ⟨v0, v1⟩ => ?_⟩
      walk_at "rdi"
      rw [e9]
      walk_at "rdi"
      refine ⟨3 - (i + 1), by omega, f * 1000000000 + v, R * 1000000000, m + 1, i + 1, rfl, rfl, s1.trans s2, w2, by omega, by omega, by omega, by omega⟩
    · refine iteE q ?_
      walk_at "rdi"
      refine k H1 _ s1 (w1.up (by omega) (by omega)) ⟨Int.emod_nonneg _ (by omega), Int.emod_lt_of_pos _ (by omega)⟩
end

section
variable {P : Program} {w : World} {K : PySem.W.Frag} {mg : Str → Option Value} {base : Heap}
theorem sl4 : 4 ≤ sizeLine := by decide
theorem sl5 : 5 ≤ sizeLine := by decide
theorem SpecV.updL {H : Hp} {D : Addr} {ys : List V} {o : HO} (hD : H D = some (.lst ys)) {v : V} {p : Spec} (h : SpecV H v p) : SpecV (upd H D o) v p := by
  obtain ⟨a, h1, h2⟩ := h
  exact ⟨a, h1, by rw [upd_ne (ne_of h2 hD (by intro q; cases q))]; exact h2⟩
theorem Wel.at {l : Addr} {n : Int} {H : Hp} (h : Wel l n H) : ∃ ys, H l = some (.lst ys) := by
  obtain ⟨a, c, m, e, _⟩ := h
  exact ⟨_, e⟩
/-- a new object beside the well -/
theorem Wel.ne {l b : Addr} {n : Int} {H : Hp} (h : Wel l n H) (hb : H b = none) : b ≠ l := by
  obtain ⟨ys, e⟩ := h.at
  exact (ne_of_none e hb).symm
def sp_lFar (K : PySem.W.Frag) : Sp := fun vs H Q _ => ∃ (l : Addr) (n : Int), vs = [.ref l] ∧ Wel l n H ∧ n ≤ 100 ∧ ∀ (H' : Hp) (v : V) (r : RowM), Same (hide l H) (hide l H') → Wel l (n + 100) H' → RowA K (hide l H') v r → RowOk r → Q v H'
theorem sc_lFar : FnScope ["_law_well_here", "_law_step", "_law_specs", "_law_k", "_law_failures", "_law_wait"] ["_law_well_here"] (defScope s_lFar) := ⟨rfl, rfl, rfl, by decide +kernel, rfl, by decide +kernel, by decide +kernel⟩
theorem ok_lFar (T : Tx K mg) : FK P w K mg base 7 (He.ga K "_law_far") ["_law_well_here"] (sp_lFar K) := by
  refine fk_of T.f_lFar sc_lFar (fun vs H Q E h => ?_) (fun _ _ _ _ _ _ us hl => match us, hl with | [_], _ => rfl) (fun cdv A outer s H vs Q E hr h => ?_)
  · obtain ⟨l, n, rfl, w0, n1, k⟩ := h
    rfl
  · obtain ⟨l, n, rfl, w0, n1, k⟩ := h
    refine ⟨_, (pss_cons (ps_par (i := 1) (j := 2) (by rfl) sc_lFar.nd rfl rfl (by decide) rfl rfl (pa_cons (pe_op op_add (pe_int) (pe_callF (ok_lPla T) (hr.mono (by decide)) T.g_lPla (pa_cons (pv 0) (pa_cons (pe_op op_pow (pe_int) (pe_int)) pa_nil)))) (pa_cons (pe_lst pa_nil) pa_nil)) (by rfl))
      (pss_cons (ps_for PassesOwn.never rfl (pi_range1 (by rfl) T.b_range (pa_cons (pe_callF (ok_lDra T) (hr.mono (by decide)) T.g_lDra (pa_cons (pv 0) (pa_cons (pe_int) pa_nil))) pa_nil)) (pg_name (i := 3) sc_lFar.nd rfl (Or.inl rfl)) (pss_cons (ps_set (i := 4) sc_lFar.nd rfl (Or.inl rfl) (pe_callF (ok_lOne T) (hr.mono (by decide)) T.g_lOne (pa_cons (pv 0) (pa_cons (pe_lst (pa_cons (pe_int) (pa_cons (pe_int) (pa_cons (pe_int) (pa_cons (pe_op op_add (pe_int) (pe_callF (ok_lPla T) (hr.mono (by decide)) T.g_lPla (pa_cons (pv 0) (pa_cons (pe_op op_pow (pe_int) (pe_int)) pa_nil)))) pa_nil))))) pa_nil))))
        (pss_cons (ps_set (i := 5) sc_lFar.nd rfl (Or.inl rfl) (pe_callF (ok_lOne T) (hr.mono (by decide)) T.g_lOne (pa_cons (pv 0) (pa_cons (pe_lst (pa_cons (pe_int) (pa_cons (pv 1) (pa_cons (pe_op op_add (pv 1) (pe_int)) (pa_cons (pe_op op_add (pe_int) (pe_callF (ok_lPla T) (hr.mono (by decide)) T.g_lPla (pa_cons (pv 0) (pa_cons (pe_op op_pow (pe_int) (pe_int)) pa_nil)))) (pa_cons (pe_op op_add (pe_int) (pe_callF (ok_lPla T) (hr.mono (by decide)) T.g_lPla (pa_cons (pv 0) (pa_cons (pe_op op_pow (pe_int) (pe_int)) pa_nil)))) pa_nil)))))) pa_nil))))
        (pss_one (ps_expr (pe_bm PySem.F.plainAttrs_list PySem.F.slot_list_append PySem.F.type_list_append mt_append (pv 2) (pa_cons (pe_tup (pa_cons (pv 4) (pa_cons (pv 5) (pa_cons (pe_callF (ok_lOne T) (hr.mono (by decide)) T.g_lOne (pa_cons (pv 0) (pa_cons (pe_lst (pa_cons (pe_int) (pa_cons (pe_int) (pa_cons (pe_op op_add (pe_int) (pe_callF (ok_lPla T) (hr.mono (by decide)) T.g_lPla (pa_cons (pv 0) (pa_cons (pe_op op_pow (pe_int) (pe_int)) pa_nil)))) pa_nil)))) pa_nil))) pa_nil)))) pa_nil)))))))
      (pss_one (ps_ret (pe_makeKF T.mkR (ok_rowI T) (hr.mono (by decide)) T.g_Row (pa_cons (pv 2) (pa_cons (pv 1) pa_nil)) (pk_cons (pe_callF (ok_lOne T) (hr.mono (by decide)) T.g_lOne (pa_cons (pv 0) (pa_cons (pe_lst (pa_cons (pe_int) (pa_cons (pe_callF (ok_lPla T) (hr.mono (by decide)) T.g_lPla (pa_cons (pv 0) (pa_cons (pe_op op_pow (pe_int) (pe_int)) pa_nil))) pa_nil))) pa_nil))) pk_nil)))))), ?_⟩
    have lw := LW_big
    have e10 : (10 : Int) ^ Int.toNat 10 = 10000000000 := by decide
    have e12 : (10 : Int) ^ Int.toNat 12 = 1000000000000 := by decide
    have e20 : (10 : Int) ^ Int.toNat 20 = 100000000000000000000 := by decide
    walk_at "rdi"
    refine ⟨l, n, 10000000000, rfl, w0, by omega, by omega, by omega, fun H1 v1 s1 w1 ⟨v10, v11⟩ => ?_⟩
    walk_at "rdi"
    refine ⟨Nat.zero_le _, fun g hg => ?_⟩
    have gl := w1.ne hg
    have gH : hide l H g = none := s1.free (hide_free hg)
    have s2 : Same (hide l H) (hide l (upd H1 g (.lst []))) := s1.trans (hide_mono (Same.new hg))
    have w2 := w1.mono (Same.new (o := .lst []) hg)
    have g2 : hide l (upd H1 g (.lst [])) g = some (.lst []) := by rw [hide_ne gl]; exact upd_same
    generalize upd H1 g (.lst []) = H2 at *
    walk_at "rdi"
    refine ⟨l, n + 3, 6, rfl, w2, by omega, by omega, by omega, fun H3 many s3 w3 ⟨m0, m1⟩ => ?_⟩
    refine ⟨_, rfl, by omega, by omega, ?_⟩
    refine for_it (walk_range (lo := 0) (n := many.toNat)) (fun i σ H' => Same (hide l H) (hide l H') ∧ Wel l (n + 4 + 15 * i) H' ∧ ∃ (x3 x4 x5 : Option V) (zs : List V) (ps : List Spec), σ = [some (.ref l), some (.int (1 + v1)), some (.ref g), x3, x4, x5] ∧ hide l H' g = some (.lst zs) ∧ SpecVs (hide l H') zs ps ∧ ps.length = i ∧
        ∀ p, p ∈ ps → (1 ≤ p.1 ∧ p.1 ≤ 1000000000000) ∧ (1 ≤ p.2.1 ∧ p.2.1 ≤ 1000000000000000000000000) ∧ (1 ≤ p.2.2 ∧ p.2.2 ≤ 1000000000000))
      ⟨s2.trans s3, by show Wel l (n + 4 + 15 * (0 : Nat)) H3; rw [show n + 4 + 15 * ((0 : Nat) : Int) = n + 3 + 1 by omega]; exact w3, _, _, _, [], [], rfl, s3 _ _ g2, .nil, rfl, fun p hp => by simp at hp⟩ (fun _ _ _ _ _ => trivial) ?_ ?_
    · rintro i y σ H4 H5 hi ⟨s4, w4, x3, x4, x5, zs, ps, rfl, g4, hzs, pl, hps⟩ ⟨rfl, rfl⟩
      have i5 : i < 5 := by omega
      walk_at "rdi"
      refine ⟨l, _, 1000000000000, rfl, w4, by omega, by omega, by omega, fun H6 a1 s6 w6 ⟨a10, a11⟩ => ?_⟩
      walk_at "rdi"
      refine ⟨sl4, fun m hm => ?_⟩
      refine ⟨l, m, _, [1, 2, 3, 1 + a1], rfl, w6.mono (Same.new hm), by omega, upd_same, w6.ne hm, by show 1 ≤ 4; omega, by show 4 ≤ 100; omega, fun H7 f s7 w7 hf => ?_⟩
      have t7 := s6.trans ((hide_mono (Same.new (o := .lst [.int 1, .int 2, .int 3, .int (1 + a1)]) hm)).trans s7)
      have f1 : 1 ≤ f ∧ f ≤ 1000000000000 := by
        simp only [List.mem_cons, List.not_mem_nil, or_false] at hf
        omega
      walk_at "rdi"
      refine ⟨l, _, 1000000000000, rfl, w7, by omega, by omega, by omega, fun H8 b1 s8 w8 ⟨b10, b11⟩ => ?_⟩
      walk_at "rdi"
      refine ⟨l, _, 100000000000000000000, rfl, w8, by omega, by omega, by omega, fun H9 b2 s9 w9 ⟨b20, b21⟩ => ?_⟩
      walk_at "rdi"
      refine ⟨sl5, fun m2 hm2 => ?_⟩
      refine ⟨l, m2, _, [1, 1 + v1, 1 + v1 + 1, 1 + b1, 1 + b2], rfl, w9.mono (Same.new hm2), by omega, upd_same, w9.ne hm2, by show 1 ≤ 5; omega, by show 5 ≤ 100; omega, fun H10 wt s10 w10 hwt => ?_⟩
      have t10 := (t7.trans (s8.trans s9)).trans ((hide_mono (Same.new (o := .lst [.int 1, .int (1 + v1), .int (1 + v1 + 1), .int (1 + b1), .int (1 + b2)]) hm2)).trans s10)
      have f2 : 1 ≤ wt ∧ wt ≤ 1000000000000000000000000 := by
        simp only [List.mem_cons, List.not_mem_nil, or_false] at hwt
        omega
      have g10 := t10 _ _ g4
      walk_at "rdi"
      refine ⟨Or.inl ⟨rfl, _, SqL.of (hide_same _ _ g10)⟩, ?_⟩
      walk_at "rdi"
      refine ⟨l, _, 1000000000000, rfl, w10, by omega, by omega, by omega, fun H11 d1 s11 w11 ⟨d10, d11⟩ => ?_⟩
      walk_at "rdi"
      refine ⟨sl3, fun m3 hm3 => ?_⟩
      refine ⟨l, m3, _, [1, 2, 1 + d1], rfl, w11.mono (Same.new hm3), by omega, upd_same, w11.ne hm3, by show 1 ≤ 3; omega, by show 3 ≤ 100; omega, fun H12 sc s12 w12 hsc => ?_⟩
      have t12 := (t10.trans s11).trans ((hide_mono (Same.new (o := .lst [.int 1, .int 2, .int (1 + d1)]) hm3)).trans s12)
      have f3 : 1 ≤ sc ∧ sc ≤ 1000000000000 := by
        simp only [List.mem_cons, List.not_mem_nil, or_false] at hsc
        omega
      refine ⟨sl3, fun tp htp => ?_⟩
      have t13 := t12.trans (hide_mono (Same.new (o := .tup [.int f, .int wt, .int sc]) htp))
      have w13 := w12.mono (Same.new (o := .tup [.int f, .int wt, .int sc]) htp)
      have tl := w12.ne htp
      have tp13 : hide l (upd H12 tp (.tup [.int f, .int wt, .int sc])) tp = some (.tup [.int f, .int wt, .int sc]) := by rw [hide_ne tl]; exact upd_same
      have zl := pLen hzs
      refine ⟨g, zs, .ref tp, rfl, rfl, hide_same _ _ (t13 _ _ g4), Nat.lt_of_lt_of_le (m := 1001) (by omega) (Nat.le_trans (by decide) slM), ?_⟩
      have hg13 := t13 _ _ g4
      refine ⟨?_, ?_, _, _, _, zs ++ [V.ref tp], ps ++ [(f, wt, sc)], rfl, ?_, ?_, ?_, ?_⟩
      · rw [hide_comm gl]
        exact Same.mut (s4.trans t13) gH
      · obtain ⟨qa, qc, qm, q1, q2⟩ := w13.up (n' := n + 4 + 15 * ((i + 1 : Nat) : Int)) (by omega) (by omega)
        exact ⟨qa, qc, qm, by rw [upd_ne gl.symm]; exact q1, q2⟩
      · rw [hide_ne gl]
        exact upd_same
      · rw [hide_comm gl]
        exact pApp (pImp (fun _ _ h => SpecV.updL hg13 h) (hzs.mono t13)) (.cons (SpecV.updL hg13 ⟨tp, rfl, tp13⟩) .nil)
      · rw [List.length_append, pl]
        rfl
      · intro p hp
        rcases List.mem_append.mp hp with q | q
        · exact hps p q
        · rw [List.mem_singleton.mp q]
          exact ⟨f1, f2, f3⟩
    · rintro σ H4 ⟨s4, w4, x3, x4, x5, zs, ps, rfl, g4, hzs, pl, hps⟩
      walk_at "rdi"
      refine ⟨l, _, 100000000000000000000, rfl, w4, by omega, by omega, by omega, fun H5 ph s5 w5 ⟨p0, p1⟩ => ?_⟩
      walk_at "rdi"
      refine ⟨sl2, fun m hm => ?_⟩
      refine ⟨l, m, _, [0, ph], rfl, w5.mono (Same.new hm), by omega, upd_same, w5.ne hm, by show 1 ≤ 2; omega, by show 2 ≤ 100; omega, fun H6 sh s6 w6 hsh => ?_⟩
      have t6 := s5.trans ((hide_mono (Same.new (o := .lst [.int 0, .int ph]) hm)).trans s6)
      have f4 : 0 ≤ sh ∧ sh ≤ 100000000000000000000 := by
        simp only [List.mem_cons, List.not_mem_nil, or_false] at hsh
        omega
      have g6 := t6 _ _ g4
      have hzs6 := hzs.mono t6
      refine ⟨rfl, rfl, fun x dx hx hdx hne => ?_⟩
      have sx : Same H6 (upd (upd H6 dx (.own x)) x (.ins (cR K) dx [])) := (Same.new hdx).trans (Same.new (by rw [upd_ne hne.symm]; exact hx))
      have xl := w6.ne hx
      refine ⟨x, dx, g, zs, ⟨ps, 1 + v1, sh⟩, rfl, upd_same, sx _ _ (hide_same _ _ g6), (hzs6.mono hide_same).mono sx, ⟨by show ps.length ≤ 5; omega, hps, by show 1 ≤ 1 + v1; omega, by show 1 + v1 ≤ _; omega, f4.1, f4.2⟩, fun H7 l7 hb hl7 hx7 hz7 => ⟨rfl, ?_⟩⟩
      have s7 : Same H6 H7 := fun b o e => hb b o (ne_of_none e hx) (sx b o e)
      have l7n : l7 ≠ l := (w6.mono sx).ne hl7
      refine k H7 _ ⟨ps, 1 + v1, sh⟩ ((s4.trans t6).trans (hide_mono s7)) ((w6.mono s7).up (by omega) (by omega)) ⟨x, dx, l7, zs, rfl, ?_, ?_, hzs6.mono (hide_mono s7)⟩ ⟨by show ps.length ≤ 5; omega, hps, by show 1 ≤ 1 + v1; omega, by show 1 + v1 ≤ _; omega, f4.1, f4.2⟩
      · rw [hide_ne xl]
        exact hx7
      · rw [hide_ne l7n]
        exact hz7
end

section
variable {P : Program} {w : World} {K : PySem.W.Frag} {mg : Str → Option Value} {base : Heap}
theorem OutV.updL {H : Hp} {D : Addr} {ys : List V} {o : HO} (hD : H D = some (.lst ys)) {v : V} {p : Int × Int} (h : OutV H v p) : OutV (upd H D o) v p := by
  obtain ⟨a, h1, h2⟩ := h
  exact ⟨a, h1, by rw [upd_ne (ne_of h2 hD (by intro q; cases q))]; exact h2⟩
theorem downs_snoc {b e : Int} (hbe : b < e) (he : e ≤ 1000000000000000000000000000000) : ∀ {ds : List (Int × Int)} {lo : Int}, Downs lo ds → lo ≤ b → (∀ o, o ∈ ds → o.2 < b) → Downs lo (ds ++ [(b, e)])
  | [], lo, _, h, _ => ⟨h, hbe, he, trivial⟩
  | o :: r, lo, h, _, ho => ⟨h.1, h.2.1, h.2.2.1, downs_snoc hbe he h.2.2.2 (by have := ho o List.mem_cons_self; omega) fun o' h' => ho o' (List.mem_cons_of_mem _ h')⟩
def sp_lDow (_ : PySem.W.Frag) : Sp := fun vs H Q _ => ∃ (l : Addr) (n : Int), vs = [.ref l, .int 4] ∧ Wel l n H ∧ n ≤ 300 ∧
  ∀ (H' : Hp) (g : Addr) (us : List V) (ds : List (Int × Int)), Same (hide l H) (hide l H') → H' g = some (.lst us) → OutVs H' us ds → Downs 0 ds → ds.length ≤ 4 → Q (.ref g) H'
theorem sc_lDow : FnScope ["_law_well_here", "_law_most", "_law_found", "_law_time", "_law_k", "_law_begin", "_law_end"] ["_law_well_here", "_law_most"] (defScope s_lDow) := ⟨rfl, rfl, rfl, by decide +kernel, rfl, by decide +kernel, by decide +kernel⟩
theorem ok_lDow (T : Tx K mg) : FK P w K mg base 5 (He.ga K "_law_far_downs") ["_law_well_here", "_law_most"] (sp_lDow K) := by
  refine fk_of T.f_lDow sc_lDow (fun vs H Q E h => ?_) (fun _ _ _ _ _ _ us hl => match us, hl with | [_, _], _ => rfl) (fun cdv A outer s H vs Q E hr h => ?_)
  · obtain ⟨l, n, rfl, w0, n1, k⟩ := h
    rfl
  · obtain ⟨l, n, rfl, w0, n1, k⟩ := h
    refine ⟨_, (pss_cons (ps_par (i := 2) (j := 3) (by rfl) sc_lDow.nd rfl rfl (by decide) rfl rfl (pa_cons (pe_lst pa_nil) (pa_cons (pe_int) pa_nil)) (by rfl))
      (pss_cons (ps_for PassesOwn.never rfl (pi_range1 (by rfl) T.b_range (pa_cons (pe_callF (ok_lDra T) (hr.mono (by decide)) T.g_lDra (pa_cons (pv 0) (pa_cons (pe_op op_add (pv 1) (pe_int)) pa_nil))) pa_nil)) (pg_name (i := 4) sc_lDow.nd rfl (Or.inl rfl)) (pss_cons (ps_set (i := 5) sc_lDow.nd rfl (Or.inl rfl) (pe_op op_add (pv 3) (pe_callF (ok_lOne T) (hr.mono (by decide)) T.g_lOne (pa_cons (pv 0) (pa_cons (pe_lst (pa_cons (pe_int) (pa_cons (pe_callF (ok_lPla T) (hr.mono (by decide)) T.g_lPla (pa_cons (pv 0) (pa_cons (pe_op op_pow (pe_int) (pe_int)) pa_nil))) (pa_cons (pe_callF (ok_lPla T) (hr.mono (by decide)) T.g_lPla (pa_cons (pv 0) (pa_cons (pe_op op_pow (pe_int) (pe_int)) pa_nil))) pa_nil)))) pa_nil)))))
        (pss_cons (ps_set (i := 6) sc_lDow.nd rfl (Or.inl rfl) (pe_op op_add (pe_op op_add (pv 5) (pe_int)) (pe_callF (ok_lOne T) (hr.mono (by decide)) T.g_lOne (pa_cons (pv 0) (pa_cons (pe_lst (pa_cons (pe_int) (pa_cons (pe_callF (ok_lPla T) (hr.mono (by decide)) T.g_lPla (pa_cons (pv 0) (pa_cons (pe_op op_pow (pe_int) (pe_int)) pa_nil))) (pa_cons (pe_callF (ok_lPla T) (hr.mono (by decide)) T.g_lPla (pa_cons (pv 0) (pa_cons (pe_op op_pow (pe_int) (pe_int)) pa_nil))) pa_nil)))) pa_nil)))))
        (pss_cons (ps_expr (pe_bm PySem.F.plainAttrs_list PySem.F.slot_list_append PySem.F.type_list_append mt_append (pv 2) (pa_cons (pe_tup (pa_cons (pv 5) (pa_cons (pv 6) pa_nil))) pa_nil)))
        (pss_one (ps_set (i := 3) sc_lDow.nd rfl (Or.inl rfl) (pe_op op_add (pv 6) (pe_int))))))))
      (pss_one (ps_ret (pv 2))))), ?_⟩
    have lw := LW_big
    refine ⟨Nat.zero_le _, fun g hg => ?_⟩
    have gl := w0.ne hg
    have gH : hide l H g = none := hide_free hg
    have s2 : Same (hide l H) (hide l (upd H g (.lst []))) := hide_mono (Same.new hg)
    have w2 := w0.mono (Same.new (o := .lst []) hg)
    have g2 : hide l (upd H g (.lst [])) g = some (.lst []) := by rw [hide_ne gl]; exact upd_same
    generalize upd H g (.lst []) = H2 at *
    walk_at "rdi"
    refine ⟨l, n, 5, rfl, w2, by omega, by omega, by omega, fun H3 many s3 w3 ⟨m0, m1⟩ => ?_⟩
    refine ⟨_, rfl, by omega, by omega, ?_⟩
    refine for_it (walk_range (lo := 0) (n := many.toNat)) (fun i σ H' => Same (hide l H) (hide l H') ∧ Wel l (n + 1 + 20 * i) H' ∧ ∃ (tm : Int) (x4 x5 x6 : Option V) (zs : List V) (ds : List (Int × Int)), σ = [some (.ref l), some (.int 4), some (.ref g), some (.int tm), x4, x5, x6] ∧ hide l H' g = some (.lst zs) ∧ OutVs (hide l H') zs ds ∧ ds.length = i ∧
        Downs 0 ds ∧ (∀ o, o ∈ ds → o.2 < tm) ∧ 0 ≤ tm ∧ tm ≤ i * 3000000000000000000000000)
      ⟨s2.trans s3, by show Wel l (n + 1 + 20 * ((0 : Nat) : Int)) H3; rw [show n + 1 + 20 * ((0 : Nat) : Int) = n + 1 by omega]; exact w3, 0, _, _, _, [], [], rfl, s3 _ _ g2, .nil, rfl, trivial, fun o h => by simp at h, Int.le_refl _, by omega⟩ (fun _ _ _ _ _ => trivial) ?_ ?_
    · rintro i y σ H4 H5 hi ⟨s4, w4, tm, x4, x5, x6, zs, ds, rfl, g4, hzs, dl, hds, hlt, t0, t1⟩ ⟨rfl, rfl⟩
      have i5 : i < 4 := by omega
      walk_at "rdi"
      refine ⟨l, _, 1000000000000, rfl, w4, by omega, by omega, by omega, fun H6 a1 s6 w6 ⟨a10, a11⟩ => ?_⟩
      walk_at "rdi"
      refine ⟨l, _, 1000000000000000000000000, rfl, w6, by omega, by omega, by omega, fun H7 a2 s7 w7 ⟨a20, a21⟩ => ?_⟩
      walk_at "rdi"
      refine ⟨sl3, fun m hm => ?_⟩
      refine ⟨l, m, _, [0, a1, a2], rfl, w7.mono (Same.new hm), by omega, upd_same, w7.ne hm, by show 1 ≤ 3; omega, by show 3 ≤ 100; omega, fun H8 b s8 w8 hb => ?_⟩
      have t8 := (s6.trans s7).trans ((hide_mono (Same.new (o := .lst [.int 0, .int a1, .int a2]) hm)).trans s8)
      have f1 : 0 ≤ b ∧ b < 1000000000000000000000000 := by
        simp only [List.mem_cons, List.not_mem_nil, or_false] at hb
        omega
      walk_at "rdi"
      refine ⟨l, _, 1000000000000, rfl, w8, by omega, by omega, by omega, fun H9 a3 s9 w9 ⟨a30, a31⟩ => ?_⟩
      walk_at "rdi"
      refine ⟨l, _, 1000000000000000000000000, rfl, w9, by omega, by omega, by omega, fun H10 a4 s10 w10 ⟨a40, a41⟩ => ?_⟩
      walk_at "rdi"
      refine ⟨sl3, fun m2 hm2 => ?_⟩
      refine ⟨l, m2, _, [0, a3, a4], rfl, w10.mono (Same.new hm2), by omega, upd_same, w10.ne hm2, by show 1 ≤ 3; omega, by show 3 ≤ 100; omega, fun H11 e s11 w11 he => ?_⟩
      have t11 := (t8.trans (s9.trans s10)).trans ((hide_mono (Same.new (o := .lst [.int 0, .int a3, .int a4]) hm2)).trans s11)
      have f2 : 0 ≤ e ∧ e < 1000000000000000000000000 := by
        simp only [List.mem_cons, List.not_mem_nil, or_false] at he
        omega
      have g11 := t11 _ _ g4
      walk_at "rdi"
      refine ⟨Or.inl ⟨rfl, _, SqL.of (hide_same _ _ g11)⟩, ?_⟩
      walk_at "rdi"
      refine ⟨sl2, fun tp htp => ?_⟩
      have t13 := t11.trans (hide_mono (Same.new (o := .tup [.int (tm + b), .int (tm + b + 1 + e)]) htp))
      have w13 := w11.mono (Same.new (o := .tup [.int (tm + b), .int (tm + b + 1 + e)]) htp)
      have tl := w11.ne htp
      have tp13 : hide l (upd H11 tp (.tup [.int (tm + b), .int (tm + b + 1 + e)])) tp = some (.tup [.int (tm + b), .int (tm + b + 1 + e)]) := by rw [hide_ne tl]; exact upd_same
      have zl := pLen hzs
      have hg13 := t13 _ _ g4
      refine ⟨g, zs, .ref tp, rfl, rfl, hide_same _ _ hg13, Nat.lt_of_lt_of_le (m := 1001) (by omega) (Nat.le_trans (by decide) slM), ?_⟩
      walk_at "rdi"
      refine ⟨?_, ?_, tm + b + 1 + e + 1, _, _, _, zs ++ [V.ref tp], ds ++ [(tm + b, tm + b + 1 + e)], rfl, ?_, ?_, ?_, ?_, ?_, by omega, by omega⟩
      · rw [hide_comm gl]
        exact Same.mut (s4.trans t13) gH
      · obtain ⟨qa, qc, qm, q1, q2⟩ := w13.up (n' := n + 1 + 20 * ((i + 1 : Nat) : Int)) (by omega) (by omega)
        exact ⟨qa, qc, qm, by rw [upd_ne gl.symm]; exact q1, q2⟩
      · rw [hide_ne gl]
        exact upd_same
      · rw [hide_comm gl]
        exact pApp (pImp (fun _ _ h => OutV.updL hg13 h) (hzs.mono t13)) (.cons (OutV.updL hg13 ⟨tp, rfl, tp13⟩) .nil)
      · rw [List.length_append, dl]
        rfl
      · exact downs_snoc (by omega) (by omega) hds (by omega) fun o ho => by have := hlt o ho; omega
      · intro o ho
        rcases List.mem_append.mp ho with q | q
        · have := hlt o q
          omega
        · rw [List.mem_singleton.mp q]
          show tm + b + 1 + e < tm + b + 1 + e + 1
          omega
    · rintro σ H4 ⟨s4, w4, tm, x4, x5, x6, zs, ds, rfl, g4, hzs, dl, hds, hlt, t0, t1⟩
      exact ⟨_, rfl, k H4 g zs ds s4 (hide_same _ _ g4) (hzs.mono hide_same) hds (by omega)⟩
end

section
variable {P : Program} {w : World} {K : PySem.W.Frag} {mg : Str → Option Value} {base : Heap}
theorem cut_tail : ∀ xs : List V, cutV xs (some 1) none = xs.drop 1
  | [] => rfl
  | x :: r => by
    unfold cutV
    have e2 : HT.sIx (x :: r).length 0 (some 1) = 1 := by
      show min (1 : Int).toNat (r.length + 1) = 1
      show min 1 (r.length + 1) = 1
      omega
    have e1 : HT.sIx (x :: r).length (x :: r).length none = r.length + 1 := rfl
    rw [e1, e2]
    show List.take (r.length + 1 - 1) r = r
    rw [Nat.add_sub_cancel, List.take_length]
theorem lastM_drop {sps : List SpM} {t : Int} {n : Nat} (h : ∀ (k : Nat) sp, n ≤ k → sps[k]? = some sp → ¬ sp.first ≤ t) : lastM sps t = lastM (sps.take n) t := by
  have gen : ∀ (l : List SpM) (a : Option SpM), (∀ s, s ∈ l → ¬ s.first ≤ t) → l.foldl (fun a s => if s.first ≤ t then some s else a) a = a := fun l => by
    induction l with
    | nil => intro a _; rfl
    | cons s r ih =>
      intro a hl
      rw [List.foldl_cons, if_neg (hl s List.mem_cons_self)]
      exact ih a fun s' h' => hl s' (List.mem_cons_of_mem _ h')
  unfold lastM
  have e : sps = sps.take n ++ sps.drop n := (List.take_append_drop n sps).symm
  conv => lhs; rw [e, List.foldl_append]
  refine gen _ _ fun s hs => ?_
  obtain ⟨k, hk⟩ := List.getElem?_of_mem hs
  rw [List.getElem?_drop] at hk
  exact h (n + k) s (Nat.le_add_right _ _) hk
/-- the states ahead of a spell -/
theorem st_ahead {r : RowM} {ds : List (Int × Int)} {sps : List SpM} (ok : TlOk r ds sps) {i : Nat} {sp : SpM} (hi : sps[i]? = some sp) :
    (lastM sps (sp.first - 1) = none ∧ sp.st = List.replicate r.specs.length none) ∨ ∃ s, lastM sps (sp.first - 1) = some s ∧ s ∈ sps ∧ s.rcv ≤ sp.first - 1 ∧ sp.st = statesM r s (sp.first - 1 - (sp.first - 1 - s.rcv) % r.pace + r.pace) := by
  obtain ⟨lo, lo0, I⟩ := ok.inv
  have F := I.sp sp (List.mem_of_getElem? hi)
  have hd : ∀ (k : Nat) s, i ≤ k → sps[k]? = some s → ¬ s.first ≤ sp.first - 1 := fun k s hk hs => by
    rcases Nat.lt_or_ge i k with z | z
    · have := sps_lt I z hi hs
      have := F.lt
      omega
    · have : k = i := by omega
      subst this
      rw [hi] at hs
      cases hs
      omega
  rw [lastM_drop hd]
  cases i with
  | zero => exact .inl ⟨rfl, I.fst sp hi⟩
  | succ j =>
    have jl : j < sps.length := by have := (List.getElem?_eq_some_iff.mp hi).1; omega
    obtain ⟨a, ha⟩ := len_at jl
    obtain ⟨l1, l2⟩ := I.lk j a sp ha hi
    have Fa := I.sp a (List.mem_of_getElem? ha)
    have := Fa.lt
    refine .inr ⟨a, ?_, List.mem_of_getElem? ha, by omega, ?_⟩
    · rw [lastM_take ha, if_pos (by omega)]
    · rw [snap ok.rok (rcv_in Fa (Fa.ok.trsOk ok.rok)) F.ok.fin l1]
      exact l2
theorem MM_LQ : (4 * BB) * (4 * BB) ≤ LQ := by decide +kernel
/-- what arrives at a breaker -/
structure WinOk (sp : SpM) (x u : List Tr) : Prop where
  e : u = winM x sp.rcv
  nf : NF u
  fin : Fin u
  bd : BdL (4 * BB) u
  len : u.length ≤ 32
  wt : WTs u
theorem win_ok {r : RowM} {ds : List (Int × Int)} {sp : SpM} (F : SpF r ds sp) (T : TrsOk r sp) {i : Nat} {x : List Tr} (h : sp.trs[i]? = some x) : WinOk sp x (winM x sp.rcv) := by
  obtain ⟨a1, a2, a3⟩ := arr_spec T h
  have to := T.ok i x h
  have bb := BB_big
  have bq := BB_C
  have lh := LH_LW
  have lq := LQ_LH
  have bd : BdL (4 * BB) (winM x sp.rcv) := winM_bd (by omega) to.nf.ord (to.bd.mono (by omega)) F.rb
  refine ⟨rfl, a1, a2, bd, ?_, a1.ord, bd.mono (by omega)⟩
  have t1 := (winL_spec to.nf.ord sp.rcv).1
  have := allJ_len (t1.ord to.nf.ord)
  have := t1.len
  have := to.len
  unfold winM
  omega
theorem StVs.dp {H : Hp} : ∀ {vs : List V} {st : List (Option Int)}, StVs K H vs st → DpAll K H vs (st.map stD)
  | _, _, .nil => .nil
  | _, _, .cons h t => .cons h.dp (StVs.dp t)
theorem sts_ok : ∀ st : List (Option Int), PyData.canLayAll0 (st.map stD) = true ∧ PyData.depthAll (st.map stD) ≤ 1 ∧ PyData.eqvAll (st.map stD) (st.map stD) = true
  | [] => ⟨rfl, Nat.zero_le _, rfl⟩
  | s :: r => by
    obtain ⟨i1, i2, i3⟩ := sts_ok r
    have h1 : (stD s).canLay0 = true := by
      cases s with
      | none => kernel_rfl
      | some n => kernel_rfl
    have h2 : (stD s).depth = 1 := by
      cases s with
      | none => kernel_rfl
      | some n => kernel_rfl
    have h3 : PyData.eqv (stD s) (stD s) = true := by
      cases s with
      | none => kernel_rfl
      | some n =>
        show (true && ((n == n) && true)) = true
        rw [beq_self_eq_true]
        rfl
    refine ⟨?_, ?_, ?_⟩
    · show ((stD s).canLay0 && PyData.canLayAll0 (r.map stD)) = true
      rw [h1, i1] <;> rfl
    · show max (stD s).depth (PyData.depthAll (r.map stD)) ≤ 1
      rw [h2]
      exact Nat.max_le.mpr ⟨Nat.le_refl _, i2⟩
    · show (PyData.eqv (stD s) (stD s) && PyData.eqvAll (r.map stD) (r.map stD)) = true
      rw [h3, i3] <;> rfl
theorem sts_shaped (st : List (Option Int)) : SeqAt.shaped (.list (st.map stD)) = true := by
  obtain ⟨i1, i2, i3⟩ := sts_ok st
  show (PyData.canLayAll0 (st.map stD) && decide (PyData.depthAll (st.map stD) + 1 ≤ 64)) = true
  rw [i1, decide_eq_true (by omega)] <;> rfl
theorem ones_dp {H : Hp} {a : Addr} : ∀ m : Nat, DpAll K H (List.replicate m (V.int 1)) (List.replicate m (.int 1))
  | 0 => .nil
  | m + 1 => .cons (.int 1) (ones_dp (a := a) m)
theorem ones_ok : ∀ m : Nat, PyData.canLayAll0 (List.replicate m (PyData.int 1)) = true ∧ PyData.depthAll (List.replicate m (PyData.int 1)) = 0
  | 0 => ⟨rfl, rfl⟩
  | m + 1 => by
    obtain ⟨i1, i2⟩ := ones_ok m
    refine ⟨?_, ?_⟩
    · show (true && PyData.canLayAll0 (List.replicate m (PyData.int 1))) = true
      rw [i1] <;> rfl
    · show max 0 (PyData.depthAll (List.replicate m (PyData.int 1))) = 0
      rw [i2] <;> rfl
theorem ones_shaped (m : Nat) : SeqAt.shaped (.list (List.replicate m (.int 1))) = true := by
  obtain ⟨i1, i2⟩ := ones_ok m
  show (PyData.canLayAll0 (List.replicate m (PyData.int 1)) && decide (PyData.depthAll (List.replicate m (PyData.int 1)) + 1 ≤ 64)) = true
  rw [i1, i2] <;> rfl
end

section
variable {P : Program} {w : World} {K : PySem.W.Frag} {mg : Str → Option Value} {base : Heap}
def wins (sp : SpM) : List (List Tr) := sp.trs.map fun x => winM x sp.rcv
def sp_lSpR (K : PySem.W.Frag) : Sp := fun vs H Q _ => ∃ (x dl : Addr) (v : V) (r : RowM) (ds : List (Int × Int)) (sps : List SpM) (i : Nat) (sp : SpM) (us : List V), vs = [.ref x, v, .ref dl, .int (i : Int)] ∧ TlA K H x r ds sps ∧ TlOk r ds sps ∧ RowA K H v r ∧ H dl = some (.lst us) ∧ OutVs H us ds ∧ ds.length ≤ 50 ∧ sps[i]? = some sp ∧
  ∀ H', Same H H' → Q (.bl true) H'
theorem sc_lSpR : FnScope ["_law_told", "_law_design", "_law_downs", "_law_at", "_law_first", "_law_recovered", "_law_whole", "_law_passing", "_law_breaker", "_law_one_here", "_law_other", "_law_begin", "_law_end", "_law_last", "_law_known", "_law_time", "_law_trains", "_law_ahead"] ["_law_told", "_law_design", "_law_downs", "_law_at"] (defScope s_lSpR) := ⟨rfl, rfl, rfl, by decide +kernel, rfl, by decide +kernel, by decide +kernel⟩
theorem ok_lSpR (T : Tx K mg) : FK P w K mg base 9 (He.ga K "_law_spell_right") ["_law_told", "_law_design", "_law_downs", "_law_at"] (sp_lSpR K) := by
  refine fk_of T.f_lSpR sc_lSpR (fun vs H Q E h => ?_) (fun _ _ _ _ _ _ us hl => match us, hl with | [_, _, _, _], _ => rfl) (fun cdv A outer s H vs Q E hr h => ?_)
  · obtain ⟨x, dl, v, r, ds, sps, i, sp, us, rfl, ta, ok, ra, hdl, hus, dlen, hi, k⟩ := h
    rfl
  · obtain ⟨x, dl, v, r, ds, sps, i, sp, us, rfl, ta, ok, ra, hdl, hus, dlen, hi, k⟩ := h
    refine ⟨_, (pss_cons (ps_asg (pe_ixF (ok_tlG T) (hr.mono (by decide)) T.m_tlG T.fnL (pv 0) (pv 3)) (pg_tup rfl (pgs_cons (pg_name (i := 4) sc_lSpR.nd rfl (Or.inr rfl)) (pgs_cons (pg_name (i := 5) sc_lSpR.nd rfl (Or.inr rfl)) (pgs_cons (pg_name (i := 6) sc_lSpR.nd rfl (Or.inl rfl)) pgs_nil)))))
      (pss_cons (ps_setLc (i := 7) (own := [("_law_breaker", 8)]) rfl sc_lSpR.nd rfl rfl (sw_true rfl rfl rfl (by decide +kernel)) (pi_range1 (by rfl) T.b_range (pa_cons (pe_op op_add (pe_callB (call_lenF (ok_rowL T) (hr.mono (by decide)) T.m_rowL) (by rfl) T.b_len b_len (pa_cons (pv 1) pa_nil)) (pe_int)) pa_nil)) (blkOk_by (N := ["_law_told", "_law_design", "_law_downs", "_law_at", "_law_first", "_law_recovered", "_law_whole", "_law_passing", "_law_breaker", "_law_one_here", "_law_other", "_law_begin", "_law_end", "_law_last", "_law_known", "_law_time", "_law_trains", "_law_ahead"]) (sc := defScope s_lSpR) (by decide +kernel)) (fun _ _ _ _ _ => (pg_name (i := 8) sc_lSpR.nd rfl (Or.inl rfl))) (fun _ _ _ _ _ => pts_nil) (fun _ _ _ _ _ => (pe_callF (ok_arr T) (hr.mono (by decide)) T.g_arr (pa_cons (pv 0) (pa_cons (pv 3) (pa_cons (pv 8) pa_nil))))))
      (pss_cons (ps_for PassesOwn.never rfl (pi_zip (by rfl) T.b_zip (pa_cons (pv 7) (pa_cons (pe_slice sl_list (pv 7) (po_some (pe_int)) po_none) pa_nil))) (pg_tup rfl (pgs_cons (pg_name (i := 9) sc_lSpR.nd rfl (Or.inl rfl)) (pgs_cons (pg_name (i := 10) sc_lSpR.nd rfl (Or.inl rfl)) pgs_nil))) (pss_one (ps_if (pt_cmpR (op_neF (ok_trE T) (hr.mono (by decide)) T.m_trE T.neT) (pe_callF (ok_shar T) (hr.mono (by decide)) T.g_shar (pa_cons (pv 9) (pa_cons (pv 10) pa_nil))) (pv 10) (nomark _)) (pss_one (ps_ret (pe_bl))) pss_nil)))
      (pss_cons (ps_if (pt_cmpR (op_neD hr.units) (pe_lc (own := [("_law_one_here", 9)]) rfl sc_lSpR.nd (pi_list (pv 7)) (blkOk_by (N := ["_law_told", "_law_design", "_law_downs", "_law_at", "_law_first", "_law_recovered", "_law_whole", "_law_passing", "_law_breaker", "_law_one_here", "_law_other", "_law_begin", "_law_end", "_law_last", "_law_known", "_law_time", "_law_trains", "_law_ahead"]) (sc := defScope s_lSpR) (by decide +kernel)) (fun _ _ _ _ _ => (pg_name (i := 9) sc_lSpR.nd rfl (Or.inl rfl))) (fun _ _ _ _ _ => (pts_one (pt_cmpR op_ne (pe_ixF (ok_trG T) (hr.mono (by decide)) T.m_trG T.fnT (pv 9) (pe_int)) (pv 4) (nomark _)))) (fun _ _ _ _ _ => (pe_int))) (pe_lst pa_nil) (nomark _)) (pss_one (ps_ret (pe_bl))) pss_nil)
      (pss_cons (ps_if (pt_cmpR (op_neD hr.units) (pe_lc (g := gTup K 2 (gCons (gName 11) (gCons (gName 12) gNil))) (own := [("_law_begin", 11), ("_law_end", 12)]) rfl sc_lSpR.nd (pi_list (pv 2)) (blkOk_by (N := ["_law_told", "_law_design", "_law_downs", "_law_at", "_law_first", "_law_recovered", "_law_whole", "_law_passing", "_law_breaker", "_law_one_here", "_law_other", "_law_begin", "_law_end", "_law_last", "_law_known", "_law_time", "_law_trains", "_law_ahead"]) (sc := defScope s_lSpR) (by decide +kernel)) (fun _ _ _ _ _ => (pg_tup rfl (pgs_cons (pg_name (i := 11) sc_lSpR.nd rfl (Or.inl rfl)) (pgs_cons (pg_name (i := 12) sc_lSpR.nd rfl (Or.inl rfl)) pgs_nil)))) (fun _ _ _ _ _ => (pts_one (pt_chain op_le op_lt (pv 11) (pv 5) (pv 12)))) (fun _ _ _ _ _ => (pe_int))) (pe_lst pa_nil) (nomark _)) (pss_one (ps_ret (pe_bl))) pss_nil)
      (pss_cons (ps_set (i := 13) sc_lSpR.nd rfl (Or.inr rfl) (pe_callF (ok_latT T) (hr.mono (by decide)) T.g_latT (pa_cons (pe_ix ix_list (pv 7) (pe_un un_neg (pe_int)) (fun _ _ => rfl)) (pa_cons (pv 5) pa_nil))))
      (pss_cons (ps_if (PW.pt (pw_or (pt_cmpR (op_eqD hr.units) (pe_lc (g := gTup K 2 (gCons (gName 11) (gCons (gName 12) gNil))) (own := [("_law_begin", 11), ("_law_end", 12)]) rfl sc_lSpR.nd (pi_list (pv 2)) (blkOk_by (N := ["_law_told", "_law_design", "_law_downs", "_law_at", "_law_first", "_law_recovered", "_law_whole", "_law_passing", "_law_breaker", "_law_one_here", "_law_other", "_law_begin", "_law_end", "_law_last", "_law_known", "_law_time", "_law_trains", "_law_ahead"]) (sc := defScope s_lSpR) (by decide +kernel)) (fun _ _ _ _ _ => (pg_tup rfl (pgs_cons (pg_name (i := 11) sc_lSpR.nd rfl (Or.inl rfl)) (pgs_cons (pg_name (i := 12) sc_lSpR.nd rfl (Or.inl rfl)) pgs_nil)))) (fun _ _ _ _ _ => (pts_one (pt_chain op_le op_lt (pv 11) (pv 13) (pv 12)))) (fun _ _ _ _ _ => (pe_int))) (pe_lst pa_nil) (nomark _)) (pw_or (pt_cmpR (op_ninF (ok_rowC T) (hr.mono (by decide)) T.m_rowC) (pv 4) (pv 1) (by rfl)) (pw_or1 (pt_cmpR (op_ninF (ok_rowC T) (hr.mono (by decide)) T.m_rowC) (pv 5) (pv 1) (by rfl)))))) (pss_one (ps_ret (pe_bl))) pss_nil)
      (pss_cons (ps_set (i := 14) sc_lSpR.nd rfl (Or.inl rfl) (pe_callF (ok_star T) (hr.mono (by decide)) T.g_star (pa_cons (pv 0) (pa_cons (pv 3) pa_nil))))
      (pss_cons (ps_if (PW.pt (pw_and (pt_cmpR op_gt (pv 4) (pe_int) (nomark _)) (pw_and1 (pt_cmpR (op_neD hr.units) (pe_callF (ok_staA T) (hr.mono (by decide)) T.g_staA (pa_cons (pv 0) (pa_cons (pe_op op_sub (pv 4) (pe_int)) pa_nil))) (pv 14) (nomark _))))) (pss_one (ps_ret (pe_bl))) pss_nil)
      (pss_cons (ps_for PassesOwn.never rfl (pi_enum (by rfl) T.b_enumerate (pa_cons (pe_callF (ok_opn T) (hr.mono (by decide)) T.g_opn (pa_cons (pv 0) (pa_cons (pv 3) pa_nil))) pa_nil)) (pg_tup rfl (pgs_cons (pg_name (i := 8) sc_lSpR.nd rfl (Or.inl rfl)) (pgs_cons (pg_name (i := 15) sc_lSpR.nd rfl (Or.inl rfl)) pgs_nil))) (pss_cons (ps_set (i := 16) sc_lSpR.nd rfl (Or.inl rfl) (pe_ix ix_list (pv 7) (pe_op op_add (pv 8) (pe_int)) (fun _ _ => rfl)))
        (pss_cons (ps_set (i := 17) sc_lSpR.nd rfl (Or.inl rfl) (pe_ifExp (pt_cmpR (op_eqD hr.units) (pe_ix ix_list (pv 14) (pv 8) (fun _ _ => rfl)) (pe_tup (pa_cons (pe_str) (pa_cons (pe_int) pa_nil))) (nomark _)) (pe_op op_sub (pe_ix ix_tup (pe_ixF (ok_rowG T) (hr.mono (by decide)) T.m_rowG T.fnR (pv 1) (pv 8)) (pe_int) (fun _ _ => rfl)) (pe_int)) (pe_int)))
        (pss_cons (ps_if (PW.pt (pw_and (pt_cmpR op_notN (pv 15) (pe_non) (nomark _)) (pw_and1 (PW.pt (pw_or (pt_cmpR (op_ninF (ok_trC T) (hr.mono (by decide)) T.m_trC) (pv 15) (pv 16) (by rfl)) (pw_or1 (pt_cmpR op_ne (pe_callF (ok_cntB T) (hr.mono (by decide)) T.g_cntB (pa_cons (pv 16) (pa_cons (pv 15) pa_nil))) (pv 17) (nomark _)))))))) (pss_one (ps_ret (pe_bl))) pss_nil)
        (pss_one (ps_if (PW.pt (pw_and (pt_cmpR op_isN (pv 15) (pe_non) (nomark _)) (pw_and1 (pt_cmpR op_gt (pe_callF (ok_cntB T) (hr.mono (by decide)) T.g_cntB (pa_cons (pv 16) (pa_cons (pv 5) pa_nil))) (pv 17) (nomark _))))) (pss_one (ps_ret (pe_bl))) pss_nil))))))
      (pss_one (ps_ret ((pe_or (pe_cmpR op_isN (pv 6) (pe_non) (nomark _)) (pe_one ((pe_and (pe_cmpR (op_inF (ok_rowC T) (hr.mono (by decide)) T.m_rowC) (pv 6) (pv 1) (by rfl)) (pe_one (pe_cmpR op_ge (pv 6) (pv 5) (nomark _)))))))))))))))))))), ?_⟩
    obtain ⟨dx, rx, d, s0, os, zs, h1, _⟩ := id ta
    obtain ⟨ry, dr, lr, ur, rfl, hr1, hr2, hr3⟩ := id ra
    have F := ok.F hi
    have tok := F.ok.trsOk ok.rok
    have rl := ok.rok.len
    have tl := tok.len
    have wl : (wins sp).length = r.specs.length + 1 := by unfold wins; rw [List.length_map, tl]
    have ul := pLen hus
    have bb := BB_big
    have bq := BB_C
    have lh := LH_LW
    have lq := LQ_LH
    have rn := rcv_nn F
    have rb := F.rb
    have f0 := F.ok.f0
    refine ⟨_, rfl, _, rfl, x, dx, _, rfl, h1, x, r, ds, sps, i, sp, rfl, ta, ok, hi, fun H1 T0 wh s1 hT0 hwh => ?_⟩
    refine ⟨_, _, rfl, SqT.of hT0, rfl, _, _, rfl, _, _, rfl, _, _, rfl, rfl, ?_⟩
    refine ⟨_, rfl, ry, dr, _, rfl, s1 _ _ hr1, _, r, rfl, ra.mono s1, _, rfl, by omega, by omega, ?_⟩
    walk_at "rd"
    refine ⟨by omega, by omega, fun D hD => ?_⟩
    have DH := s1.free hD
    refine lc_it (walk_range (lo := 0) (n := ((r.specs.length : Int) + 1).toNat)) (fun n H' => Same H H' ∧ ∃ ws, H' D = some (.lst ws) ∧ TsVs K (hide D H') ws ((wins sp).take n)) ⟨s1.trans (Same.new hD), [], upd_same, .nil⟩ (fun _ _ _ _ => trivial) ?_ ?_
    · rintro n y H2 H3 hn ⟨s2, ws, hws, tws⟩ ⟨rfl, rfl⟩
      have hn : n < r.specs.length + 1 := by omega
      obtain ⟨tr, htr⟩ := len_at (l := sp.trs) (i := n) (by omega)
      have hw : (wins sp)[n]? = some (winM tr sp.rcv) := by unfold wins; rw [List.getElem?_map, htr]; rfl
      have wsl := pLen tws
      refine ⟨rfl, ?_⟩
      walk_at "rd"
      refine ⟨x, r, ds, sps, i, n, sp, tr, by show [V.ref x, V.int (i : Int), V.int (0 + (n : Int))] = _; rw [Int.zero_add], ta.mono s2, ok, hi, htr, fun H4 p l s4 hp hl tp => ?_⟩
      have s4' := s4
      have hws4 := s4 _ _ hws
      have pD : p ≠ D := (ne_of_none hws hp).symm
      have lD : l ≠ D := (ne_of_none hws hl).symm
      refine ⟨ws, hws4, ?_, Same.mut (s2.trans s4) DH, _, upd_same, ?_⟩
      · rw [wsl, List.length_take]
        exact Nat.lt_of_lt_of_le (m := 1001) (by omega) (Nat.le_trans (by decide) slM)
      · rw [hide_upd, List.take_add_one, hw]
        exact pApp (tws.mono (hide_mono s4)) (.cons ⟨p, l, rfl, tp.hideO pD lD hws4 fun _ q => by cases q⟩ .nil)
    · rintro H2 ⟨s2, ws, hws, tws⟩
      rw [show ((r.specs.length : Int) + 1).toNat = (wins sp).length by omega, List.take_length] at tws
      have tws := tws.mono hide_same
      have wsl := pLen tws
      have slt : ∀ n : Nat, n ≤ 1000 → n ≤ sizeLine := fun n h => Nat.le_trans h (Nat.le_trans (by decide) slM)
      refine ⟨_, rfl, _, rfl, _, rfl, D, _, rfl, SqL.of hws, fun q hq => ?_⟩
      rw [cut_tail]
      have s3 : Same H2 (upd H2 q (.lst (ws.drop 1))) := Same.new hq
      have q3 : upd H2 q (.lst (ws.drop 1)) q = some (.lst (ws.drop 1)) := upd_same
      have S3 := s2.trans s3
      have ws3 := s3 _ _ hws
      have tws3 := tws.mono s3
      generalize upd H2 q (.lst (ws.drop 1)) = H3 at *
      refine ⟨_, _, _, _, rfl, SqL.of ws3, SqL.of q3, ?_⟩
      have nmin : r.specs.length = min ws.length (ws.drop 1).length := by rw [List.length_drop]; omega
      have nth : ∀ {n : Nat} {u : List Tr}, (wins sp)[n]? = some u → ∃ tr, sp.trs[n]? = some tr ∧ u = winM tr sp.rcv := fun {n u} h => by
        unfold wins at h
        rw [List.getElem?_map] at h
        obtain ⟨tr, h1, h2⟩ := Option.map_eq_some_iff.mp h
        exact ⟨tr, h1, h2.symm⟩
      refine for_it (walk_zip nmin) (fun _ σ H' => Same H3 H' ∧ ∃ x8 x9 x10 x11 x12 x13 x14 x15 x16 x17, σ = [some (.ref x), some (.ref ry), some (.ref dl), some (.int (i : Int)), some (.int sp.first), some (.int sp.rcv), some (cV wh), some (.ref D), x8, x9, x10, x11, x12, x13, x14, x15, x16, x17])
        ⟨Same.refl _, _, _, _, _, _, _, _, _, _, _, rfl⟩ (fun _ σ H' _ h => ⟨SqL.of (h.1 _ _ ws3), SqL.of (h.1 _ _ q3)⟩) ?_ ?_
      · rintro n y σ H4 H5 hn ⟨s4, x8, x9, x10, x11, x12, x13, x14, x15, x16, x17, rfl⟩ ⟨T1, c, e, rfl, hT, rfl, hc, he⟩
        have he : ws[n + 1]? = some e := by
          have he2 : (ws.drop 1)[n]? = some e := he
          rw [List.getElem?_drop, Nat.add_comm] at he2
          exact he2
        obtain ⟨u1, hu1, y1, l1, rfl, t1⟩ := pAt tws3 hc
        obtain ⟨u2, hu2, y2, l2, rfl, t2⟩ := pAt tws3 he
        obtain ⟨a1, ha1, rfl⟩ := nth hu1
        obtain ⟨a2, ha2, rfl⟩ := nth hu2
        have W1 := win_ok F tok ha1
        have W2 := win_ok F tok ha2
        have s5 := s4.trans (Same.new (o := .tup [.ref y1, .ref y2]) hT)
        refine ⟨_, _, rfl, SqT.of upd_same, rfl, _, _, rfl, _, _, rfl, rfl, ?_⟩
        refine ⟨_, rfl, _, rfl, y1, l1, y2, l2, _, _, 4 * BB, rfl, t1.mono s5, t2.mono s5, W1.nf.ord, W2.nf.ord, W1.fin, W2.fin, W1.bd, W2.bd, by omega, MM_LQ, by have := W1.len; have := W2.len; omega, fun vs ov hv H6 p l s6 hp hl tp => ?_⟩
        have eq : allJ vs = winM a2 sp.rcv := arr_shared tok ha1 ha2 (allJ_nf ov) fun z => by rw [allJ_mem ov, hv]
        rw [eq] at tp
        obtain ⟨dp, hp6⟩ := tp.1
        have t26 := (t2.mono s5).mono s6
        obtain ⟨d2, h26⟩ := t26.1
        refine ⟨_, rfl, p, dp, y2, d2, _, _, rfl, hp6, rfl, h26, p, y2, l, l2, _, rfl, tp, t26, _, rfl, _, rfl, iteF ?_⟩
        exact ⟨s5.trans s6, _, _, _, _, _, _, _, _, _, _, rfl⟩
      · rintro σ H4 ⟨s4, x8, x9, x10, x11, x12, x13, x14, x15, x16, x17, rfl⟩
        have S4 := S3.trans s4
        have ws4 := s4 _ _ ws3
        have tws4 := tws3.mono s4
        refine ⟨_, rfl, _, rfl, ⟨_, SqL.of ws4⟩, fun D2 hD2 => ?_⟩
        refine lc_it walk_list (fun n H' => Same H4 H' ∧ H' D2 = some (.lst [])) ⟨Same.new hD2, upd_same⟩ (fun _ H' _ h => SqL.of (h.1 _ _ ws4)) ?_ ?_
        · rintro n y H5 H6 hn ⟨s5, he⟩ ⟨rfl, hc⟩
          obtain ⟨u1, hu1, y1, l1, rfl, t1⟩ := pAt tws4 hc
          obtain ⟨a1, ha1, rfl⟩ := nth hu1
          have W1 := win_ok F tok ha1
          have t15 := t1.mono s5
          obtain ⟨d1, h15⟩ := t15.1
          refine ⟨rfl, _, rfl, y1, d1, _, rfl, h15, y1, l1, _, 0, sp.first, rfl, t15, W1.wt, by have := W1.len; omega, Int.le_refl 0, by omega, arr_first F tok ha1, ?_⟩
          walk_at "rd"
          rw [vT rfl]
          exact ⟨s5, he⟩
        rintro H5 ⟨s5, he⟩
        refine ⟨Nat.zero_le _, fun e1 he1 => ?_⟩
        have s6 : Same H5 (upd H5 e1 (.lst [])) := Same.new he1
        refine ⟨.list [], .list [], .lst (SqL.of (s6 _ _ he)) .nil, .lst (SqL.of upd_same) .nil, rfl, rfl, _, rfl, iteF ?_⟩
        have S6 := (S4.trans s5).trans s6
        have ws6 := s6 _ _ (s5 _ _ ws4)
        have tws6 := (tws4.mono s5).mono s6
        generalize upd H5 e1 (.lst []) = H6 at *
        have dl6 := S6 _ _ hdl
        have us6 := hus.mono S6
        refine ⟨_, rfl, _, rfl, ⟨_, SqL.of dl6⟩, fun D3 hD3 => ?_⟩
        refine lc_it walk_list (fun n H' => Same H6 H' ∧ H' D3 = some (.lst [])) ⟨Same.new hD3, upd_same⟩ (fun _ H' _ h => SqL.of (h.1 _ _ dl6)) ?_ ?_
        · rintro n y H7 H8 hn ⟨s7, he⟩ ⟨rfl, hc⟩
          obtain ⟨o, ho, a, rfl, ha⟩ := pAt us6 hc
          have ha := s7 _ _ ha
          have no := F.out o (List.mem_of_getElem? ho)
          refine ⟨_, _, rfl, SqT.of ha, rfl, _, _, rfl, _, _, rfl, rfl, rfl, ?_⟩
          walk_at "rd"
          by_cases c1 : o.1 ≤ sp.rcv
          · refine iteD c1 ?_
            walk_at "rd"
            refine iteE (fun h => no ⟨c1, h⟩) ?_
            exact ⟨s7, he⟩
          · refine iteE c1 ?_
            exact ⟨_, rfl, iteF ⟨s7, he⟩⟩
        rintro H7 ⟨s7, he⟩
        refine ⟨Nat.zero_le _, fun e2 he2 => ?_⟩
        have s8 : Same H7 (upd H7 e2 (.lst [])) := Same.new he2
        refine ⟨.list [], .list [], .lst (SqL.of (s8 _ _ he)) .nil, .lst (SqL.of upd_same) .nil, rfl, rfl, _, rfl, iteF ?_⟩
        have S8 := (S6.trans s7).trans s8
        have ws8 := s8 _ _ (s7 _ _ ws6)
        have tws8 := (tws6.mono s7).mono s8
        generalize upd H7 e2 (.lst []) = H8 at *
        have WL := win_ok F tok tok.tl
        obtain ⟨n0, lt, hlt, ltm, ltl, ltx, lt0⟩ := arr_last F tok
        obtain ⟨vl, evl, yl, ll, rfl, tll⟩ := pAt2 tws8 (show (wins sp)[r.specs.length]? = some (winM sp.tl sp.rcv) by unfold wins; rw [List.getElem?_map, tok.tl]; rfl)
        have ixl : atI ws (-1) = some (V.ref yl) := atI_lst (by rw [wsl, wl]; exact evl)
        walk_at "rd"
        refine ⟨yl, ll, _, sp.rcv, lt, rfl, tll, WL.wt, by have := WL.len; omega, rn, by omega, n0, hlt, fun H9 s9 => ?_⟩
        have S9 := S8.trans s9
        have ws9 := s9 _ _ ws8
        have tws9 := tws8.mono s9
        have dl9 := S9 _ _ hdl
        have us9 := hus.mono S9
        refine ⟨_, rfl, _, rfl, ⟨_, SqL.of dl9⟩, fun D4 hD4 => ?_⟩
        refine lc_it walk_list (fun n H' => Same H9 H' ∧ ∃ m, m ≤ n ∧ H' D4 = some (.lst (List.replicate m (.int 1))) ∧ (m = 0 → ∀ o, o ∈ ds.take n → ¬ (o.1 ≤ lt ∧ lt < o.2))) ⟨Same.new hD4, 0, Nat.le_refl _, upd_same, fun _ o ho => by simp at ho⟩ (fun _ H' _ h => SqL.of (h.1 _ _ dl9)) ?_ ?_
        · rintro n y H10 H11 hn ⟨s10, m, mn, he, hno⟩ ⟨rfl, hc⟩
          obtain ⟨o, ho, a, rfl, ha⟩ := pAt us9 hc
          have ha := s10 _ _ ha
          have miss : ¬ (o.1 ≤ lt ∧ lt < o.2) → (m = 0 → ∀ o, o ∈ ds.take (n + 1) → ¬ (o.1 ≤ lt ∧ lt < o.2)) := fun hm em o' ho' => by
            rw [List.take_add_one, ho] at ho'
            rcases List.mem_append.mp ho' with z | z
            · exact hno em o' z
            · rw [List.mem_singleton.mp z]
              exact hm
          refine ⟨_, _, rfl, SqT.of ha, rfl, _, _, rfl, _, _, rfl, rfl, rfl, ?_⟩
          walk_at "rd"
          by_cases c1 : o.1 ≤ lt
          · refine iteD c1 ?_
            walk_at "rd"
            by_cases c2 : lt < o.2
            · refine iteD c2 ?_
              refine ⟨_, he, ?_, Same.mut s10 hD4, m + 1, by omega, ?_, fun h => by omega⟩
              · rw [List.length_replicate]
                exact Nat.lt_of_lt_of_le (m := 1001) (by omega) (Nat.le_trans (by decide) slM)
              · rw [upd_same, List.replicate_succ']
            · refine iteE c2 ?_
              exact ⟨s10, m, by omega, he, miss fun h => c2 h.2⟩
          · refine iteE c1 ?_
            exact ⟨_, rfl, iteF ⟨s10, m, by omega, he, miss fun h => c1 h.1⟩⟩
        rintro H10 ⟨s10, m, mn, he, hno⟩
        have m0 : m ≠ 0 := fun em => by
          obtain ⟨o, ho, h1, h2⟩ := F.inn lt ltm ltl
          exact hno em o (by rw [List.take_of_length_le (by omega)]; exact ho) ⟨h1, h2⟩
        obtain ⟨m', rfl⟩ : ∃ m', m = m' + 1 := ⟨m - 1, by omega⟩
        refine ⟨Nat.zero_le _, fun e3 he3 => ?_⟩
        have s11 : Same H10 (upd H10 e3 (.lst [])) := Same.new he3
        refine ⟨.list (List.replicate (m' + 1) (.int 1)), .list [], .lst (SqL.of (s11 _ _ he)) (ones_dp (a := D) _), .lst (SqL.of upd_same) .nil, ones_shaped _, rfl, _, rfl, iteF ?_⟩
        have S11 := (S9.trans s10).trans s11
        have ws11 := s11 _ _ (s10 _ _ ws9)
        have tws11 := (tws9.mono s10).mono s11
        generalize upd H10 e3 (.lst []) = H11 at *
        refine ⟨_, rfl, _, rfl, ry, dr, _, rfl, S11 _ _ hr1, _, r, _, rfl, ra.mono S11, ok.rok.p1, F.ok.fin, true, rfl, _, rfl, iteF ?_⟩
        refine ⟨_, rfl, _, rfl, ry, dr, _, rfl, S11 _ _ hr1, _, r, _, rfl, ra.mono S11, ok.rok.p1, rcv_in F tok, true, rfl, _, rfl, iteF ?_⟩
        refine ⟨_, rfl, _, rfl, x, r, ds, sps, i, sp, rfl, ta.mono S11, hi, fun H12 kl ks s12 hkl hks => ?_⟩
        have S12 := S11.trans s12
        have ws12 := s12 _ _ ws11
        have tws12 := tws11.mono s12
        walk_at "rd"
        by_cases cf : 0 < sp.first
        all_goals
          first
          | refine iteD cf ?_
            refine ⟨_, rfl, _, rfl, _, _, rfl, rfl, x, r, ds, sps, sp.first - 1, sp.st, rfl, ta.mono S12, ok, by omega, st_ahead ok hi, fun H13 ql qs s13 hql hqs => ?_⟩
            refine ⟨_, rfl, .list (sp.st.map stD), .list (sp.st.map stD), .lst (SqL.of hql) hqs.dp, .lst (SqL.of (s13 _ _ hkl)) (hks.mono s13).dp, sts_shaped _, sts_shaped _, ?_⟩
            rw [show PyData.eqv (.list (sp.st.map stD)) (.list (sp.st.map stD)) = true from (sts_ok _).2.2]
            refine ⟨_, rfl, iteF ?_⟩
            have S13 := S12.trans s13
            have ws13 := s13 _ _ ws12
            have tws13 := tws12.mono s13
            have kl13 := s13 _ _ hkl
            have ks13 := hks.mono s13
          | refine iteE cf ?_
            have S13 := S12
            have ws13 := ws12
            have tws13 := tws12
            have kl13 := hkl
            have ks13 := hks
          refine ⟨_, rfl, _, rfl, x, r, ds, sps, i, sp, rfl, ta.mono S13, ok, hi, fun H14 ol s14 hol => ?_⟩
          have S14 := S13.trans s14
          have ws14 := s14 _ _ ws13
          have tws14 := tws13.mono s14
          have kl14 := s14 _ _ kl13
          have ks14 := ks13.mono s14
          refine ⟨_, _, rfl, SqL.of hol, ?_⟩
          have oln : (((List.range r.specs.length).map (openM r sp)).map cV).length = r.specs.length := by rw [List.length_map, List.length_map, List.length_range]
          refine for_it walk_enum (fun _ σ H' => Same H14 H' ∧ ∃ x8 x9 x10 x11 x12 x15 x16 x17, σ = [some (.ref x), some (.ref ry), some (.ref dl), some (.int (i : Int)), some (.int sp.first), some (.int sp.rcv), some (cV wh), some (.ref D), x8, x9, x10, x11, x12, some (.int lt), some (.ref kl), x15, x16, x17])
            ⟨Same.refl _, _, _, _, _, _, _, _, _, rfl⟩ (fun _ σ H' _ h => SqL.of (h.1 _ _ hol)) ?_ ?_
          · rintro n y σ H15 H16 hn ⟨s15, x8, x9, x10, x11, x12, x15, x16, x17, rfl⟩ ⟨T2, b, z, rfl, hT2, rfl, hb, hz⟩
            cases hb
            rw [oln] at hn
            have ez : z = cV (openM r sp n) := by
              replace hz : (((List.range r.specs.length).map (openM r sp)).map cV)[n]? = some z := hz
              rw [List.getElem?_map, List.getElem?_map, List.getElem?_range hn] at hz
              exact (Option.some.inj hz).symm
            subst ez
            have s16 := s15.trans (Same.new (o := .tup [.int (n : Int), cV (openM r sp n)]) hT2)
            have hT3 : upd H15 T2 (.tup [.int (n : Int), cV (openM r sp n)]) T2 = some (.tup [.int (n : Int), cV (openM r sp n)]) := upd_same
            generalize upd H15 T2 (.tup [.int (n : Int), cV (openM r sp n)]) = H16 at *
            obtain ⟨p, hp⟩ := len_at hn
            obtain ⟨st, hst⟩ := len_at (l := sp.st) (i := n) (by rw [F.ok.len]; exact hn)
            obtain ⟨tr, htr⟩ := len_at (l := sp.trs) (i := n + 1) (by omega)
            obtain ⟨o1, o2⟩ := arr_open ok.rok F tok hp hst htr
            have Wn := win_ok F tok htr
            obtain ⟨vw, evw, yw, lw2, rfl, tw⟩ := pAt2 (tws14.mono s16) (show (wins sp)[n + 1]? = some (winM tr sp.rcv) by unfold wins; rw [List.getElem?_map, htr]; rfl)
            have ixw : atI ws ((n : Int) + 1) = some (V.ref yw) := by
              rw [show (n : Int) + 1 = ((n + 1 : Nat) : Int) by omega]
              exact atI_nat evw
            obtain ⟨vk, evk, sk⟩ := pAt2 (ks14.mono s16) hst
            have ixk := atI_nat evk
            have ws16 := s16 _ _ ws14
            have kl16 := s16 _ _ kl14
            refine ⟨_, _, rfl, SqT.of hT3, rfl, _, _, rfl, _, _, rfl, rfl, ?_⟩
            walk_at "rd"
            refine ⟨sl2, fun T4 hT4 => ?_⟩
            have s17 := s16.trans (Same.new (o := .tup [.str "closed", .int 0]) hT4)
            have sk17 := sk.mono (Same.new (o := .tup [.str "closed", .int 0]) hT4)
            have tw17 := tw.mono (Same.new (o := .tup [.str "closed", .int 0]) hT4)
            have hT5 : upd H16 T4 (.tup [.str "closed", .int 0]) T4 = some (.tup [.str "closed", .int 0]) := upd_same
            generalize upd H16 T4 (.tup [.str "closed", .int 0]) = H17 at *
            refine ⟨_, _, sk17.dp, StV.dp (st := none) ⟨T4, rfl, SqT.of hT5⟩, stD_shaped _, stD_shaped _, _, rfl, ?_⟩
            rw [stD_closed]
            have ry17 := (S14.trans s17) _ _ hr1
            have t0 : ∀ t, openM r sp n = some t → 0 ≤ t := fun t h => by
              obtain ⟨m1, _⟩ := o1 t h
              obtain ⟨u, hu, hm⟩ := m1
              have := hm.ge (Wn.wt.o.all u hu)
              have := (Wn.wt.o.all u hu).s0
              omega
            obtain ⟨dw, hw17⟩ := tw17.1
            by_cases cst : st = none
            · have eA : leftM p st - 1 = p.1 - 1 := by unfold leftM; rw [if_pos cst]
              rw [eA] at o1 o2
              refine iteD cst ?_
              refine ⟨_, rfl, _, rfl, ry, dr, _, rfl, ry17, _, r, n, p, rfl, ra.mono (S14.trans s17), hp, fun u ⟨a, ea, ha⟩ => ?_⟩
              subst ea
              walk_at "rd"
              cases ho : openM r sp n with
              | none =>
                walk_at "rd"
                refine ⟨yw, lw2, _, sp.rcv, rfl, tw17, Wn.wt, by have := Wn.len; omega, rn, fun H18 s18 => ?_⟩
                walk_at "rd"
                refine iteE (o2 ho) ?_
                exact ⟨s17.trans s18, _, _, _, _, _, _, _, _, rfl⟩
              | some t =>
                obtain ⟨m1, m2⟩ := o1 t ho
                have tt := t0 t ho
                walk_at "rd"
                refine ⟨yw, dw, _, rfl, hw17, yw, lw2, _, t, rfl, tw17, Wn.wt, by have := Wn.len; omega, m1, fun H18 s18 => ⟨true, rfl, ?_⟩⟩
                walk_at "rd"
                refine ⟨yw, lw2, _, t, rfl, tw17.mono s18, Wn.wt, by have := Wn.len; omega, tt, fun H19 s19 => ?_⟩
                walk_at "rd"
                rw [vT m2]
                walk_at "rd"
                exact ⟨(s17.trans s18).trans s19, _, _, _, _, _, _, _, _, rfl⟩
            · have eA : leftM p st - 1 = 0 := by unfold leftM; rw [if_neg cst]; rfl
              rw [eA] at o1 o2
              refine iteE cst ?_
              walk_at "rd"
              cases ho : openM r sp n with
              | none =>
                walk_at "rd"
                refine ⟨yw, lw2, _, sp.rcv, rfl, tw17, Wn.wt, by have := Wn.len; omega, rn, fun H18 s18 => ?_⟩
                walk_at "rd"
                refine iteE (o2 ho) ?_
                exact ⟨s17.trans s18, _, _, _, _, _, _, _, _, rfl⟩
              | some t =>
                obtain ⟨m1, m2⟩ := o1 t ho
                have tt := t0 t ho
                walk_at "rd"
                refine ⟨yw, dw, _, rfl, hw17, yw, lw2, _, t, rfl, tw17, Wn.wt, by have := Wn.len; omega, m1, fun H18 s18 => ⟨true, rfl, ?_⟩⟩
                walk_at "rd"
                refine ⟨yw, lw2, _, t, rfl, tw17.mono s18, Wn.wt, by have := Wn.len; omega, tt, fun H19 s19 => ?_⟩
                walk_at "rd"
                rw [vT m2]
                walk_at "rd"
                exact ⟨(s17.trans s18).trans s19, _, _, _, _, _, _, _, _, rfl⟩
          · rintro σ H15 ⟨s15, x8, x9, x10, x11, x12, x15, x16, x17, rfl⟩
            have S15 := S14.trans s15
            have ry15 := S15 _ _ hr1
            cases wh with
            | none =>
              walk_at "rd"
              exact k H15 S15
            | some nn =>
              obtain ⟨m, m0, m1, em⟩ := hwh nn rfl
              have mp := Int.mul_nonneg m0 (show 0 ≤ r.pace by have := ok.rok.p1; omega)
              have ind : InD r nn := by
                obtain ⟨q0, q1, q2⟩ := rcv_in F tok
                have := ok.rok.p1
                exact ⟨q0 + m, by omega, by rw [em, q2, Int.add_mul]; omega⟩
              walk_at "rd"
              refine ⟨ry, dr, _, rfl, ry15, _, r, nn, rfl, ra.mono S15, ok.rok.p1, ind, true, rfl, ?_⟩
              walk_at "rd"
              show Q (.bl (decide (sp.rcv ≤ nn))) H15
              rw [decide_eq_true (show sp.rcv ≤ nn by omega)]
              exact k H15 S15
end

section
variable {P : Program} {w : World} {K : PySem.W.Frag} {mg : Str → Option Value} {base : Heap}
theorem downs_split {b e : Int} : ∀ {pre : List (Int × Int)} {lo : Int}, Downs lo (pre ++ [(b, e)]) → Downs lo pre ∧ lo ≤ b ∧ (∀ o, o ∈ pre → o.2 < b) ∧ b < e ∧ e ≤ 1000000000000000000000000000000
  | [], lo, h => ⟨trivial, h.1, fun o ho => by simp at ho, h.2.1, h.2.2.1⟩
  | o :: r, lo, h => by
    obtain ⟨a1, a2, a3, a4, a5⟩ := downs_split (pre := r) h.2.2.2
    have := h.2.1
    have := h.1
    refine ⟨⟨h.1, h.2.1, h.2.2.1, a1⟩, by omega, fun o' ho' => ?_, a4, a5⟩
    rcases List.mem_cons.mp ho' with q | q
    · rw [q]
      omega
    · exact a3 o' q
theorem spells_snoc {r : RowM} {pre : List (Int × Int)} {o : Int × Int} : spellsM r (pre ++ [o]) = stepS r (spellsM r pre) o := by
  unfold spellsM
  rw [List.foldl_append]
  rfl
theorem ends_model {r : RowM} {pre : List (Int × Int)} {b e e' y : Int} {sp : SpM} (rok : RowOk r) (hd : Downs 0 (pre ++ [(b, e)])) (hl : (spellsM r (pre ++ [(b, e)])).getLast? = some sp) (hy : MemL sp.tl y) (hlt : y < sp.rcv)
    (hmax : ∀ z, MemL sp.tl z → z < sp.rcv → z ≤ y) (hby : b ≤ y) (hy' : y < e') (he' : e' ≤ 1000000000000000000000000000000) :
    Downs 0 (pre ++ [(b, e')]) ∧ ∃ sp', spellsM r (pre ++ [(b, e')]) = (spellsM r (pre ++ [(b, e)])).dropLast ++ [sp'] ∧ sp'.first = sp.first ∧ sp'.rcv = nextM sp.tl e' := by
  obtain ⟨d1, d2, d3, d4, d5⟩ := downs_split hd
  obtain ⟨lo, lo0, I⟩ := spells_inv rok d1
  refine ⟨downs_snoc (by omega) he' d1 d2 d3, ?_⟩
  rw [spells_snoc] at hl
  rw [spells_snoc, spells_snoc]
  exact ends_same rok d2 ⟨fun o ho => d3 o ho, I.sp, I.fst, I.lk, I.len⟩ (Int.le_refl b) d4 d5 hl hy hlt hmax hby hy'
def sp_lEnR (K : PySem.W.Frag) : Sp := fun vs H Q _ => ∃ (x dl : Addr) (v : V) (r : RowM) (ds : List (Int × Int)) (us : List V), vs = [.ref x, v, .ref dl] ∧ TlA K H x r ds (spellsM r ds) ∧ RowOk r ∧ RowA K H v r ∧ H dl = some (.lst us) ∧ OutVs H us ds ∧ Downs 0 ds ∧ ds.length ≤ 4 ∧ spellsM r ds ≠ [] ∧
  ∀ H', Same H H' → Q (.bl true) H'
theorem sc_lEnR : FnScope ["_law_told", "_law_design", "_law_downs", "_law_first", "_law_recovered", "_law_whole", "_law_last", "_law_end", "_law_shorter"] ["_law_told", "_law_design", "_law_downs"] (defScope s_lEnR) := ⟨rfl, rfl, rfl, by decide +kernel, rfl, by decide +kernel, by decide +kernel⟩
theorem ok_lEnR (T : Tx K mg) : FK P w K mg base 15 (He.ga K "_law_ends_right") ["_law_told", "_law_design", "_law_downs"] (sp_lEnR K) := by
  refine fk_of T.f_lEnR sc_lEnR (fun vs H Q E h => ?_) (fun _ _ _ _ _ _ us hl => match us, hl with | [_, _, _], _ => rfl) (fun cdv A outer s H vs Q E hr h => ?_)
  · obtain ⟨x, dl, v, r, ds, us, rfl, ta, rok, ra, hdl, hus, hd, dlen, ne, k⟩ := h
    rfl
  · obtain ⟨x, dl, v, r, ds, us, rfl, ta, rok, ra, hdl, hus, hd, dlen, ne, k⟩ := h
    refine ⟨_, (pss_cons (ps_asg (pe_ixF (ok_tlG T) (hr.mono (by decide)) T.m_tlG T.fnL (pv 0) (pe_op op_sub (pe_callB (call_lenF (ok_tlL T) (hr.mono (by decide)) T.m_tlL) (by rfl) T.b_len b_len (pa_cons (pv 0) pa_nil)) (pe_int))) (pg_tup rfl (pgs_cons (pg_name (i := 3) sc_lEnR.nd rfl (Or.inl rfl)) (pgs_cons (pg_name (i := 4) sc_lEnR.nd rfl (Or.inl rfl)) (pgs_cons (pg_name (i := 5) sc_lEnR.nd rfl (Or.inl rfl)) pgs_nil)))))
      (pss_cons (ps_set (i := 6) sc_lEnR.nd rfl (Or.inl rfl) (pe_callF (ok_latT T) (hr.mono (by decide)) T.g_latT (pa_cons (pe_callF (ok_arr T) (hr.mono (by decide)) T.g_arr (pa_cons (pv 0) (pa_cons (pe_op op_sub (pe_callB (call_lenF (ok_tlL T) (hr.mono (by decide)) T.m_tlL) (by rfl) T.b_len b_len (pa_cons (pv 0) pa_nil)) (pe_int)) (pa_cons (pe_callB (call_lenF (ok_rowL T) (hr.mono (by decide)) T.m_rowL) (by rfl) T.b_len b_len (pa_cons (pv 1) pa_nil)) pa_nil)))) (pa_cons (pv 4) pa_nil))))
      (pss_cons (ps_if (PW.pt (pw_or (pt_cmpR op_ne (pe_callF (ok_firS T) (hr.mono (by decide)) T.g_firS (pa_cons (pv 0) (pa_cons (pe_ix ix_tup (pe_ix ix_list (pv 2) (pe_un un_neg (pe_int)) (fun _ _ => rfl)) (pe_int) (fun _ _ => rfl)) pa_nil))) (pv 4) (nomark _)) (pw_or1 (pt_cmpR op_lt (pv 6) (pe_ix ix_tup (pe_ix ix_list (pv 2) (pe_un un_neg (pe_int)) (fun _ _ => rfl)) (pe_int) (fun _ _ => rfl)) (nomark _))))) (pss_one (ps_ret (pe_bl))) pss_nil)
      (pss_cons (ps_for PassesOwn.never rfl (pi_tup (pe_tup (pa_cons (pe_op op_add (pv 6) (pe_int)) (pa_cons (pv 4) pa_nil)))) (pg_name (i := 7) sc_lEnR.nd rfl (Or.inl rfl)) (pss_cons (ps_set (i := 8) sc_lEnR.nd rfl (Or.inl rfl) (pe_op op_cat (pe_slice sl_list (pv 2) po_none (po_some (pe_un un_neg (pe_int)))) (pe_lst (pa_cons (pe_tup (pa_cons (pe_ix ix_tup (pe_ix ix_list (pv 2) (pe_un un_neg (pe_int)) (fun _ _ => rfl)) (pe_int) (fun _ _ => rfl)) (pa_cons (pe_callB (call_min2 rfl) (by rfl) T.b_min b_min (pa_cons (pe_op op_pow (pe_int) (pe_int)) (pa_cons (pv 7) pa_nil))) pa_nil))) pa_nil))))
        (pss_one (ps_if (pt_cmpR (op_neD hr.units) (pe_slice sl_tup (pe_ixF (ok_tlG T) (hr.mono (by decide)) T.m_tlG T.fnL (pe_makeF T.mkL (ok_tlI T) (hr.mono (by decide)) T.g_Timeline (pa_cons (pv 1) (pa_cons (pv 8) pa_nil))) (pe_op op_sub (pe_callB (call_lenF (ok_tlL T) (hr.mono (by decide)) T.m_tlL) (by rfl) T.b_len b_len (pa_cons (pv 0) pa_nil)) (pe_int))) po_none (po_some (pe_int))) (pe_tup (pa_cons (pv 3) (pa_cons (pv 4) pa_nil))) (nomark _)) (pss_one (ps_ret (pe_bl))) pss_nil))))
      (pss_cons (ps_if (pt_cmpR op_ge (pv 4) (pe_op op_pow (pe_int) (pe_int)) (nomark _)) (pss_one (ps_ret (pe_bl))) pss_nil)
      (pss_one (ps_ret (pe_cmpR op_gt (pe_ix ix_tup (pe_ixF (ok_tlG T) (hr.mono (by decide)) T.m_tlG T.fnL (pe_makeF T.mkL (ok_tlI T) (hr.mono (by decide)) T.g_Timeline (pa_cons (pv 1) (pa_cons (pe_op op_cat (pe_slice sl_list (pv 2) po_none (po_some (pe_un un_neg (pe_int)))) (pe_lst (pa_cons (pe_tup (pa_cons (pe_ix ix_tup (pe_ix ix_list (pv 2) (pe_un un_neg (pe_int)) (fun _ _ => rfl)) (pe_int) (fun _ _ => rfl)) (pa_cons (pe_op op_add (pv 4) (pe_int)) pa_nil))) pa_nil))) pa_nil))) (pe_op op_sub (pe_callB (call_lenF (ok_tlL T) (hr.mono (by decide)) T.m_tlL) (by rfl) T.b_len b_len (pa_cons (pv 0) pa_nil)) (pe_int))) (pe_int) (fun _ _ => rfl)) (pv 4) (nomark _))))))))), ?_⟩
    obtain ⟨dx, rx, d, s0, os, zs, h1, _⟩ := id ta
    obtain ⟨ry, dr, lr, ur, rfl, hr1, hr2, hr3⟩ := id ra
    obtain ⟨lo, lo0, I⟩ := spells_inv rok hd
    have ok : TlOk r ds (spellsM r ds) := ⟨rok, lo, lo0, I⟩
    have sl := I.len
    obtain ⟨sp, hsp⟩ : ∃ sp, (spellsM r ds).getLast? = some sp := by
      cases h : (spellsM r ds).getLast? with
      | none => exact absurd (List.getLast?_eq_none_iff.mp h) ne
      | some sp => exact ⟨sp, rfl⟩
    obtain ⟨_, hi, eds⟩ := getLast_idx hsp
    obtain ⟨n, hn⟩ : ∃ n, (spellsM r ds).length = n + 1 := ⟨(spellsM r ds).length - 1, by have := (List.getElem?_eq_some_iff.mp hi).1; omega⟩
    rw [show (spellsM r ds).length - 1 = n by omega] at hi
    have F := ok.F hi
    have tok := F.ok.trsOk rok
    have rl := rok.len
    have bb := BB_big
    have bq := BB_C
    have lh := LH_LW
    have lq := LQ_LH
    have rn := rcv_nn F
    have rb := F.rb
    have ul := pLen hus
    rcases snoc_of ds with e0 | ⟨pre, ⟨b, e⟩, ed⟩
    · subst e0
      exact absurd rfl ne
    subst ed
    obtain ⟨hq1, hq2, hq3, hq4, hq5⟩ := downs_split hd
    obtain ⟨pu, u, rfl, hpu, hu⟩ : ∃ pu u, us = pu ++ [u] ∧ OutVs H pu pre ∧ OutV H u (b, e) := by
      rcases snoc_of us with e0 | ⟨pu, u, e1⟩
      · subst e0
        simp at ul
      · subst e1
        obtain ⟨tp, l, e2, h1, h2⟩ := pSnoc hus
        obtain ⟨rfl, e3⟩ := List.append_inj' e2 rfl
        cases e3
        exact ⟨pu, u, rfl, h1, h2⟩
    obtain ⟨ua, rfl, hua⟩ := hu
    have ixd := atI_last pu (V.ref ua)
    have idx : ((spellsM r (pre ++ [(b, e)])).length : Int) - 1 = (n : Int) := by omega
    refine ⟨_, rfl, _, rfl, x, dx, _, rfl, h1, x, r, _, _, rfl, ta, _, rfl, by omega, by omega, ?_⟩
    refine ⟨_, _, rfl, rfl, x, dx, _, rfl, h1, x, r, _, _, n, sp, by show [V.ref x, V.int (((spellsM r (pre ++ [(b, e)])).length : Int) - 1)] = _; rw [idx], ta, ok, hi, fun H1 T0 wh s1 hT0 hwh => ?_⟩
    refine ⟨_, _, rfl, SqT.of hT0, rfl, _, _, rfl, _, _, rfl, _, _, rfl, rfl, ?_⟩
    refine ⟨_, rfl, _, rfl, x, dx, _, rfl, s1 _ _ h1, x, r, _, _, rfl, ta.mono s1, _, rfl, by omega, by omega, _, _, rfl, rfl, ?_⟩
    refine ⟨_, rfl, ry, dr, _, rfl, s1 _ _ hr1, _, r, rfl, ra.mono s1, _, rfl, by omega, by omega, ?_⟩
    refine ⟨x, r, _, _, n, r.specs.length, sp, sp.tl, by show [V.ref x, V.int (((spellsM r (pre ++ [(b, e)])).length : Int) - 1), V.int (r.specs.length : Int)] = _; rw [idx], ta.mono s1, ok, hi, tok.tl, fun H2 p l s2 hp hl tp => ?_⟩
    have WL := win_ok F tok tok.tl
    obtain ⟨n0, lt, hlt, ltm, ltl, ltx, lt0⟩ := arr_last F tok
    refine ⟨_, rfl, p, l, _, sp.rcv, lt, rfl, tp, WL.wt, by have := WL.len; omega, rn, by omega, n0, hlt, fun H3 s3 => ?_⟩
    have S3 := (s1.trans s2).trans s3
    have dl3 := S3 _ _ hdl
    have ua3 := S3 _ _ hua
    obtain ⟨ob, hob, ob1, ob2⟩ := F.inn lt ltm ltl
    have ob3 : ob.2 ≤ 1000000000000000000000000000000 := by
      obtain ⟨j, hj⟩ := List.getElem?_of_mem hob
      exact (downs_at hd hj).2.2
    have e30 : (10 : Int) ^ Int.toNat 30 = 1000000000000000000000000000000 := by decide
    walk_at "rd"
    refine ⟨x, r, _, _, e, rfl, ta.mono S3, rok, by omega, by omega, fun H4 o s4 ho => ?_⟩
    have S4 := S3.trans s4
    have dl4 := s4 _ _ dl3
    have ua4 := s4 _ _ ua3
    walk_at "rd"
    by_cases c1 : fsM r (spellsM r (pre ++ [(b, e)])) e o = sp.rcv
    · rw [vT c1]
      walk_at "rd"
      by_cases c2 : lt < b
      · refine iteD c2 ?_
        exact k H4 S4
      · refine iteE c2 ?_
        have other : ∀ e', lt < e' → e' ≤ 1000000000000000000000000000000 → Downs 0 (pre ++ [(b, e')]) ∧ ∃ sp', TlOk r (pre ++ [(b, e')]) (spellsM r (pre ++ [(b, e')])) ∧ (spellsM r (pre ++ [(b, e')]))[n]? = some sp' ∧ sp'.first = sp.first ∧ sp'.rcv = nextM sp.tl e' := fun e' q1 q2 => by
          obtain ⟨w1, sp', w2, w3, w4⟩ := ends_model rok hd hsp ltm ltl ltx (show b ≤ lt by omega) q1 q2
          obtain ⟨lo', lo0', I'⟩ := spells_inv rok w1
          refine ⟨w1, sp', ⟨rok, lo', lo0', I'⟩, ?_, w3, w4⟩
          rw [w2]
          have : (spellsM r (pre ++ [(b, e)])).dropLast.length = n := by rw [List.length_dropLast, hn]; rfl
          rw [List.getElem?_append_right (by omega), this, Nat.sub_self]
          rfl
        walk_at "rd"
        refine ⟨sl2, fun T5 hT5 => ?_⟩
        have S5 := S4.trans (Same.new (o := .tup [.int (lt + 1), .int sp.rcv]) hT5)
        have hT6 : upd H4 T5 (.tup [.int (lt + 1), .int sp.rcv]) T5 = some (.tup [.int (lt + 1), .int sp.rcv]) := upd_same
        generalize upd H4 T5 (.tup [.int (lt + 1), .int sp.rcv]) = H5 at *
        refine ⟨_, rfl, ⟨_, SqT.of hT6⟩, ?_⟩
        refine for_it walk_tup (fun _ σ H' => Same H5 H' ∧ ∃ x7 x8, σ = [some (.ref x), some (.ref ry), some (.ref dl), some (.int sp.first), some (.int sp.rcv), some (cV wh), some (.int lt), x7, x8]) ⟨Same.refl _, _, _, rfl⟩ (fun _ σ H' _ h => SqT.of (h.1 _ _ hT6)) ?_ ?_
        · rintro j y σ H6 H7 hj ⟨s6, x7, x8, rfl⟩ ⟨rfl, hy⟩
          have hj : j < 2 := hj
          have yy : ∃ en, y = .int en ∧ lt < en ∧ en ≤ sp.rcv := by
            rcases (show j = 0 ∨ j = 1 by omega) with z | z
            · subst z
              cases hy
              exact ⟨_, rfl, by omega, by omega⟩
            · subst z
              cases hy
              exact ⟨_, rfl, ltl, Int.le_refl _⟩
          obtain ⟨en, rfl, en1, en2⟩ := yy
          have S6 := S5.trans s6
          have dl6 := S6 _ _ hdl
          have ua6 := S6 _ _ hua
          refine ⟨_, rfl, _, rfl, _, rfl, dl, _, rfl, SqL.of dl6, fun g hg => ?_⟩
          rw [cut_init]
          have s7 : Same H7 (upd H7 g (.lst pu)) := Same.new hg
          have g7 : upd H7 g (.lst pu) g = some (.lst pu) := upd_same
          have S7 := S6.trans s7
          have dl7 := s7 _ _ dl6
          have ua7 := s7 _ _ ua6
          generalize upd H7 g (.lst pu) = H8 at *
          walk_at "rdi"
          have hE1 : lt < (if en < 10 ^ Int.toNat 30 then en else 10 ^ Int.toNat 30) := by
            rw [e30]
            split <;> omega
          have hE2 : (if en < 10 ^ Int.toNat 30 then en else 10 ^ Int.toNat 30) ≤ 1000000000000000000000000000000 := by
            rw [e30]
            split <;> omega
          have hE3 : (if en < 10 ^ Int.toNat 30 then en else 10 ^ Int.toNat 30) ≤ sp.rcv := by
            rw [e30]
            split <;> omega
          refine ⟨sl2, fun tp htp => ⟨sl1, fun lp hlp => ?_⟩⟩
          have s9 := (Same.new (o := .tup [.int b, .int (if en < 10 ^ Int.toNat 30 then en else 10 ^ Int.toNat 30)]) htp).trans (Same.new (o := .lst [.ref tp]) hlp)
          have lp9 : upd (upd H8 tp (.tup [.int b, .int (if en < 10 ^ Int.toNat 30 then en else 10 ^ Int.toNat 30)])) lp (.lst [.ref tp]) lp = some (.lst [.ref tp]) := upd_same
          have tp9 : upd (upd H8 tp (.tup [.int b, .int (if en < 10 ^ Int.toNat 30 then en else 10 ^ Int.toNat 30)])) lp (.lst [.ref tp]) tp = some (.tup [.int b, .int (if en < 10 ^ Int.toNat 30 then en else 10 ^ Int.toNat 30)]) := Same.new hlp _ _ upd_same
          generalize upd (upd H8 tp (.tup [.int b, .int (if en < 10 ^ Int.toNat 30 then en else 10 ^ Int.toNat 30)])) lp (.lst [.ref tp]) = H9 at *
          have g9 := s9 _ _ g7
          have pul : pu.length ≤ 4 := by
            rw [List.length_append] at dlen ul
            have := pLen hpu
            omega
          refine ⟨g, lp, pu, [.ref tp], rfl, rfl, g9, lp9, Nat.le_trans (m := 5) (by show pu.length + 1 ≤ 5; omega) (Nat.le_trans (by decide) slM), fun ql hqlN => ?_⟩
          have s10 : Same H9 (upd H9 ql (.lst (pu ++ [.ref tp]))) := Same.new hqlN
          have hql : upd H9 ql (.lst (pu ++ [.ref tp])) ql = some (.lst (pu ++ [.ref tp])) := upd_same
          have SQ := (S7.trans s9).trans s10
          have tp10 := s10 _ _ tp9
          generalize upd H9 ql (.lst (pu ++ [.ref tp])) = HQ at *
          have hqs : OutVs HQ (pu ++ [.ref tp]) (pre ++ [(b, if en < 10 ^ Int.toNat 30 then en else 10 ^ Int.toNat 30)]) := pApp (hpu.mono SQ) (.cons ⟨tp, rfl, tp10⟩ .nil)
          obtain ⟨hdn, sp', okN, hiN, hf, hr⟩ := other (if en < 10 ^ Int.toNat 30 then en else 10 ^ Int.toNat 30) hE1 hE2
          refine ⟨_, rfl, _, rfl, ?_⟩
          intro x1 dx1 hx1 hdx1 hne1
          have SX : Same HQ (upd (upd HQ dx1 (.own x1)) x1 (.ins (cL K) dx1 [])) := (Same.new hdx1).trans (Same.new (by rw [upd_ne hne1.symm]; exact hx1))
          have SY := hide_into SX hx1
          refine ⟨x1, dx1, ql, _, _, r, pre ++ [(b, if en < 10 ^ Int.toNat 30 then en else 10 ^ Int.toNat 30)], rfl, upd_same, ra.mono (SQ.trans SY), rok, SY _ _ hql, hqs.mono SY, hdn, by rw [List.length_append] at dlen ⊢; exact Nat.le_trans dlen (by decide), fun HU sT taT => ⟨rfl, ?_⟩⟩
          replace taT : TlA K HU x1 r (pre ++ [(b, if en < 10 ^ Int.toNat 30 then en else 10 ^ Int.toNat 30)]) (spellsM r (pre ++ [(b, if en < 10 ^ Int.toNat 30 then en else 10 ^ Int.toNat 30)])) := taT
          have ST := (SQ.trans SY).trans (sT.trans hide_same)
          obtain ⟨dxT, _, _, _, _, _, hxT, _⟩ := id taT
          refine ⟨_, rfl, x, dx, _, rfl, ST _ _ h1, x, r, _, _, rfl, ta.mono ST, _, rfl, by omega, by omega, _, _, rfl, rfl, ?_⟩
          refine ⟨x1, dxT, _, rfl, hxT, x1, r, _, _, n, sp', by show [V.ref x1, V.int (((spellsM r (pre ++ [(b, e)])).length : Int) - 1)] = _; rw [idx], taT, okN, hiN, fun HG T1 wh' sG hT1 _ => ?_⟩
          rw [next_same tok.tlOk F.mem ltx hE1 hE3] at hr
          rw [hf, hr] at hT1
          refine ⟨_, rfl, T1, _, rfl, SqT.of hT1, fun h => absurd h.2 (by show ¬ (HT.sIx 3 3 (some 2) = 3); decide), fun p2 hp2 => ?_⟩
          rw [show cutV [V.int sp.first, V.int sp.rcv, cV wh'] none (some 2) = [V.int sp.first, V.int sp.rcv] from rfl]
          have sH := Same.new (o := .tup [.int sp.first, .int sp.rcv]) hp2
          have p2H : upd HG p2 (.tup [.int sp.first, .int sp.rcv]) p2 = some (.tup [.int sp.first, .int sp.rcv]) := upd_same
          generalize upd HG p2 (.tup [.int sp.first, .int sp.rcv]) = HH at *
          refine ⟨_, rfl, _, rfl, sl2, fun p3 hp3 => ?_⟩
          have sI := Same.new (o := .tup [.int sp.first, .int sp.rcv]) hp3
          refine ⟨.tuple [.int sp.first, .int sp.rcv], .tuple [.int sp.first, .int sp.rcv], .tup (SqT.of (sI _ _ p2H)) (.cons (.int _) (.cons (.int _) .nil)), .tup (SqT.of upd_same) (.cons (.int _) (.cons (.int _) .nil)), rfl, rfl, ?_⟩
          rw [show PyData.eqv (.tuple [.int sp.first, .int sp.rcv]) (.tuple [.int sp.first, .int sp.rcv]) = true by
            show ((sp.first == sp.first) && ((sp.rcv == sp.rcv) && true)) = true
            rw [beq_self_eq_true, beq_self_eq_true]
            rfl]
          refine ⟨_, rfl, iteF ?_⟩
          exact ⟨s6.trans (s7.trans (s9.trans (s10.trans (SY.trans (((sT.trans hide_same).trans sG).trans (sH.trans sI)))))), _, _, rfl⟩
        · rintro σ H6 ⟨s6, x7, x8, rfl⟩
          have S6 := S5.trans s6
          walk_at "rdi"
          rw [e30]
          by_cases c3 : 1000000000000000000000000000000 ≤ sp.rcv
          · refine iteD c3 ?_
            exact k H6 S6
          · refine iteE c3 ?_
            have dl6 := S6 _ _ hdl
            have ua6 := S6 _ _ hua
            refine ⟨_, rfl, _, rfl, _, rfl, _, rfl, dl, _, rfl, SqL.of dl6, fun g hg => ?_⟩
            rw [cut_init]
            have s7 : Same H6 (upd H6 g (.lst pu)) := Same.new hg
            have g7 : upd H6 g (.lst pu) g = some (.lst pu) := upd_same
            have S7 := S6.trans s7
            have dl7 := s7 _ _ dl6
            have ua7 := s7 _ _ ua6
            generalize upd H6 g (.lst pu) = H8 at *
            walk_at "rdi"
            have hE1 : lt < sp.rcv + 1 := by omega
            have hE2 : sp.rcv + 1 ≤ 1000000000000000000000000000000 := by omega
            refine ⟨sl2, fun tp htp => ⟨sl1, fun lp hlp => ?_⟩⟩
            have s9 := (Same.new (o := .tup [.int b, .int (sp.rcv + 1)]) htp).trans (Same.new (o := .lst [.ref tp]) hlp)
            have lp9 : upd (upd H8 tp (.tup [.int b, .int (sp.rcv + 1)])) lp (.lst [.ref tp]) lp = some (.lst [.ref tp]) := upd_same
            have tp9 : upd (upd H8 tp (.tup [.int b, .int (sp.rcv + 1)])) lp (.lst [.ref tp]) tp = some (.tup [.int b, .int (sp.rcv + 1)]) := Same.new hlp _ _ upd_same
            generalize upd (upd H8 tp (.tup [.int b, .int (sp.rcv + 1)])) lp (.lst [.ref tp]) = H9 at *
            have g9 := s9 _ _ g7
            have pul : pu.length ≤ 4 := by
              rw [List.length_append] at dlen ul
              have := pLen hpu
              omega
            refine ⟨g, lp, pu, [.ref tp], rfl, rfl, g9, lp9, Nat.le_trans (m := 5) (by show pu.length + 1 ≤ 5; omega) (Nat.le_trans (by decide) slM), fun ql hqlN => ?_⟩
            have s10 : Same H9 (upd H9 ql (.lst (pu ++ [.ref tp]))) := Same.new hqlN
            have hql : upd H9 ql (.lst (pu ++ [.ref tp])) ql = some (.lst (pu ++ [.ref tp])) := upd_same
            have SQ := (S7.trans s9).trans s10
            have tp10 := s10 _ _ tp9
            generalize upd H9 ql (.lst (pu ++ [.ref tp])) = HQ at *
            have hqs : OutVs HQ (pu ++ [.ref tp]) (pre ++ [(b, sp.rcv + 1)]) := pApp (hpu.mono SQ) (.cons ⟨tp, rfl, tp10⟩ .nil)
            obtain ⟨hdn, sp', okN, hiN, hf, hr⟩ := other (sp.rcv + 1) hE1 hE2
            intro x1 dx1 hx1 hdx1 hne1
            have SX : Same HQ (upd (upd HQ dx1 (.own x1)) x1 (.ins (cL K) dx1 [])) := (Same.new hdx1).trans (Same.new (by rw [upd_ne hne1.symm]; exact hx1))
            have SY := hide_into SX hx1
            refine ⟨x1, dx1, ql, _, _, r, pre ++ [(b, sp.rcv + 1)], rfl, upd_same, ra.mono (SQ.trans SY), rok, SY _ _ hql, hqs.mono SY, hdn, by rw [List.length_append] at dlen ⊢; exact Nat.le_trans dlen (by decide), fun HU sT taT => ⟨rfl, ?_⟩⟩
            replace taT : TlA K HU x1 r (pre ++ [(b, sp.rcv + 1)]) (spellsM r (pre ++ [(b, sp.rcv + 1)])) := taT
            have ST := (SQ.trans SY).trans (sT.trans hide_same)
            obtain ⟨dxT, _, _, _, _, _, hxT, _⟩ := id taT
            refine ⟨_, rfl, x, dx, _, rfl, ST _ _ h1, x, r, _, _, rfl, ta.mono ST, _, rfl, by omega, by omega, _, _, rfl, rfl, ?_⟩
            refine ⟨x1, dxT, _, rfl, hxT, x1, r, _, _, n, sp', by show [V.ref x1, V.int (((spellsM r (pre ++ [(b, e)])).length : Int) - 1)] = _; rw [idx], taT, okN, hiN, fun HG T1 wh' sG hT1 _ => ?_⟩
            obtain ⟨_, nx2, _⟩ := next_facts tok.tlOk (sp.rcv + 1)
            walk_at "rd"
            have SG := ST.trans sG
            show Q (.bl (decide (sp.rcv < sp'.rcv))) HG
            rw [decide_eq_true (show sp.rcv < sp'.rcv by omega)]
            exact k HG SG
    · rw [vF c1]
      walk_at "rd"
      exact k H4 S4
end

section
variable {P : Program} {w : World} {K : PySem.W.Frag} {mg : Str → Option Value} {base : Heap}
theorem beq2 (a b : Int) : PyData.eqv (.tuple [.int a, .int b]) (.tuple [.int a, .int b]) = true := by
  show ((a == a) && ((b == b) && true)) = true
  rw [beq_self_eq_true, beq_self_eq_true]
  rfl
def spans (sps : List SpM) : List (Int × Int) := sps.map fun sp => (sp.first, sp.rcv)
def sp_lRig (K : PySem.W.Frag) : Sp := fun vs H Q _ => ∃ (l : Addr), vs = [.ref l] ∧ Wel l 0 H ∧ ∀ H', Same (hide l H) (hide l H') → Q (.bl true) H'
theorem sc_lRig : FnScope ["_law_well_here", "_law_design", "_law_downs", "_law_told", "_law_spans", "_law_at", "_law_one_here", "_law_other", "_law_first", "_law_recovered"] ["_law_well_here"] (defScope s_lRig) := ⟨rfl, rfl, rfl, by decide +kernel, rfl, by decide +kernel, by decide +kernel⟩
theorem ok_lRig (T : Tx K mg) : FK P w K mg base 16 (He.ga K "_law_right") ["_law_well_here"] (sp_lRig K) := by
  refine fk_of T.f_lRig sc_lRig (fun vs H Q E h => ?_) (fun _ _ _ _ _ _ us hl => match us, hl with | [_], _ => rfl) (fun cdv A outer s H vs Q E hr h => ?_)
  · obtain ⟨l, rfl, w0, k⟩ := h
    rfl
  · obtain ⟨l, rfl, w0, k⟩ := h
    refine ⟨_, (pss_cons (ps_par (i := 1) (j := 2) (by rfl) sc_lRig.nd rfl rfl (by decide) rfl rfl (pa_cons (pe_callF (ok_lFar T) (hr.mono (by decide)) T.g_lFar (pa_cons (pv 0) pa_nil)) (pa_cons (pe_callF (ok_lDow T) (hr.mono (by decide)) T.g_lDow (pa_cons (pv 0) (pa_cons (pe_int) pa_nil))) pa_nil)) (by rfl))
      (pss_cons (ps_set (i := 3) sc_lRig.nd rfl (Or.inr rfl) (pe_makeF T.mkL (ok_tlI T) (hr.mono (by decide)) T.g_Timeline (pa_cons (pv 1) (pa_cons (pv 2) pa_nil))))
      (pss_cons (ps_setLc (i := 4) (own := [("_law_at", 5)]) rfl sc_lRig.nd rfl rfl (sw_true rfl rfl rfl (by decide +kernel)) (pi_range1 (by rfl) T.b_range (pa_cons (pe_callB (call_lenF (ok_tlL T) (hr.mono (by decide)) T.m_tlL) (by rfl) T.b_len b_len (pa_cons (pv 3) pa_nil)) pa_nil)) (blkOk_by (N := ["_law_well_here", "_law_design", "_law_downs", "_law_told", "_law_spans", "_law_at", "_law_one_here", "_law_other", "_law_first", "_law_recovered"]) (sc := defScope s_lRig) (by decide +kernel)) (fun _ _ _ _ _ => (pg_name (i := 5) sc_lRig.nd rfl (Or.inl rfl))) (fun _ _ _ _ _ => pts_nil) (fun _ _ _ _ _ => (pe_slice (show SlR _ (rSlT K) from sl_tup) (pe_ixF (ok_tlG T) (hr.mono (by decide)) T.m_tlG T.fnL (pv 3) (pv 5)) po_none (po_some (pe_int)))))
      (pss_cons (ps_if (pt_cmpR (op_neD hr.units) (pe_lc (g := gTup K 2 (gCons (gName 6) (gCons (gName 7) gNil))) (own := [("_law_one_here", 6), ("_law_other", 7)]) rfl sc_lRig.nd (pi_zip (by rfl) T.b_zip (pa_cons (pv 4) (pa_cons (pe_slice sl_list (pv 4) (po_some (pe_int)) po_none) pa_nil))) (blkOk_by (N := ["_law_well_here", "_law_design", "_law_downs", "_law_told", "_law_spans", "_law_at", "_law_one_here", "_law_other", "_law_first", "_law_recovered"]) (sc := defScope s_lRig) (by decide +kernel)) (fun _ _ _ _ _ => (pg_tup rfl (pgs_cons (pg_name (i := 6) sc_lRig.nd rfl (Or.inl rfl)) (pgs_cons (pg_name (i := 7) sc_lRig.nd rfl (Or.inl rfl)) pgs_nil)))) (fun _ _ _ _ _ => (pts_one (pt_cmpR op_ge (pe_ix (show IxR _ (rIxT K) from ix_tup) (pv 6) (pe_int) (fun _ _ => rfl)) (pe_ix (show IxR _ (rIxT K) from ix_tup) (pv 7) (pe_int) (fun _ _ => rfl)) (nomark _)))) (fun _ _ _ _ _ => (pe_int))) (pe_lst pa_nil) (nomark _)) (pss_one (ps_ret (pe_bl))) pss_nil)
      (pss_cons (ps_if (pt_cmpR op_gt (pe_callB (call_lenF (ok_tlL T) (hr.mono (by decide)) T.m_tlL) (by rfl) T.b_len b_len (pa_cons (pv 3) pa_nil)) (pe_callB call_len_seq (by rfl) T.b_len b_len (pa_cons (pv 2) pa_nil)) (nomark _)) (pss_one (ps_ret (pe_bl))) pss_nil)
      (pss_cons (ps_for PassesOwn.never rfl (pi_enum (by rfl) T.b_enumerate (pa_cons (pv 4) pa_nil)) (pg_tup rfl (pgs_cons (pg_name (i := 5) sc_lRig.nd rfl (Or.inl rfl)) (pgs_cons (pg_tup rfl (pgs_cons (pg_name (i := 8) sc_lRig.nd rfl (Or.inl rfl)) (pgs_cons (pg_name (i := 9) sc_lRig.nd rfl (Or.inl rfl)) pgs_nil))) pgs_nil))) (pss_cons (ps_if (PW.pt (pw_or (pt_not (pt_cmpR op_lt (pv 8) (pv 9) (nomark _))) (pw_or1 (pt_not (pt_val (pe_callF (ok_lSpR T) (hr.mono (by decide)) T.g_lSpR (pa_cons (pv 3) (pa_cons (pv 1) (pa_cons (pv 2) (pa_cons (pv 5) pa_nil)))))))))) (pss_one (ps_ret (pe_bl))) pss_nil)
        (pss_cons (ps_if (PW.pt (pw_or (pt_cmpR op_ne (pe_callF (ok_spAt T) (hr.mono (by decide)) T.g_spAt (pa_cons (pv 3) (pa_cons (pv 8) pa_nil))) (pv 5) (nomark _)) (pw_or1 (pt_cmpR op_notN (pe_callF (ok_spAt T) (hr.mono (by decide)) T.g_spAt (pa_cons (pv 3) (pa_cons (pv 9) pa_nil))) (pe_non) (nomark _))))) (pss_one (ps_ret (pe_bl))) pss_nil)
        (pss_cons (ps_if (pt_cmpR op_ne (pe_callF (ok_firS T) (hr.mono (by decide)) T.g_firS (pa_cons (pv 3) (pa_cons (pv 8) pa_nil))) (pv 9) (nomark _)) (pss_one (ps_ret (pe_bl))) pss_nil)
        (pss_one (ps_if (pt_cmpR op_ne (pe_callF (ok_tCnt T) (hr.mono (by decide)) T.g_tCnt (pa_cons (pe_callF (ok_arr T) (hr.mono (by decide)) T.g_arr (pa_cons (pv 3) (pa_cons (pv 5) (pa_cons (pe_int) pa_nil)))) pa_nil)) (pe_op op_fdivW (pe_op op_sub (pv 9) (pv 8)) (pe_meth0F (pv 1) T.clR T.m_rowS (ok_rowS T) (hr.mono (by decide)))) (nomark _)) (pss_one (ps_ret (pe_bl))) pss_nil))))))
      (pss_one (ps_ret ((pe_or (pe_cmpR op_eq (pe_callB (call_lenF (ok_tlL T) (hr.mono (by decide)) T.m_tlL) (by rfl) T.b_len b_len (pa_cons (pv 3) pa_nil)) (pe_int) (nomark _)) (pe_one (pe_callF (ok_lEnR T) (hr.mono (by decide)) T.g_lEnR (pa_cons (pv 3) (pa_cons (pv 1) (pa_cons (pv 2) pa_nil))))))))))))))), ?_⟩
    refine ⟨_, rfl, l, 0, rfl, w0, by omega, fun H1 v r s1 w1 ra1 rok => ?_⟩
    obtain ⟨ry, dr, lr, ur, rfl, hr1, hr2, hr3⟩ := id ra1
    refine ⟨_, rfl, l, _, rfl, w1, by omega, fun H2 dl us ds s2 hdl hus hd dlen => ?_⟩
    have ra : RowA K H2 (.ref ry) r := (RowA.mono s2 ra1).mono hide_same
    have S2 : Same (hide l H) (hide l H2) := s1.trans s2
    refine ⟨_, _, rfl, ?_⟩
    refine ⟨_, rfl, _, rfl, ?_⟩
    intro x dx hx hdx hne
    have SX : Same H2 (upd (upd H2 dx (.own x)) x (.ins (cL K) dx [])) := (Same.new hdx).trans (Same.new (by rw [upd_ne hne.symm]; exact hx))
    have SY := hide_into SX hx
    refine ⟨x, dx, dl, us, _, r, ds, rfl, upd_same, ra.mono SY, rok, SY _ _ hdl, hus.mono SY, hd, by omega, fun H3 s3 ta => ⟨rfl, ?_⟩⟩
    replace ta : TlA K H3 x r ds (spellsM r ds) := ta
    have S23 : Same H2 H3 := (SY.trans s3).trans hide_same
    have S3 : Same (hide l H) (hide l H3) := S2.trans (hide_mono S23)
    replace ra := ra.mono S23
    replace hdl := S23 _ _ hdl
    replace hus := hus.mono S23
    obtain ⟨lo, lo0, I⟩ := spells_inv rok hd
    have ok : TlOk r ds (spellsM r ds) := ⟨rok, lo, lo0, I⟩
    have sl := I.len
    have ul := pLen hus
    have bb := BB_big
    obtain ⟨dxL, _, _, _, _, _, h1, _⟩ := id ta
    obtain ⟨ry', dr, lr, ur, er, hr1, hr2, hr3⟩ := id ra
    cases er
    -- from here on all stands in H3
    have fin : ∀ H', Same H3 H' → Q (.bl true) H' := fun H' s => k H' (S3.trans (hide_mono s))
    refine ⟨_, rfl, x, dxL, _, rfl, h1, x, r, ds, _, rfl, ta, _, rfl, by omega, by omega, ?_⟩
    generalize hsp : spellsM r ds = sps at *
    refine ⟨_, rfl, by omega, by omega, fun D hD => ?_⟩
    refine lc_it (walk_range (lo := 0) (n := (sps.length : Int).toNat)) (fun n H' => Same H3 H' ∧ ∃ zs, H' D = some (.lst zs) ∧ OutVs H' zs ((spans sps).take n)) ⟨Same.new hD, [], upd_same, .nil⟩ (fun _ _ _ _ => trivial) ?_ ?_
    · rintro n y H4 H5 hn ⟨s4, zs, hzs, ozs⟩ ⟨rfl, rfl⟩
      have hn : n < sps.length := hn
      obtain ⟨sp, hi⟩ := len_at hn
      have zl := pLen ozs
      refine ⟨rfl, ?_⟩
      refine ⟨_, rfl, _, rfl, x, dxL, _, rfl, s4 _ _ h1, x, r, ds, sps, n, sp, by show [V.ref x, V.int (0 + (n : Int))] = _; rw [Int.zero_add], ta.mono s4, ok, hi, fun H6 T1 wh s6 hT1 _ => ?_⟩
      refine ⟨_, rfl, T1, _, rfl, SqT.of hT1, fun h => absurd h.2 (by show ¬ (HT.sIx 3 3 (some 2) = 3); decide), fun p2 hp2 => ?_⟩
      rw [show cutV [V.int sp.first, V.int sp.rcv, cV wh] none (some 2) = [V.int sp.first, V.int sp.rcv] from rfl]
      have s7 := s6.trans (Same.new (o := .tup [.int sp.first, .int sp.rcv]) hp2)
      have p7 : upd H6 p2 (.tup [.int sp.first, .int sp.rcv]) p2 = some (.tup [.int sp.first, .int sp.rcv]) := upd_same
      generalize upd H6 p2 (.tup [.int sp.first, .int sp.rcv]) = H7 at *
      have z7 := s7 _ _ hzs
      refine ⟨zs, z7, ?_, Same.mut (s4.trans s7) hD, _, upd_same, ?_⟩
      · rw [zl, List.length_take]
        exact Nat.lt_of_lt_of_le (m := 1001) (by omega) (Nat.le_trans (by decide) slM)
      · have e : (spans sps)[n]? = some (sp.first, sp.rcv) := by unfold spans; rw [List.getElem?_map, hi]; rfl
        rw [List.take_add_one, e]
        exact pApp (pImp (fun _ _ h => OutV.updL z7 h) (ozs.mono s7)) (.cons (OutV.updL z7 ⟨p2, rfl, p7⟩) .nil)
    rintro H4 ⟨s4, zs, hzs, ozs⟩
    have spl : (spans sps).length = sps.length := List.length_map ..
    rw [show (sps.length : Int).toNat = (spans sps).length by omega, List.take_length] at ozs
    have zl := pLen ozs
    have sat : ∀ {n : Nat} {o : Int × Int}, (spans sps)[n]? = some o → ∃ sp, sps[n]? = some sp ∧ o = (sp.first, sp.rcv) := fun {n o} h => by
      unfold spans at h
      rw [List.getElem?_map] at h
      obtain ⟨sp, h1, h2⟩ := Option.map_eq_some_iff.mp h
      exact ⟨sp, h1, h2.symm⟩
    refine ⟨_, rfl, _, rfl, _, rfl, D, _, rfl, SqL.of hzs, fun q hq => ?_⟩
    rw [cut_tail]
    have s5 : Same H4 (upd H4 q (.lst (zs.drop 1))) := Same.new hq
    have q5 : upd H4 q (.lst (zs.drop 1)) q = some (.lst (zs.drop 1)) := upd_same
    generalize upd H4 q (.lst (zs.drop 1)) = H5 at *
    have z5 := s5 _ _ hzs
    have ozs5 := ozs.mono s5
    refine ⟨_, _, _, _, rfl, SqL.of z5, SqL.of q5, fun D2 hD2 => ?_⟩
    refine lc_it (walk_zip rfl) (fun n H' => Same H5 H' ∧ H' D2 = some (.lst [])) ⟨Same.new hD2, upd_same⟩ (fun _ H' _ h => ⟨SqL.of (h.1 _ _ z5), SqL.of (h.1 _ _ q5)⟩) ?_ ?_
    · rintro n y H6 H7 hn ⟨s6, he⟩ ⟨T1, c, e, rfl, hT, rfl, hc, hee⟩
      have hee : zs[n + 1]? = some e := by
        have h2 : (zs.drop 1)[n]? = some e := hee
        rw [List.getElem?_drop, Nat.add_comm] at h2
        exact h2
      obtain ⟨o1, ho1, a1, rfl, ha1⟩ := pAt ozs5 hc
      obtain ⟨o2, ho2, a2, rfl, ha2⟩ := pAt ozs5 hee
      obtain ⟨p1, hp1, rfl⟩ := sat ho1
      obtain ⟨p2, hp2, rfl⟩ := sat ho2
      have lt := (I.lk n p1 p2 hp1 hp2).1
      have s7 : Same H6 (upd H6 T1 (.tup [.ref a1, .ref a2])) := Same.new hT
      have ha17 := s7 _ _ (s6 _ _ ha1)
      have ha27 := s7 _ _ (s6 _ _ ha2)
      refine ⟨_, _, rfl, SqT.of upd_same, rfl, _, _, rfl, _, _, rfl, rfl, rfl, ?_⟩
      walk_at "rd"
      refine iteE (show ¬ p2.first ≤ p1.rcv by omega) ?_
      exact ⟨s6.trans s7, s7 _ _ he⟩
    rintro H6 ⟨s6, he⟩
    refine ⟨Nat.zero_le _, fun e1 he1 => ?_⟩
    have s7 : Same H6 (upd H6 e1 (.lst [])) := Same.new he1
    refine ⟨.list [], .list [], .lst (SqL.of (s7 _ _ he)) .nil, .lst (SqL.of upd_same) .nil, rfl, rfl, _, rfl, iteF ?_⟩
    have S7 := ((s4.trans s5).trans s6).trans s7
    have z7 := s7 _ _ (s6 _ _ z5)
    have ozs7 := (ozs5.mono s6).mono s7
    generalize upd H6 e1 (.lst []) = H7 at *
    have dl7 := S7 _ _ hdl
    refine ⟨_, rfl, x, dxL, _, rfl, S7 _ _ h1, x, r, ds, sps, rfl, ta.mono S7, _, rfl, by omega, by omega, ?_⟩
    walk_at "rd"
    refine iteE (show ¬ (us.length : Int) < (sps.length : Int) by omega) ?_
    walk_at "rd"
    refine ⟨_, _, rfl, SqL.of z7, ?_⟩
    refine for_it walk_enum (fun _ σ H' => Same H7 H' ∧ ∃ x5 x6 x7 x8 x9, σ = [some (.ref l), some (.ref ry), some (.ref dl), some (.ref x), some (.ref D), x5, x6, x7, x8, x9]) ⟨Same.refl _, _, _, _, _, _, rfl⟩ (fun _ σ H' _ h => SqL.of (h.1 _ _ z7)) ?_ ?_
    · rintro n y σ H8 H9 hn ⟨s8, x5, x6, x7, x8, x9, rfl⟩ ⟨T2, b, z, rfl, hT2, rfl, hb, hz⟩
      cases hb
      obtain ⟨o, ho, a, rfl, ha⟩ := pAt ozs7 hz
      obtain ⟨sp, hi, rfl⟩ := sat ho
      have F := ok.F hi
      have tok := F.ok.trsOk rok
      have rn := rcv_nn F
      have rb := F.rb
      have s9 := s8.trans (Same.new (o := .tup [.int (n : Int), .ref a]) hT2)
      have hT3 : upd H8 T2 (.tup [.int (n : Int), .ref a]) T2 = some (.tup [.int (n : Int), .ref a]) := upd_same
      generalize upd H8 T2 (.tup [.int (n : Int), .ref a]) = H9 at *
      have ha9 := s9 _ _ ha
      have S9 := S7.trans s9
      refine ⟨_, _, rfl, SqT.of hT3, rfl, _, _, rfl, _, _, rfl, _, _, rfl, SqT.of ha9, rfl, _, _, rfl, _, _, rfl, rfl, rfl, ?_⟩
      walk_at "rd"
      rw [decide_eq_true (show sp.first < sp.rcv from F.lt)]
      walk_at "rd"
      refine ⟨x, dl, .ref ry, r, ds, sps, n, sp, us, rfl, ta.mono S9, ok, ra.mono S9, S9 _ _ hdl, hus.mono S9, by omega, hi, fun H10 s10 => ?_⟩
      have S10 := S9.trans s10
      walk_at "rd"
      refine ⟨x, r, ds, sps, sp.first, rfl, ta.mono S10, F.ok.f0, fun H11 o1 s11 ho1 => ?_⟩
      have S11 := S10.trans s11
      rw [spAt_first I hi ho1, show oN (some n) = V.int (n : Int) from rfl]
      walk_at "rd"
      rw [vT rfl]
      walk_at "rd"
      refine ⟨x, r, ds, sps, sp.rcv, rfl, ta.mono S11, rn, fun H12 o2 s12 ho2 => ?_⟩
      have S12 := S11.trans s12
      rw [spAt_rcv I hi ho2, show oN none = V.non from rfl]
      walk_at "rd"
      have fb := F.ok.fb
      refine ⟨x, r, ds, sps, sp.first, rfl, ta.mono S12, rok, F.ok.f0, by omega, fun H13 o3 s13 ho3 => ?_⟩
      have S13 := S12.trans s13
      rw [fstM_self rok F.ok.fin] at ho3
      have e3 : fsM r sps sp.first o3 = sp.rcv := by
        rw [spAt_first I hi ho3]
        show rcvAt sps n = sp.rcv
        unfold rcvAt
        rw [hi]
        rfl
      walk_at "rd"
      rw [vT e3]
      walk_at "rd"
      refine ⟨x, r, ds, sps, n, 0, sp, _, rfl, ta.mono S13, ok, hi, tok.zero, fun H14 p l1 s14 hp hl1 tp => ?_⟩
      have S14 := S13.trans s14
      have W0 := win_ok F tok tok.zero
      refine ⟨p, l1, _, rfl, tp, by have := W0.len; omega, fun H15 s15 => ?_⟩
      have S15 := S14.trans s15
      rw [arr_count rok F tok, show cV (some ((sp.rcv - sp.first) / r.pace)) = V.int ((sp.rcv - sp.first) / r.pace) from rfl]
      have ry15 := S15 _ _ hr1
      have p1 := rok.p1
      have p2 := rok.p2
      have lw := LW_LB
      have lbg := LW_big
      walk_at "rd"
      refine ⟨ry, dr, _, rfl, ry15, rfl, _, r, rfl, ra.mono S15, ?_⟩
      walk_at "rd"
      rw [vT rfl]
      walk_at "rd"
      exact ⟨s9.trans (s10.trans (s11.trans (s12.trans (s13.trans (s14.trans s15))))), _, _, _, _, _, rfl⟩
    · rintro σ H8 ⟨s8, x5, x6, x7, x8, x9, rfl⟩
      have S8 := S7.trans s8
      refine ⟨_, rfl, x, dxL, _, rfl, S8 _ _ h1, x, r, ds, sps, rfl, ta.mono S8, _, rfl, by omega, by omega, ?_⟩
      walk_at "rd"
      by_cases c : (sps.length : Int) = 0
      · rw [vT c]
        walk_at "rd"
        exact fin H8 S8
      · rw [vF c]
        walk_at "rd"
        refine ⟨x, dl, .ref ry, r, ds, us, rfl, by rw [hsp]; exact ta.mono S8, rok, ra.mono S8, S8 _ _ hdl, hus.mono S8, hd, dlen, by rw [hsp]; intro q; rw [q] at c; exact c rfl, fun H' s' => fin H' (S8.trans s')⟩
def sp_lLaw (K : PySem.W.Frag) : Sp := fun vs H Q _ => ∃ (a : Addr) (ns : List Int), vs = [.ref a] ∧ SqL K H a (ns.map V.int) ∧ ns.length ≤ 1000 ∧ ∀ H', Q (.bl true) H'
theorem sc_lLaw : FnScope ["_law_script", "_law_cell"] ["_law_script"] (defScope s_lLaw) := ⟨rfl, rfl, rfl, by decide +kernel, rfl, by decide +kernel, by decide +kernel⟩
theorem ok_lLaw (T : Tx K mg) : ∃ fd : FuncData, (∀ (s : Shared) (v : Value), BindsTo s fd ⟨[v], []⟩ [("_law_script", v)]) ∧ ∀ base : Heap, FnOk P w K mg base CX0 17 (He.ga K "law") fd ["_law_script"] (sp_lLaw K) := by
  obtain ⟨fd, F⟩ := T.f_lLaw
  have b := FunD.bindsA (ps := ["_law_script"]) F fun _ _ _ _ _ _ us hl => match us, hl with | [_], _ => rfl
  refine ⟨fd, fun s v => b s [v] rfl, fun base => F.ok sc_lLaw (fun vs H Q E h => ?_) (fun cdv A outer s H vs Q E hr h => ?_)⟩
  · obtain ⟨a, ns, rfl, ha, len, k⟩ := h
    rfl
  · obtain ⟨a, ns, rfl, ha, len, k⟩ := h
    refine ⟨_, PSs.nox (pss_cons (ps_for PassesOwn.never rfl (pi_list (pe_op op_cat (pe_slice sl_list (pv 0) po_none (po_some (pe_int))) (pe_lst (pa_cons (pe_int) pa_nil)))) (pg_name (i := 1) sc_lLaw.nd rfl (Or.inl rfl)) (pss_one (ps_if (pt_not (pt_val (pe_callF (ok_lRig T) (hr.mono (by decide)) T.g_lRig (pa_cons (pe_callF (ok_lWel T) (hr.mono (by decide)) T.g_lWel (pa_cons (pv 1) pa_nil)) pa_nil)))) (pss_one (ps_ret (pe_bl))) pss_nil)))
      (pss_one (ps_ret (pe_bl)))), ?_⟩
    obtain ⟨ms, ems, mlen⟩ : ∃ ms : List Int, cutV (ns.map V.int) none (some 3) = ms.map V.int ∧ ms.length ≤ ns.length := by
      unfold cutV
      rw [← List.map_drop, ← List.map_take]
      exact ⟨_, rfl, by rw [List.length_take, List.length_drop]; omega⟩
    refine ⟨_, rfl, _, rfl, a, _, rfl, ha, fun g hg => ?_⟩
    rw [ems]
    have g1 : upd H g (.lst (ms.map V.int)) g = some (.lst (ms.map V.int)) := upd_same
    generalize upd H g (.lst (ms.map V.int)) = H1 at *
    refine ⟨sl1, fun z hz => ?_⟩
    have g2 := Same.new (o := .lst [.int 0]) hz _ _ g1
    have z2 : upd H1 z (.lst [.int 0]) z = some (.lst [.int 0]) := upd_same
    generalize upd H1 z (.lst [.int 0]) = H2 at *
    refine ⟨g, z, _, [.int 0], rfl, rfl, g2, z2, ?_, fun L hL => ?_⟩
    · rw [List.length_map]
      exact Nat.le_trans (m := 1001) (by show ms.length + 1 ≤ 1001; omega) (Nat.le_trans (by decide) slM)
    have L3 : upd H2 L (.lst (ms.map V.int ++ [.int 0])) L = some (.lst ((ms ++ [0]).map V.int)) := by rw [upd_same, List.map_append]; rfl
    generalize upd H2 L (.lst (ms.map V.int ++ [.int 0])) = H3 at *
    refine ⟨_, rfl, ⟨_, SqL.of L3⟩, ?_⟩
    refine for_it walk_list (fun _ σ H' => H' L = some (.lst ((ms ++ [0]).map V.int)) ∧ ∃ x1, σ = [some (.ref a), x1]) ⟨L3, _, rfl⟩ (fun _ σ H' _ h => SqL.of h.1) ?_ ?_
    · rintro i y σ H4 H5 hi ⟨L4, x1, rfl⟩ ⟨rfl, hy⟩
      obtain ⟨c, rfl⟩ : ∃ c, y = .int c := by
        rw [List.getElem?_map] at hy
        obtain ⟨c, _, h⟩ := Option.map_eq_some_iff.mp hy
        exact ⟨c, h.symm⟩
      refine ⟨_, rfl, c, rfl, fun av wl a0 hw => ?_⟩
      have Lw : L ≠ wl := ne_of_none L4 hw
      refine ⟨wl, rfl, ⟨av, c, 0, upd_same, Int.le_refl 0, Int.le_refl 0, by decide⟩, fun H6 s6 => ?_⟩
      have L6 := hide_same _ _ (s6 _ _ (show hide wl _ L = some (.lst ((ms ++ [0]).map V.int)) by rw [hide_ne Lw, upd_ne Lw]; exact L4))
      walk_at "rd"
      exact ⟨L6, _, rfl⟩
    · rintro σ H4 ⟨L4, x1, rfl⟩
      exact k H4
end

theorem facts {P : Program} {w : World} {K : PySem.W.Frag} {h : Heap} {mg : Str → Option Value} {f : Addr} (X : K.In h) (G : h.Ns mainGlobals mg) (hfa : mg ("law" : Str) = some (.ref f)) (c : He.SaysX fa fn [] [] ex w h K) :
    ∃ fd : FuncData, (∀ (s : Shared) (v : Value), BindsTo s fd ⟨[v], []⟩ [("_law_script", v)]) ∧ ∀ base : Heap, FnOk P w K mg base CX0 17 f fd ["_law_script"] (sp_lLaw K) := by
  have T : Tx K mg := ⟨c.t.d, c.more, h, X, G⟩
  have e := hfa.symm.trans T.g_lLaw
  cases e
  exact ok_lLaw T
end Br

open PySem PySem.W PySem.Calls PyProof.Rows
theorem PySem.Challenge.cw_breakerrow_k21_whole_great_outages_holds : PySem.Challenge.rw_breakerrow_k21_whole_great_outages.Holds := by
  w_on; o_law
  refine HandSHeadRun.head_any (r := OpenLaw.row PySem.Challenge.rw_breakerrow_k21_whole_great_outages) (q := view (OpenLaw.row PySem.Challenge.rw_breakerrow_k21_whole_great_outages).prog [81]) (H := Br.hk) (ob := Br.ob) (M := 8000) (loose := Br.names)
    (d := HandSHeadRun.topDef (OpenLaw.row PySem.Challenge.rw_breakerrow_k21_whole_great_outages).prog 81) (kwd := []) Br.ob_eq
    (by kernel_rfl) (fun s => by kernel_rfl) Br.run (by kernel_rfl) (by kernel_rfl) (by kernel_rfl) (by rfl) (by first | assumption | decide +kernel) (by decide +kernel) ⟨rfl, rfl, rfl, rfl, rfl, by decide +kernel⟩ ?hw ?hc
  case hw => w_witness2
  case hc =>
    refine L2.walk_ofE (l := PySem.Challenge.rw_breakerrow_k21_whole_great_outages) (n := 63) (k := 17) (x := "_law_script") (CX := L2.CX0) rfl (by decide) (by kernel_rfl) ⟨rfl, by decide, by decide⟩ ?F (fun _ _ _ _ z => z)
    intro w mg fa h Y G hmg0
    obtain ⟨K, KX, c⟩ := Y
    have hmg : mg ("law" : PySem.Str) = some (.ref fa) := by
      have e : (HandSHeadRun.topDef (OpenLaw.row PySem.Challenge.rw_breakerrow_k21_whole_great_outages).prog 81).name = ("law" : PySem.Str) := by kernel_rfl
      rw [← e]
      exact hmg0
    obtain ⟨fd, hb, hF⟩ := Br.facts (P := (PySem.Challenge.rw_breakerrow_k21_whole_great_outages).prog) (w := w) KX G hmg c
    exact ⟨K, fd, Br.sp_lLaw K, KX, hb, fun H a ns hl _ hS => ⟨a, ns, rfl, hS, by omega, fun _ => rfl⟩, fun base _ _ => hF base⟩
