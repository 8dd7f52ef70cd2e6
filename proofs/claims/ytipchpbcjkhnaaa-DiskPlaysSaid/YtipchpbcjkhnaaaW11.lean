/- Walks. -/
import Derived.Test.YtipchpbcjkhnaaaT
import Derived.Test.YtipchpbcjkhnaaaW2
namespace Go.Proofs.Ytipchpbcjkhnaaa
open Go Fw
set_option linter.unusedVariables false
set_option maxRecDepth 100000
set_option maxHeartbeats 4000000

theorem ZbQ (k : Nat) (qo1 : Int) (qb2 : Int) (qg3 : Int) (qh4 : Bool) (qd5 : Int) (x7 : (List ((List UInt8) × Zaf))) (qc10 : Int) (ql11 : Int) (qj12 : Bool) (qe13 : Int) (x15 : (List Zah)) (gb6 : Nat) (go8 : Option Nat) (qm9 : ((List UInt8) → Nat)) (gb14 : Nat) (go16 : Option Nat) (gc17 : Nat) (r : Bool) (hm : law05_once_ppv_smvvvvmsovvvv k qo1 qb2 qg3 qh4 qd5 x7 qc10 ql11 qj12 qe13 x15 = some r) : Sim Try.prog 43 [PTR gb6 0,PTR gb14 0,S (rI .i64) qo1] [cvar gb6 (zq1 go8) ((),(qb2,(qg3,(qh4,(qd5,()))))),cqm go8 (S rS) Zaa qm9 (some x7),zq16 gb14 go16 x15 gc17 qc10 ql11 qj12 qe13,cown go16 Zab x15 0 gc17] (γ:=Unit) (fun q=>[cvar gb6 (zq1 go8) ((),(qb2,(qg3,(qh4,(qd5,()))))),cqm go8 (S rS) Zaa qm9 (some x7),zq16 gb14 go16 x15 gc17 qc10 ql11 qj12 qe13,cown go16 Zab x15 0 gc17]) (fun q=>.one (.val (S rB r))):=by
 unfold law05_once_ppv_smvvvvmsovvvv at hm
 refine Sim.of Try.func43 rfl rfl (lE rfl) (fun e0 w0=>?_)
 refine JC.at ⟨[(0,ov (PTR gb6 0)),(1,ov (PTR gb14 0)),(2,ov (S (rI .i64) qo1))],[cvar gb6 (zq1 go8) ((),(qb2,(qg3,(qh4,(qd5,()))))),cqm go8 (S rS) Zaa qm9 (some x7),zq16 gb14 go16 x15 gc17 qc10 ql11 qj12 qe13,cown go16 Zab x15 0 gc17],[]⟩<|jr<|jx (Zd6 lb tR) fun gb18=>jx (ZdT lb tR) fun gb19=>jx (Zcd lb tZ4 zr4) fun gb20=>jn<|jr<|jx (Zcd lb tZ3 zr3) fun gb21=>JL.sub ⟨[(0,ov (PTR gb6 0)),(4,ov (PTR gb18 0)),(5,ov (PTR gb19 0)),(6,ov (PTR gb20 0)),(7,ov (PTR gb21 0))],[cvar gb6 (zq1 go8) ((),(qb2,(qg3,(qh4,(qd5,()))))),cqm go8 (S rS) Zaa qm9 (some x7),zq16 gb14 go16 x15 gc17 qc10 ql11 qj12 qe13,cown go16 Zab x15 0 gc17,cvar gb18 (rW (PTR gb14 0)) (),cvar gb19 (rI .i64) qo1,cvar gb20 rB false,cvar gb21 (rI .i64) (0 : Int)],[]⟩ (.cons rfl (.cons rfl (.cons rfl (.cons rfl (.cons rfl .nil))))) rfl rfl<|jc (ZaL (j:=7) tS3 tR .cI rfl rfl (UpdR.self (by rfl)) rfl)<|jn<|jr<|jmv rfl rfl ?_
 obtain ⟨⟨v22,x23⟩,hv22,hm⟩:=Zas hm
 refine jx (Zak (js:=[0,0]) ld cl15 (ZbJ k qb2 qg3 qh4 qd5 x7 gb6 go8 qm9 (v22,x23) hv22) .func (.cons tR .nil) rfl) (fun q=>?_)
 obtain ⟨gb24,go25,gc26,gb27,go28,gc29⟩:=q
 refine jc (Zac lb tR)<|jn<|JC.seq<|jr<|jmv rfl rfl<|jc (Zh0 (neg:=false) lb un41 tR (HasO.const (p:=NILF) fun _=>rfl))<|jn<|JC.condF tR rfl<|JC.skip<|JQ.then<|bI hm fun tv1 hx1 hq1=>JC.seqK (α:=Int) (γ:=List Nat) (stj:=fun v q=>⟨[(4,ov (PTR gb18 0)),(6,ov (PTR gb20 0)),(7,ov (PTR gb21 0))],[cvar gb18 (rW (PTR gb14 0)) (),zq16 gb14 go16 x15 gc17 qc10 ql11 qj12 qe13,cown go16 Zab x15 0 gc17,cvar gb20 rB false,cvar gb21 (rI .i64) v,cvar gb6 (zq1 go8) ((),(qb2,(qg3,(qh4,(qd5,()))))),cqm go8 (S rS) Zaa qm9 (some x7),Zcq q],q⟩) (p:=fun v=>tv1 = (.inl v)) (fun v q hv=>?_) ?_
 · subst hv
   obtain ⟨n47,hvv⟩ : ∃ z,z = v:=⟨_,rfl⟩
   subst hvv
   obtain ⟨gK48,hqq⟩ : ∃ z,z = q:=⟨_,rfl⟩
   subst hqq
   dsimp only at hq1
   refine JC.at ⟨[(4,ov (PTR gb18 0)),(6,ov (PTR gb20 0)),(7,ov (PTR gb21 0))],[cvar gb18 (rW (PTR gb14 0)) (),zq16 gb14 go16 x15 gc17 qc10 ql11 qj12 qe13,cown go16 Zab x15 0 gc17,cvar gb20 rB false,cvar gb21 (rI .i64) n47,cvar gb6 (zq1 go8) ((),(qb2,(qg3,(qh4,(qd5,()))))),cqm go8 (S rS) Zaa qm9 (some x7),Zcq gK48],gK48⟩<|JC.seq ?_
   obtain ⟨v49,hv49,hq1⟩:=Za2 hq1
   refine JC.anyF (base:=[(4,ov (PTR gb18 0)),(6,ov (PTR gb20 0)),(7,ov (PTR gb21 0))])
       (fs:=fun γ=>[⟨some 55,ov (S (rI .i64) n47)⟩,⟨some 56,ov (PTR gb14 0)⟩,⟨some 57,ov (PTR gb14 0)⟩,⟨some 58,ov (PTR gb14 (0 + 0))⟩,⟨some 59,ov (HDR go16 0 (List.length x15) gc17)⟩,⟨some 60,ov (S (rI .i64) (List.length x15 : Int))⟩,⟨some 61,ov (S rB v49)⟩,⟨none,.one .any⟩])
       (rs:=fun γ=>[⟨cvar gb18 (rW (PTR gb14 0)) (),none,none,[1]⟩,⟨zq16 gb14 go16 x15 gc17 qc10 ql11 qj12 qe13,none,none,[4]⟩,⟨cown go16 Zab x15 0 gc17,none,none,[]⟩,⟨cvar gb20 rB false,none,(some 7),[]⟩,⟨cvar gb21 (rI .i64) n47,none,none,[0]⟩,⟨cvar gb6 (zq1 go8) ((),(qb2,(qg3,(qh4,(qd5,()))))),none,none,[]⟩,⟨cqm go8 (S rS) Zaa qm9 (some x7),none,none,[]⟩,⟨Zcq gK48,none,none,[]⟩,⟨cvar gb20 rB v49,(some 7),none,[]⟩])
       (afts:=nn 8) (js:=[0,0,0,0,0,0,0,0]) mixed (.cons rfl (.cons rfl (.cons rfl .nil))) (fun _=>rfl)
       (by
      refine dR 1 (fun γ ρ B hb hd=>Zag.lk ⟨ρ,(cvar gb21 (rI .i64) n47)::B,_⟩ (Zam (j:=0) lb tS3 (.tmp (hb 7 _ rfl)) rfl (Comp.self (rI .i64) n47) rfl rfl))<|dR 2 (fun γ ρ B hb hd=>Zag.lk ⟨ρ,(cvar gb18 (rW (PTR gb14 0)) ())::B,_⟩ (Zal (j:=0) lb tS45 (.tmp (hb 4 _ rfl)) rfl (Comp.self (rW (PTR gb14 0)) ())))<|dS 3 (fun γ ρ B hb hd=>Zae lb (tl hd 1 56) (fun e v h=>by subst h; rfl))<|dS 4 (fun γ ρ B hb hd=>Zad (off:=0) lb Za6 (tl hd 2 57))<|dR 5 (fun γ ρ B hb hd=>Zag.lk ⟨ρ,(zq16 gb14 go16 x15 gc17 qc10 ql11 qj12 qe13)::B,_⟩ (Zal (j:=0) lb tS46 (tl hd 3 58) rfl (Comp.trans (Comp.self (zq10 go16 x15 gc17) ((),(qc10,(ql11,(qj12,(qe13,())))))) (Comp.at' (Comp.inF (Comp.self (rW (HDR go16 0 (List.length x15) gc17)) ()) (lE rfl)) (by rfl : _ = 0)) (lE rfl)))) ?_
      refine dS 6 (fun γ ρ B hb hd=>Zb2 lb tu46 (tl hd 4 59))<|dS 7 (fun γ ρ B hb hd=>Zan lb (tl hd 0 55) (tl hd 5 60) (cs hv49))<|dR 8 (fun γ ρ B hb hd=>Zag.at ⟨ρ,(cvar gb20 rB false)::B,_⟩ (setO ⟨ρ,(cvar gb20 rB v49)::B,_⟩ _ _) (ZaL (j:=0) tS4 (.tmp (hb 6 _ rfl)) (tl hd 6 61) rfl rfl (UpdR.self (by rfl)) rfl)) ?_
      exact Zat.nil)
       (by decide +kernel) (fun _=>rfl) (fun _=>rfl) (fun _=>rfl) rfl
       (ρ':=fun γ=>[(6,ov (PTR gb20 0))])
       (X':=fun γ=>[cvar gb18 (rW (PTR gb14 0)) (),zq16 gb14 go16 x15 gc17 qc10 ql11 qj12 qe13,cown go16 Zab x15 0 gc17,cvar gb21 (rI .i64) n47,cvar gb6 (zq1 go8) ((),(qb2,(qg3,(qh4,(qd5,()))))),cqm go8 (S rS) Zaa qm9 (some x7),Zcq gK48,cvar gb20 rB v49])
       (fun γ ρ hb hd=>(.cons (hb 6 _ rfl) .nil)) (fun _=>rfl) (fun γ=>?_)
   refine JQ.at ⟨[(6,ov (PTR gb20 0))],[cvar gb18 (rW (PTR gb14 0)) (),zq16 gb14 go16 x15 gc17 qc10 ql11 qj12 qe13,cown go16 Zab x15 0 gc17,cvar gb21 (rI .i64) n47,cvar gb6 (zq1 go8) ((),(qb2,(qg3,(qh4,(qd5,()))))),cqm go8 (S rS) Zaa qm9 (some x7),Zcq gK48,cvar gb20 rB v49],gK48⟩<|JQ.then<|JC.ret ?_
   obtain rfl:=so hq1
   exact JQ.doneL (j:=6) (js:=[4,4,1,1]) (ss:=[.val (S rB v49)]) () (.inl rfl) rfl rfl (.cons (.cellS (j:=6) tS4 rfl rfl rfl) .nil) rfl rfl rfl
 refine jr<|jmv rfl rfl<|jn<|JC.block<|bI hx1 fun tv2 hL2 hq2=>JC.pre (Imp.var (j:=6) (q:=(zq10 go16 x15 gc17)) (y:=((),(qc10,(ql11,(qj12,(qe13,())))))) rfl Wk.refl) ?_
 refine JC.pre (st':=⟨[(4,ov (PTR gb18 0)),(5,ov (PTR gb19 0)),(6,ov (PTR gb20 0)),(7,ov (PTR gb21 0)),(15,ov (CLO 40 [PTR gb24 0,PTR gb27 0]))],[cvar gb24 (rW (HDR go25 0 (List.length v22) gc26)) (),cown go25 rS v22 0 gc26,cvar gb27 (rW (HDR go28 0 (List.length x23) gc29)) (),cown go28 (rI .i64) x23 0 gc29,cvar gb18 (rW (PTR gb14 0)) (),zq16 gb14 go16 x15 gc17 qc10 ql11 qj12 qe13,cown go16 Zab x15 0 gc17,cvar gb19 (rI .i64) qo1,cvar gb20 rB false,cvar gb21 (rI .i64) (0 : Int),cvar gb6 (zq1 go8) ((),(qb2,(qg3,(qh4,(qd5,()))))),cqm go8 (S rS) Zaa qm9 (some x7)],[]⟩) (Imp.norm (js:=[0,0,0,0,4,2,2,2,2,2,0,0]) rfl (.cons rfl (.cons rfl (.cons rfl (.cons rfl (.cons rfl .nil)))))) ?_
 replace hx1:=hq2
 refine JC.rangeFunc (γ:=Unit) (γ':=(Unit)) (r:=tv2) (js:=[0,0,0,0]) (qf:=fun g=>g) (X':=fun g=>[cvar gb24 (rW (HDR go25 0 (List.length v22) gc26)) (),cown go25 rS v22 0 gc26,cvar gb27 (rW (HDR go28 0 (List.length x23) gc29)) (),cown go28 (rI .i64) x23 0 gc29]) (sv:=fun _=>.tup [])
     (fun (u : (List UInt8) × Int) (z : Unit)=>[S rS u.1,S (rI .i64) u.2]) (fun (u : (List UInt8) × Int) (z : Unit)=>[]) (fun (s : Int) (u : (List UInt8) × Int)=>law05_once_ppv_smvvvvmsovvvv.y1 k x15 qo1 s u.1 u.2) (fun (s : Int) q=>[cvar gb18 (rW (PTR gb14 0)) (),zq16 gb14 go16 x15 gc17 qc10 ql11 qj12 qe13,cown go16 Zab x15 0 gc17,cvar gb19 (rI .i64) qo1,cvar gb20 rB false,cvar gb21 (rI .i64) s,cvar gb6 (zq1 go8) ((),(qb2,(qg3,(qh4,(qd5,()))))),cqm go8 (S rS) Zaa qm9 (some x7)]) (fun (t : (Bool × Int)) q=>[cvar gb20 rB t.1,cvar gb6 (zq1 go8) ((),(qb2,(qg3,(qh4,(qd5,()))))),cqm go8 (S rS) Zaa qm9 (some x7),zq16 gb14 go16 x15 gc17 qc10 ql11 qj12 qe13,cown go16 Zab x15 0 gc17,cvar gb18 (rW (PTR gb14 0)) (),cvar gb19 (rI .i64) qo1,cvar gb21 (rI .i64) t.2]) (fun (t : (Bool × Int))=>.ret) [(4,ov (PTR gb18 0)),(5,ov (PTR gb19 0)),(6,ov (PTR gb20 0)),(7,ov (PTR gb21 0))] (0 : Int) () rfl tR cl40 rfl (.cons rfl (.cons rfl (.cons rfl (.cons rfl .nil)))) (fun _ _=>rfl) (by decide) rfl ?_ (fun L C hY=>ZbK k (fun (s : Int) (u : (List UInt8) × Int)=>law05_once_ppv_smvvvvmsovvvv.y1 k x15 qo1 s u.1 u.2) (Sum.inl (0 : Int)) v22 x23 () gb24 go25 gc26 gb27 go28 gc29 L C hY tv2 hL2) ?_ ?_
 · intro e1 w1 F1 L K lp s q u z y hx hlp
   obtain ⟨n30,hvv⟩ : ∃ z,z = s:=⟨_,rfl⟩
   subst hvv
   obtain ⟨a31,a32⟩:=u
   change law05_once_ppv_smvvvvmsovvvv.y1 k x15 qo1 n30 a31 a32 = some y at hx
   unfold law05_once_ppv_smvvvvmsovvvv.y1 at hx
   refine JC.at ⟨[(16,ov (S rS a31)),(17,ov (S (rI .i64) a32)),(4,ov (PTR gb18 0)),(5,ov (PTR gb19 0)),(6,ov (PTR gb20 0)),(7,ov (PTR gb21 0))],[cLK L K (.loop lp),cvar gb18 (rW (PTR gb14 0)) (),zq16 gb14 go16 x15 gc17 qc10 ql11 qj12 qe13,cown go16 Zab x15 0 gc17,cvar gb19 (rI .i64) qo1,cvar gb20 rB false,cvar gb21 (rI .i64) n30,cvar gb6 (zq1 go8) ((),(qb2,(qg3,(qh4,(qd5,()))))),cqm go8 (S rS) Zaa qm9 (some x7)],[]⟩<|jr<|jc (Zac lb tR)<|jn<|JC.region<|jc (Zac lb tR)<|JL.nil<|JQ.begin (j:=0) hlp rfl<|JC.block<|JC.seq<|bI hx fun x40 hx3 hq3=>JC.seqJ (γ:=Unit) (stj:=fun _=>⟨[(5,ov (PTR gb19 0)),(6,ov (PTR gb20 0)),(7,ov (PTR gb21 0)),(49,ov (S rB x40))],[cvar gb19 (rI .i64) qo1,cvar gb20 rB false,cvar gb21 (rI .i64) n30,cvar gb6 (zq1 go8) ((),(qb2,(qg3,(qh4,(qd5,()))))),cqm go8 (S rS) Zaa qm9 (some x7),zq16 gb14 go16 x15 gc17 qc10 ql11 qj12 qe13,cown go16 Zab x15 0 gc17,cvar gb18 (rW (PTR gb14 0)) (),cLK L K (.loop { lp with state:=.busy })],[]⟩) (fun _=>?_) ?_
   · refine jif tR hq3 (fun hc16 hq3=>?_) (fun hc16 hq3=>?_)
     · exact jr<|jc (ZaL (j:=1) tS4 tR .cB rfl rfl (UpdR.self (by rfl)) rfl)<|jn<|JC.ret<|JQ.outR<|JQ.outRB<|JQ.rret () (Option.some.inj hq3).symm rfl (Imp.norm (js:=[8,1,2,2,2,2,2,0,0]) rfl .nil)
     refine JC.skip<|JQ.then<|jr<|jc (Zam (j:=2) lb tS3 tR rfl (Comp.self (rI .i64) n30) rfl rfl)<|lI hq3 fun v41 hv41 hq3=>jc (Zbx lb tR .cI (cs hv41))<|jc (ZaL (j:=2) tS3 tR tR rfl rfl (UpdR.self (by rfl)) rfl)<|jn<|jr<|jc (Zam (j:=2) lb tS3 tR rfl (Comp.self (rI .i64) v41) rfl rfl)<|jc (Zam (j:=0) lb tS3 tR rfl (Comp.self (rI .i64) qo1) rfl rfl)<|lI hq3 fun v42 hv42 hq3=>jc (Zan lb tR tR (cs hv42))<|jn<|jif tR hq3 (fun hc17 hq3=>?_) (fun hc17 hq3=>?_)
     · exact jr<|jc (ZaL (j:=1) tS4 tR .cB rfl rfl (UpdR.self (by rfl)) rfl)<|jn<|JC.ret<|JQ.outRB<|JQ.rret () (Option.some.inj hq3).symm rfl (Imp.norm (js:=[8,1,2,2,2,2,2,0,0]) rfl .nil)
     exact JC.skip<|JQ.outNB<|JQ.rnext () (Option.some.inj hq3).symm (Imp.norm (js:=[8,7,5,5,0,0,0,0,0]) rfl .nil)
   obtain ⟨v33,hv33,hx3⟩:=Za2 hx3
   rcases Zbc hx3 with ⟨hc9,hx3⟩ | ⟨hc9,hx3⟩
   · refine JC.anyF (base:=[(4,ov (PTR gb18 0)),(5,ov (PTR gb19 0)),(6,ov (PTR gb20 0)),(7,ov (PTR gb21 0)),(9,ov (S rS a31))])
         (fs:=fun γ=>[⟨some 18,ov (S (rI .i64) n30)⟩,⟨some 19,ov (PTR gb14 0)⟩,⟨some 20,ov (PTR gb14 0)⟩,⟨some 21,ov (PTR gb14 (0 + 0))⟩,⟨some 22,ov (HDR go16 0 (List.length x15) gc17)⟩,⟨some 23,ov (S (rI .i64) (List.length x15 : Int))⟩,⟨some 24,ov (S rB v33)⟩,⟨some 25,ov (S rB v33)⟩,⟨some 26,bif (!v33) then ov (S rS a31) else .one .und⟩,⟨some 27,bif (!v33) then ov (PTR gb14 0) else .one .und⟩,⟨some 28,bif (!v33) then ov (PTR gb14 0) else .one .und⟩,⟨some 29,bif (!v33) then ov (PTR gb14 (0 + 0)) else .one .und⟩,⟨some 30,.one .und⟩,⟨some 31,.one .und⟩,⟨some 32,.one .und⟩,⟨some 33,.one .und⟩,⟨some 34,.one .und⟩,⟨some 35,.one .und⟩,⟨some 36,ov (S rB true)⟩,⟨some 37,ov (S rB true)⟩,⟨some 38,.one .und⟩,⟨some 39,.one .und⟩,⟨some 40,.one .und⟩,⟨some 41,.one .und⟩,⟨some 42,.one .und⟩,⟨some 43,.one .und⟩,⟨some 44,.one .und⟩,⟨some 45,.one .und⟩,⟨some 46,.one .und⟩,⟨some 47,.one .und⟩,⟨some 48,.one .und⟩,⟨some 49,ov (S rB true)⟩])
         (rs:=fun γ=>[⟨cLK L K (.loop { lp with state:=.busy }),none,none,[]⟩,⟨cvar gb18 (rW (PTR gb14 0)) (),none,none,[1,9]⟩,⟨zq16 gb14 go16 x15 gc17 qc10 ql11 qj12 qe13,none,none,[4]⟩,⟨cown go16 Zab x15 0 gc17,none,none,[]⟩,⟨cvar gb19 (rI .i64) qo1,none,none,[]⟩,⟨cvar gb20 rB false,none,none,[]⟩,⟨cvar gb21 (rI .i64) n30,none,none,[0]⟩,⟨cvar gb6 (zq1 go8) ((),(qb2,(qg3,(qh4,(qd5,()))))),none,none,[]⟩,⟨cqm go8 (S rS) Zaa qm9 (some x7),none,none,[]⟩])
         (afts:=nn 32) (js:=[0,0,0,0,0,0,0,0,0]) mixed (.cons rfl (.cons rfl (.cons rfl (.cons rfl (.cons rfl .nil))))) (fun _=>rfl)
         (by
      refine dR 1 (fun γ ρ B hb hd=>Zag.lk ⟨ρ,(cvar gb21 (rI .i64) n30)::B,_⟩ (Zam (j:=0) lb tS3 (.tmp (hb 7 _ rfl)) rfl (Comp.self (rI .i64) n30) rfl rfl))<|dR 2 (fun γ ρ B hb hd=>Zag.lk ⟨ρ,(cvar gb18 (rW (PTR gb14 0)) ())::B,_⟩ (Zal (j:=0) lb tS45 (.tmp (hb 4 _ rfl)) rfl (Comp.self (rW (PTR gb14 0)) ())))<|dS 3 (fun γ ρ B hb hd=>Zae lb (tl hd 1 19) (fun e v h=>by subst h; rfl))<|dS 4 (fun γ ρ B hb hd=>Zad (off:=0) lb Za6 (tl hd 2 20))<|dR 5 (fun γ ρ B hb hd=>Zag.lk ⟨ρ,(zq16 gb14 go16 x15 gc17 qc10 ql11 qj12 qe13)::B,_⟩ (Zal (j:=0) lb tS46 (tl hd 3 21) rfl (Comp.trans (Comp.self (zq10 go16 x15 gc17) ((),(qc10,(ql11,(qj12,(qe13,())))))) (Comp.at' (Comp.inF (Comp.self (rW (HDR go16 0 (List.length x15) gc17)) ()) (lE rfl)) (by rfl : _ = 0)) (lE rfl)))) ?_
      refine dS 6 (fun γ ρ B hb hd=>Zb2 lb tu46 (tl hd 4 22))<|dS 7 (fun γ ρ B hb hd=>Zan lb (tl hd 0 18) (tl hd 5 23) (cs hv33))<|dm 8 6 24 ?_
      refine dF 9 7 25 v33 (fun γ=>ov (S rS a31)) (fun γ ρ B hb hd hq4=>Zai lb (.tmp (hb 9 _ rfl))) ?_
      refine eF 10 7 25 v33 (fun γ=>ov (PTR gb14 0)) (fun γ ρ B hb hd hq5=>Zag.lk ⟨ρ,(cvar gb18 (rW (PTR gb14 0)) ())::B,_⟩ (Zal (j:=0) lb tS45 (.tmp (hb 4 _ rfl)) rfl (Comp.self (rW (PTR gb14 0)) ()))) ?_
      refine dF 11 7 25 v33 (fun γ=>ov (PTR gb14 0)) (fun γ ρ B hb hd hq6=>Zae lb (HasO.cnd (tl hd 9 27) (notT (notF hq6))) (fun e v h=>by subst h; rfl)) ?_
      refine dF 12 7 25 v33 (fun γ=>ov (PTR gb14 (0 + 0))) (fun γ ρ B hb hd hq7=>Zad (off:=0) lb Za6 (HasO.cnd (tl hd 10 28) (notT (notF hq7)))) ?_
      refine kn 13 7 25 rfl hc9<|kn 14 7 25 rfl hc9<|kn 15 7 25 rfl hc9<|kn 16 7 25 rfl hc9<|kn 17 7 25 rfl hc9 ?_
      refine kn 18 7 25 rfl hc9<|dS 19 (fun γ ρ B hb hd=>Zaw lb (tl hd 7 25) hc9 .cB)<|dm 20 18 36<|kn 21 19 37 rfl rfl<|kn 22 19 37 rfl rfl ?_
      refine kn 23 19 37 rfl rfl<|kn 24 19 37 rfl rfl<|kn 25 19 37 rfl rfl<|kn 26 19 37 rfl rfl<|kn 27 19 37 rfl rfl ?_
      refine kn 28 19 37 rfl rfl<|kn 29 19 37 rfl rfl<|kn 30 19 37 rfl rfl<|kn 31 19 37 rfl rfl<|dS 32 (fun γ ρ B hb hd=>Zaw lb (tl hd 19 37) rfl .cB) ?_
      exact Zat.nil)
         (by decide +kernel) (fun _=>rfl) (fun _=>rfl) (fun _=>rfl) rfl
         (ρ':=fun γ=>[(5,ov (PTR gb19 0)),(6,ov (PTR gb20 0)),(7,ov (PTR gb21 0)),(49,ov (S rB true))])
         (X':=fun γ=>[cLK L K (.loop { lp with state:=.busy }),cvar gb18 (rW (PTR gb14 0)) (),zq16 gb14 go16 x15 gc17 qc10 ql11 qj12 qe13,cown go16 Zab x15 0 gc17,cvar gb19 (rI .i64) qo1,cvar gb20 rB false,cvar gb21 (rI .i64) n30,cvar gb6 (zq1 go8) ((),(qb2,(qg3,(qh4,(qd5,()))))),cqm go8 (S rS) Zaa qm9 (some x7)])
         (fun γ ρ hb hd=>(.cons (hb 5 _ rfl) (.cons (hb 6 _ rfl) (.cons (hb 7 _ rfl) (.cons (hdq hd 31 49 rfl) .nil))))) (fun _=>rfl) (fun γ=>?_)
     refine JQ.at ⟨[(5,ov (PTR gb19 0)),(6,ov (PTR gb20 0)),(7,ov (PTR gb21 0)),(49,ov (S rB true))],[cLK L K (.loop { lp with state:=.busy }),cvar gb18 (rW (PTR gb14 0)) (),zq16 gb14 go16 x15 gc17 qc10 ql11 qj12 qe13,cown go16 Zab x15 0 gc17,cvar gb19 (rI .i64) qo1,cvar gb20 rB false,cvar gb21 (rI .i64) n30,cvar gb6 (zq1 go8) ((),(qb2,(qg3,(qh4,(qd5,()))))),cqm go8 (S rS) Zaa qm9 (some x7)],[]⟩ ?_
     try obtain rfl:=so hx3
     exact JQ.join () (Imp.norm (js:=[4,4,4,4,4,2,2,1,0]) rfl (.cons rfl (.cons rfl (.cons rfl (.cons rfl .nil)))))
   refine bI hx3 fun i34 hv_i_34 hx3=>bI hx3 fun u35 hv_u_35 hx3=>?_
   obtain ⟨v36,hv36,hx3⟩:=Za2 hx3
   rcases Zbc hx3 with ⟨hc15,hx3⟩ | ⟨hc15,hx3⟩
   · refine JC.anyF (base:=[(4,ov (PTR gb18 0)),(5,ov (PTR gb19 0)),(6,ov (PTR gb20 0)),(7,ov (PTR gb21 0)),(9,ov (S rS a31)),(10,ov (S (rI .i64) a32))])
         (fs:=fun γ=>[⟨some 18,ov (S (rI .i64) n30)⟩,⟨some 19,ov (PTR gb14 0)⟩,⟨some 20,ov (PTR gb14 0)⟩,⟨some 21,ov (PTR gb14 (0 + 0))⟩,⟨some 22,ov (HDR go16 0 (List.length x15) gc17)⟩,⟨some 23,ov (S (rI .i64) (List.length x15 : Int))⟩,⟨some 24,ov (S rB v33)⟩,⟨some 25,ov (S rB v33)⟩,⟨some 26,bif (!v33) then ov (S rS a31) else .one .und⟩,⟨some 27,bif (!v33) then ov (PTR gb14 0) else .one .und⟩,⟨some 28,bif (!v33) then ov (PTR gb14 0) else .one .und⟩,⟨some 29,bif (!v33) then ov (PTR gb14 (0 + 0)) else .one .und⟩,⟨some 30,ov (HDR go16 0 (List.length x15) gc17)⟩,⟨some 31,ov (S (rI .i64) n30)⟩,⟨some 32,ov (EPT go16 (i34 * 3))⟩,⟨some 33,ov (EPT go16 ((i34 * 3) + 0))⟩,⟨some 34,ov (S rS u35.Name)⟩,⟨some 35,ov (S rB v36)⟩,⟨some 36,ov (S rB v36)⟩,⟨some 37,ov (S rB v36)⟩,⟨some 38,bif (!v36) then ov (S (rI .i64) a32) else .one .und⟩,⟨some 39,bif (!v36) then ov (PTR gb14 0) else .one .und⟩,⟨some 40,bif (!v36) then ov (PTR gb14 0) else .one .und⟩,⟨some 41,bif (!v36) then ov (PTR gb14 (0 + 0)) else .one .und⟩,⟨some 42,.one .und⟩,⟨some 43,.one .und⟩,⟨some 44,.one .und⟩,⟨some 45,.one .und⟩,⟨some 46,.one .und⟩,⟨some 47,.one .und⟩,⟨some 48,.one .und⟩,⟨some 49,ov (S rB true)⟩])
         (rs:=fun γ=>[⟨cLK L K (.loop { lp with state:=.busy }),none,none,[]⟩,⟨cvar gb18 (rW (PTR gb14 0)) (),none,none,[1,9,21]⟩,⟨zq16 gb14 go16 x15 gc17 qc10 ql11 qj12 qe13,none,none,[4,12]⟩,⟨cown go16 Zab x15 0 gc17,none,none,[14,16]⟩,⟨cvar gb19 (rI .i64) qo1,none,none,[]⟩,⟨cvar gb20 rB false,none,none,[]⟩,⟨cvar gb21 (rI .i64) n30,none,none,[0,13]⟩,⟨cvar gb6 (zq1 go8) ((),(qb2,(qg3,(qh4,(qd5,()))))),none,none,[]⟩,⟨cqm go8 (S rS) Zaa qm9 (some x7),none,none,[]⟩])
         (afts:=nn 32) (js:=[0,0,0,0,0,0,0,0,0]) mixed (.cons rfl (.cons rfl (.cons rfl (.cons rfl (.cons rfl (.cons rfl .nil)))))) (fun _=>rfl)
         (by
      refine dR 1 (fun γ ρ B hb hd=>Zag.lk ⟨ρ,(cvar gb21 (rI .i64) n30)::B,_⟩ (Zam (j:=0) lb tS3 (.tmp (hb 7 _ rfl)) rfl (Comp.self (rI .i64) n30) rfl rfl))<|dR 2 (fun γ ρ B hb hd=>Zag.lk ⟨ρ,(cvar gb18 (rW (PTR gb14 0)) ())::B,_⟩ (Zal (j:=0) lb tS45 (.tmp (hb 4 _ rfl)) rfl (Comp.self (rW (PTR gb14 0)) ())))<|dS 3 (fun γ ρ B hb hd=>Zae lb (tl hd 1 19) (fun e v h=>by subst h; rfl))<|dS 4 (fun γ ρ B hb hd=>Zad (off:=0) lb Za6 (tl hd 2 20))<|dR 5 (fun γ ρ B hb hd=>Zag.lk ⟨ρ,(zq16 gb14 go16 x15 gc17 qc10 ql11 qj12 qe13)::B,_⟩ (Zal (j:=0) lb tS46 (tl hd 3 21) rfl (Comp.trans (Comp.self (zq10 go16 x15 gc17) ((),(qc10,(ql11,(qj12,(qe13,())))))) (Comp.at' (Comp.inF (Comp.self (rW (HDR go16 0 (List.length x15) gc17)) ()) (lE rfl)) (by rfl : _ = 0)) (lE rfl)))) ?_
      refine dS 6 (fun γ ρ B hb hd=>Zb2 lb tu46 (tl hd 4 22))<|dS 7 (fun γ ρ B hb hd=>Zan lb (tl hd 0 18) (tl hd 5 23) (cs hv33))<|dm 8 6 24 ?_
      refine dF 9 7 25 v33 (fun γ=>ov (S rS a31)) (fun γ ρ B hb hd hq4=>Zai lb (.tmp (hb 9 _ rfl))) ?_
      refine eF 10 7 25 v33 (fun γ=>ov (PTR gb14 0)) (fun γ ρ B hb hd hq5=>Zag.lk ⟨ρ,(cvar gb18 (rW (PTR gb14 0)) ())::B,_⟩ (Zal (j:=0) lb tS45 (.tmp (hb 4 _ rfl)) rfl (Comp.self (rW (PTR gb14 0)) ()))) ?_
      refine dF 11 7 25 v33 (fun γ=>ov (PTR gb14 0)) (fun γ ρ B hb hd hq6=>Zae lb (HasO.cnd (tl hd 9 27) (notT (notF hq6))) (fun e v h=>by subst h; rfl)) ?_
      refine dF 12 7 25 v33 (fun γ=>ov (PTR gb14 (0 + 0))) (fun γ ρ B hb hd hq7=>Zad (off:=0) lb Za6 (HasO.cnd (tl hd 10 28) (notT (notF hq7)))) ?_
      refine dY 13 (fun γ ρ B hb hd=>⟨.yes rfl (ltB rfl) (hl hd 7 25 rfl) hc9,Zag.lk ⟨ρ,(zq16 gb14 go16 x15 gc17 qc10 ql11 qj12 qe13)::B,_⟩ (Zal (j:=0) lb tS46 (HasO.cnd (tl hd 11 29) (notT hc9)) rfl (Comp.trans (Comp.self (zq10 go16 x15 gc17) ((),(qc10,(ql11,(qj12,(qe13,())))))) (Comp.at' (Comp.inF (Comp.self (rW (HDR go16 0 (List.length x15) gc17)) ()) (lE rfl)) (by rfl : _ = 0)) (lE rfl)))⟩)<|dY 14 (fun γ ρ B hb hd=>⟨.yes rfl (ltB rfl) (hl hd 7 25 rfl) hc9,Zag.lk ⟨ρ,(cvar gb21 (rI .i64) n30)::B,_⟩ (Zam (j:=0) lb tS3 (.tmp (hb 7 _ rfl)) rfl (Comp.self (rI .i64) n30) rfl rfl)⟩)<|dY 15 (fun γ ρ B hb hd=>⟨.yes rfl (ltB rfl) (hl hd 7 25 rfl) hc9,Zag.lk ⟨ρ,(cown go16 Zab x15 0 gc17)::B,_⟩ (Zap (r:=Zab) (j:=0) lb tu46 tz84 rfl (tl hd 12 30) (tl hd 13 31) hv_i_34)⟩)<|dY 16 (fun γ ρ B hb hd=>⟨.yes rfl (ltB rfl) (hl hd 7 25 rfl) hc9,lkB (ZaB (off:=0) lb Zey (tl hd 14 32))⟩)<|dY 17 (fun γ ρ B hb hd=>⟨.yes rfl (ltB rfl) (hl hd 7 25 rfl) hc9,Zag.lk ⟨ρ,(cown go16 Zab x15 0 gc17)::B,_⟩ (Zbf (r:=Zab) (i:=i34) (off:=0) (j:=0) lb tS9 rfl rfl (tl hd 15 33) hv_u_35 (Comp.at' (cT (Zbi u35) rfl) rfl) (by decide))⟩) ?_
      refine dY 18 (fun γ ρ B hb hd=>⟨.yes rfl (ltB rfl) (hl hd 7 25 rfl) hc9,lkB (ZcP lb (HasO.cnd (tl hd 8 26) (notT hc9)) (tl hd 16 34) (cs hv36))⟩)<|dS 19 (fun γ ρ B hb hd=>Zar lb (tl hd 7 25) hc9 (tl hd 17 35))<|dm 20 18 36 ?_
      refine dF 21 19 37 v36 (fun γ=>ov (S (rI .i64) a32)) (fun γ ρ B hb hd hq10=>Zai lb (.tmp (hb 10 _ rfl))) ?_
      refine eF 22 19 37 v36 (fun γ=>ov (PTR gb14 0)) (fun γ ρ B hb hd hq11=>Zag.lk ⟨ρ,(cvar gb18 (rW (PTR gb14 0)) ())::B,_⟩ (Zal (j:=0) lb tS45 (.tmp (hb 4 _ rfl)) rfl (Comp.self (rW (PTR gb14 0)) ()))) ?_
      refine dF 23 19 37 v36 (fun γ=>ov (PTR gb14 0)) (fun γ ρ B hb hd hq12=>Zae lb (HasO.cnd (tl hd 21 39) (notT (notF hq12))) (fun e v h=>by subst h; rfl)) ?_
      refine dF 24 19 37 v36 (fun γ=>ov (PTR gb14 (0 + 0))) (fun γ ρ B hb hd hq13=>Zad (off:=0) lb Za6 (HasO.cnd (tl hd 22 40) (notT (notF hq13)))) ?_
      refine kn 25 19 37 rfl hc15<|kn 26 19 37 rfl hc15<|kn 27 19 37 rfl hc15<|kn 28 19 37 rfl hc15<|kn 29 19 37 rfl hc15 ?_
      refine kn 30 19 37 rfl hc15<|kn 31 19 37 rfl hc15<|dS 32 (fun γ ρ B hb hd=>Zaw lb (tl hd 19 37) hc15 .cB) ?_
      exact Zat.nil)
         (by decide +kernel) (fun _=>rfl) (fun _=>rfl) (fun _=>rfl) rfl
         (ρ':=fun γ=>[(5,ov (PTR gb19 0)),(6,ov (PTR gb20 0)),(7,ov (PTR gb21 0)),(49,ov (S rB true))])
         (X':=fun γ=>[cLK L K (.loop { lp with state:=.busy }),cvar gb18 (rW (PTR gb14 0)) (),zq16 gb14 go16 x15 gc17 qc10 ql11 qj12 qe13,cown go16 Zab x15 0 gc17,cvar gb19 (rI .i64) qo1,cvar gb20 rB false,cvar gb21 (rI .i64) n30,cvar gb6 (zq1 go8) ((),(qb2,(qg3,(qh4,(qd5,()))))),cqm go8 (S rS) Zaa qm9 (some x7)])
         (fun γ ρ hb hd=>(.cons (hb 5 _ rfl) (.cons (hb 6 _ rfl) (.cons (hb 7 _ rfl) (.cons (hdq hd 31 49 rfl) .nil))))) (fun _=>rfl) (fun γ=>?_)
     refine JQ.at ⟨[(5,ov (PTR gb19 0)),(6,ov (PTR gb20 0)),(7,ov (PTR gb21 0)),(49,ov (S rB true))],[cLK L K (.loop { lp with state:=.busy }),cvar gb18 (rW (PTR gb14 0)) (),zq16 gb14 go16 x15 gc17 qc10 ql11 qj12 qe13,cown go16 Zab x15 0 gc17,cvar gb19 (rI .i64) qo1,cvar gb20 rB false,cvar gb21 (rI .i64) n30,cvar gb6 (zq1 go8) ((),(qb2,(qg3,(qh4,(qd5,()))))),cqm go8 (S rS) Zaa qm9 (some x7)],[]⟩ ?_
     try obtain rfl:=so hx3
     exact JQ.join () (Imp.norm (js:=[4,4,4,4,4,2,2,1,0]) rfl (.cons rfl (.cons rfl (.cons rfl (.cons rfl .nil)))))
   refine bI hx3 fun i37 hv_i_37 hx3=>bI hx3 fun u38 hv_u_38 hx3=>?_
   obtain ⟨v39,hv39,hx3⟩:=Za2 hx3
   refine JC.anyF (base:=[(4,ov (PTR gb18 0)),(5,ov (PTR gb19 0)),(6,ov (PTR gb20 0)),(7,ov (PTR gb21 0)),(9,ov (S rS a31)),(10,ov (S (rI .i64) a32))])
       (fs:=fun γ=>[⟨some 18,ov (S (rI .i64) n30)⟩,⟨some 19,ov (PTR gb14 0)⟩,⟨some 20,ov (PTR gb14 0)⟩,⟨some 21,ov (PTR gb14 (0 + 0))⟩,⟨some 22,ov (HDR go16 0 (List.length x15) gc17)⟩,⟨some 23,ov (S (rI .i64) (List.length x15 : Int))⟩,⟨some 24,ov (S rB v33)⟩,⟨some 25,ov (S rB v33)⟩,⟨some 26,bif (!v33) then ov (S rS a31) else .one .und⟩,⟨some 27,bif (!v33) then ov (PTR gb14 0) else .one .und⟩,⟨some 28,bif (!v33) then ov (PTR gb14 0) else .one .und⟩,⟨some 29,bif (!v33) then ov (PTR gb14 (0 + 0)) else .one .und⟩,⟨some 30,ov (HDR go16 0 (List.length x15) gc17)⟩,⟨some 31,ov (S (rI .i64) n30)⟩,⟨some 32,ov (EPT go16 (i34 * 3))⟩,⟨some 33,ov (EPT go16 ((i34 * 3) + 0))⟩,⟨some 34,ov (S rS u35.Name)⟩,⟨some 35,ov (S rB v36)⟩,⟨some 36,ov (S rB v36)⟩,⟨some 37,ov (S rB v36)⟩,⟨some 38,bif (!v36) then ov (S (rI .i64) a32) else .one .und⟩,⟨some 39,bif (!v36) then ov (PTR gb14 0) else .one .und⟩,⟨some 40,bif (!v36) then ov (PTR gb14 0) else .one .und⟩,⟨some 41,bif (!v36) then ov (PTR gb14 (0 + 0)) else .one .und⟩,⟨some 42,ov (HDR go16 0 (List.length x15) gc17)⟩,⟨some 43,ov (S (rI .i64) n30)⟩,⟨some 44,ov (EPT go16 (i37 * 3))⟩,⟨some 45,ov (EPT go16 ((i37 * 3) + 1))⟩,⟨some 46,ov (S (rL (rU UInt8)) u38.B)⟩,⟨some 47,ov (S (rI .i64) (List.length u38.B : Int))⟩,⟨some 48,ov (S rB v39)⟩,⟨some 49,ov (S rB v39)⟩])
       (rs:=fun γ=>[⟨cLK L K (.loop { lp with state:=.busy }),none,none,[]⟩,⟨cvar gb18 (rW (PTR gb14 0)) (),none,none,[1,9,21]⟩,⟨zq16 gb14 go16 x15 gc17 qc10 ql11 qj12 qe13,none,none,[4,12,24]⟩,⟨cown go16 Zab x15 0 gc17,none,none,[14,16,26,28]⟩,⟨cvar gb19 (rI .i64) qo1,none,none,[]⟩,⟨cvar gb20 rB false,none,none,[]⟩,⟨cvar gb21 (rI .i64) n30,none,none,[0,13,25]⟩,⟨cvar gb6 (zq1 go8) ((),(qb2,(qg3,(qh4,(qd5,()))))),none,none,[]⟩,⟨cqm go8 (S rS) Zaa qm9 (some x7),none,none,[]⟩])
       (afts:=nn 32) (js:=[0,0,0,0,0,0,0,0,0]) mixed (.cons rfl (.cons rfl (.cons rfl (.cons rfl (.cons rfl (.cons rfl .nil)))))) (fun _=>rfl)
       (by
      refine dR 1 (fun γ ρ B hb hd=>Zag.lk ⟨ρ,(cvar gb21 (rI .i64) n30)::B,_⟩ (Zam (j:=0) lb tS3 (.tmp (hb 7 _ rfl)) rfl (Comp.self (rI .i64) n30) rfl rfl))<|dR 2 (fun γ ρ B hb hd=>Zag.lk ⟨ρ,(cvar gb18 (rW (PTR gb14 0)) ())::B,_⟩ (Zal (j:=0) lb tS45 (.tmp (hb 4 _ rfl)) rfl (Comp.self (rW (PTR gb14 0)) ())))<|dS 3 (fun γ ρ B hb hd=>Zae lb (tl hd 1 19) (fun e v h=>by subst h; rfl))<|dS 4 (fun γ ρ B hb hd=>Zad (off:=0) lb Za6 (tl hd 2 20))<|dR 5 (fun γ ρ B hb hd=>Zag.lk ⟨ρ,(zq16 gb14 go16 x15 gc17 qc10 ql11 qj12 qe13)::B,_⟩ (Zal (j:=0) lb tS46 (tl hd 3 21) rfl (Comp.trans (Comp.self (zq10 go16 x15 gc17) ((),(qc10,(ql11,(qj12,(qe13,())))))) (Comp.at' (Comp.inF (Comp.self (rW (HDR go16 0 (List.length x15) gc17)) ()) (lE rfl)) (by rfl : _ = 0)) (lE rfl)))) ?_
      refine dS 6 (fun γ ρ B hb hd=>Zb2 lb tu46 (tl hd 4 22))<|dS 7 (fun γ ρ B hb hd=>Zan lb (tl hd 0 18) (tl hd 5 23) (cs hv33))<|dm 8 6 24 ?_
      refine dF 9 7 25 v33 (fun γ=>ov (S rS a31)) (fun γ ρ B hb hd hq4=>Zai lb (.tmp (hb 9 _ rfl))) ?_
      refine eF 10 7 25 v33 (fun γ=>ov (PTR gb14 0)) (fun γ ρ B hb hd hq5=>Zag.lk ⟨ρ,(cvar gb18 (rW (PTR gb14 0)) ())::B,_⟩ (Zal (j:=0) lb tS45 (.tmp (hb 4 _ rfl)) rfl (Comp.self (rW (PTR gb14 0)) ()))) ?_
      refine dF 11 7 25 v33 (fun γ=>ov (PTR gb14 0)) (fun γ ρ B hb hd hq6=>Zae lb (HasO.cnd (tl hd 9 27) (notT (notF hq6))) (fun e v h=>by subst h; rfl)) ?_
      refine dF 12 7 25 v33 (fun γ=>ov (PTR gb14 (0 + 0))) (fun γ ρ B hb hd hq7=>Zad (off:=0) lb Za6 (HasO.cnd (tl hd 10 28) (notT (notF hq7)))) ?_
      refine dY 13 (fun γ ρ B hb hd=>⟨.yes rfl (ltB rfl) (hl hd 7 25 rfl) hc9,Zag.lk ⟨ρ,(zq16 gb14 go16 x15 gc17 qc10 ql11 qj12 qe13)::B,_⟩ (Zal (j:=0) lb tS46 (HasO.cnd (tl hd 11 29) (notT hc9)) rfl (Comp.trans (Comp.self (zq10 go16 x15 gc17) ((),(qc10,(ql11,(qj12,(qe13,())))))) (Comp.at' (Comp.inF (Comp.self (rW (HDR go16 0 (List.length x15) gc17)) ()) (lE rfl)) (by rfl : _ = 0)) (lE rfl)))⟩)<|dY 14 (fun γ ρ B hb hd=>⟨.yes rfl (ltB rfl) (hl hd 7 25 rfl) hc9,Zag.lk ⟨ρ,(cvar gb21 (rI .i64) n30)::B,_⟩ (Zam (j:=0) lb tS3 (.tmp (hb 7 _ rfl)) rfl (Comp.self (rI .i64) n30) rfl rfl)⟩)<|dY 15 (fun γ ρ B hb hd=>⟨.yes rfl (ltB rfl) (hl hd 7 25 rfl) hc9,Zag.lk ⟨ρ,(cown go16 Zab x15 0 gc17)::B,_⟩ (Zap (r:=Zab) (j:=0) lb tu46 tz84 rfl (tl hd 12 30) (tl hd 13 31) hv_i_34)⟩)<|dY 16 (fun γ ρ B hb hd=>⟨.yes rfl (ltB rfl) (hl hd 7 25 rfl) hc9,lkB (ZaB (off:=0) lb Zey (tl hd 14 32))⟩)<|dY 17 (fun γ ρ B hb hd=>⟨.yes rfl (ltB rfl) (hl hd 7 25 rfl) hc9,Zag.lk ⟨ρ,(cown go16 Zab x15 0 gc17)::B,_⟩ (Zbf (r:=Zab) (i:=i34) (off:=0) (j:=0) lb tS9 rfl rfl (tl hd 15 33) hv_u_35 (Comp.at' (cT (Zbi u35) rfl) rfl) (by decide))⟩) ?_
      refine dY 18 (fun γ ρ B hb hd=>⟨.yes rfl (ltB rfl) (hl hd 7 25 rfl) hc9,lkB (ZcP lb (HasO.cnd (tl hd 8 26) (notT hc9)) (tl hd 16 34) (cs hv36))⟩)<|dS 19 (fun γ ρ B hb hd=>Zar lb (tl hd 7 25) hc9 (tl hd 17 35))<|dm 20 18 36 ?_
      refine dF 21 19 37 v36 (fun γ=>ov (S (rI .i64) a32)) (fun γ ρ B hb hd hq10=>Zai lb (.tmp (hb 10 _ rfl))) ?_
      refine eF 22 19 37 v36 (fun γ=>ov (PTR gb14 0)) (fun γ ρ B hb hd hq11=>Zag.lk ⟨ρ,(cvar gb18 (rW (PTR gb14 0)) ())::B,_⟩ (Zal (j:=0) lb tS45 (.tmp (hb 4 _ rfl)) rfl (Comp.self (rW (PTR gb14 0)) ()))) ?_
      refine dF 23 19 37 v36 (fun γ=>ov (PTR gb14 0)) (fun γ ρ B hb hd hq12=>Zae lb (HasO.cnd (tl hd 21 39) (notT (notF hq12))) (fun e v h=>by subst h; rfl)) ?_
      refine dF 24 19 37 v36 (fun γ=>ov (PTR gb14 (0 + 0))) (fun γ ρ B hb hd hq13=>Zad (off:=0) lb Za6 (HasO.cnd (tl hd 22 40) (notT (notF hq13)))) ?_
      refine dY 25 (fun γ ρ B hb hd=>⟨.yes rfl (ltB rfl) (hl hd 19 37 rfl) hc15,Zag.lk ⟨ρ,(zq16 gb14 go16 x15 gc17 qc10 ql11 qj12 qe13)::B,_⟩ (Zal (j:=0) lb tS46 (HasO.cnd (tl hd 23 41) (notT hc15)) rfl (Comp.trans (Comp.self (zq10 go16 x15 gc17) ((),(qc10,(ql11,(qj12,(qe13,())))))) (Comp.at' (Comp.inF (Comp.self (rW (HDR go16 0 (List.length x15) gc17)) ()) (lE rfl)) (by rfl : _ = 0)) (lE rfl)))⟩)<|dY 26 (fun γ ρ B hb hd=>⟨.yes rfl (ltB rfl) (hl hd 19 37 rfl) hc15,Zag.lk ⟨ρ,(cvar gb21 (rI .i64) n30)::B,_⟩ (Zam (j:=0) lb tS3 (.tmp (hb 7 _ rfl)) rfl (Comp.self (rI .i64) n30) rfl rfl)⟩)<|dY 27 (fun γ ρ B hb hd=>⟨.yes rfl (ltB rfl) (hl hd 19 37 rfl) hc15,Zag.lk ⟨ρ,(cown go16 Zab x15 0 gc17)::B,_⟩ (Zap (r:=Zab) (j:=0) lb tu46 tz84 rfl (tl hd 24 42) (tl hd 25 43) hv_i_37)⟩)<|dY 28 (fun γ ρ B hb hd=>⟨.yes rfl (ltB rfl) (hl hd 19 37 rfl) hc15,lkB (ZaB (off:=1) lb Zdn (tl hd 26 44))⟩)<|dY 29 (fun γ ρ B hb hd=>⟨.yes rfl (ltB rfl) (hl hd 19 37 rfl) hc15,Zag.lk ⟨ρ,(cown go16 Zab x15 0 gc17)::B,_⟩ (Zbf (r:=Zab) (i:=i37) (off:=1) (j:=0) lb tS31 rfl rfl (tl hd 27 45) hv_u_38 (Comp.at' (cT (Za5 u38) rfl) rfl) (by decide))⟩) ?_
      refine dY 30 (fun γ ρ B hb hd=>⟨.yes rfl (ltB rfl) (hl hd 19 37 rfl) hc15,lkB (Zcc lb tu31 (tl hd 28 46))⟩)<|dY 31 (fun γ ρ B hb hd=>⟨.yes rfl (ltB rfl) (hl hd 19 37 rfl) hc15,lkB (Zan lb (HasO.cnd (tl hd 20 38) (notT hc15)) (tl hd 29 47) (cs hv39))⟩)<|dS 32 (fun γ ρ B hb hd=>Zar lb (tl hd 19 37) hc15 (tl hd 30 48)) ?_
      exact Zat.nil)
       (by decide +kernel) (fun _=>rfl) (fun _=>rfl) (fun _=>rfl) rfl
       (ρ':=fun γ=>[(5,ov (PTR gb19 0)),(6,ov (PTR gb20 0)),(7,ov (PTR gb21 0)),(49,ov (S rB v39))])
       (X':=fun γ=>[cLK L K (.loop { lp with state:=.busy }),cvar gb18 (rW (PTR gb14 0)) (),zq16 gb14 go16 x15 gc17 qc10 ql11 qj12 qe13,cown go16 Zab x15 0 gc17,cvar gb19 (rI .i64) qo1,cvar gb20 rB false,cvar gb21 (rI .i64) n30,cvar gb6 (zq1 go8) ((),(qb2,(qg3,(qh4,(qd5,()))))),cqm go8 (S rS) Zaa qm9 (some x7)])
       (fun γ ρ hb hd=>(.cons (hb 5 _ rfl) (.cons (hb 6 _ rfl) (.cons (hb 7 _ rfl) (.cons (hdq hd 31 49 rfl) .nil))))) (fun _=>rfl) (fun γ=>?_)
   refine JQ.at ⟨[(5,ov (PTR gb19 0)),(6,ov (PTR gb20 0)),(7,ov (PTR gb21 0)),(49,ov (S rB v39))],[cLK L K (.loop { lp with state:=.busy }),cvar gb18 (rW (PTR gb14 0)) (),zq16 gb14 go16 x15 gc17 qc10 ql11 qj12 qe13,cown go16 Zab x15 0 gc17,cvar gb19 (rI .i64) qo1,cvar gb20 rB false,cvar gb21 (rI .i64) n30,cvar gb6 (zq1 go8) ((),(qb2,(qg3,(qh4,(qd5,()))))),cqm go8 (S rS) Zaa qm9 (some x7)],[]⟩ ?_
   try obtain rfl:=so hx3
   exact JQ.join () (Imp.norm (js:=[4,4,4,4,4,2,2,1,0]) rfl (.cons rfl (.cons rfl (.cons rfl (.cons rfl .nil)))))
 · intro s gK43 gq0 hr
   obtain ⟨gq2,hgq⟩ : ∃ z,z = gq0:=⟨_,rfl⟩
   obtain ⟨n44,hvv⟩ : ∃ z,z = s:=⟨_,rfl⟩
   subst hvv
   subst hr
   dsimp only at hx1
   simp only [← hgq]
   refine JQ.pre Imp.defs1<|JQ.pre (st':=⟨[(4,ov (PTR gb18 0)),(5,ov (PTR gb19 0)),(6,ov (PTR gb20 0)),(7,ov (PTR gb21 0))],[Zcq (gK43::([] : List Nat)),cvar gb18 (rW (PTR gb14 0)) (),zq16 gb14 go16 x15 gc17 qc10 ql11 qj12 qe13,cown go16 Zab x15 0 gc17,cvar gb19 (rI .i64) qo1,cvar gb20 rB false,cvar gb21 (rI .i64) n44,cvar gb6 (zq1 go8) ((),(qb2,(qg3,(qh4,(qd5,()))))),cqm go8 (S rS) Zaa qm9 (some x7)],(gK43::([] : List Nat))⟩) (Imp.norm (js:=[0,0,0,0,0,0,0,0,0]) rfl (.cons rfl (.cons rfl (.cons rfl (.cons rfl .nil)))))<|JQ.outNB ?_
   try obtain rfl:=so hx1
   exact JQ.joinK n44 (gK43::([] : List Nat)) rfl (Imp.norm (js:=[1,1,1,2,2,2,2,0]) rfl (.cons rfl (.cons rfl (.cons rfl .nil))))
 intro u gK43 gq0 hr
 obtain ⟨gq2,hgq⟩ : ∃ z,z = gq0:=⟨_,rfl⟩
 obtain ⟨x45,x46⟩:=u
 subst hr
 dsimp only at hx1
 simp only [← hgq]
 refine JC.pre Imp.defs1<|JC.pre (st':=⟨[(6,ov (PTR gb20 0))],[Zcq (gK43::([] : List Nat)),cvar gb20 rB x45,cvar gb6 (zq1 go8) ((),(qb2,(qg3,(qh4,(qd5,()))))),cqm go8 (S rS) Zaa qm9 (some x7),zq16 gb14 go16 x15 gc17 qc10 ql11 qj12 qe13,cown go16 Zab x15 0 gc17,cvar gb18 (rW (PTR gb14 0)) (),cvar gb19 (rI .i64) qo1,cvar gb21 (rI .i64) x46],(gK43::([] : List Nat))⟩) (Imp.norm (js:=[0,0,0,0,0,0,0,0,0]) rfl (.cons rfl .nil))<|JC.ret<|JQ.outRB ?_
 try obtain rfl:=so hx1
 dsimp only at hq1
 refine JQ.outR ?_
 obtain rfl:=so hq1
 exact JQ.doneL (j:=0) (js:=[1,1,1,1]) (ss:=[.val (S rB x45)]) () (.inl rfl) rfl rfl (.cons (.cellS (j:=0) tS4 rfl rfl rfl) .nil) rfl rfl rfl

end Go.Proofs.Ytipchpbcjkhnaaa
