/- Walks. -/
import Derived.Test.YtipchpbcjkhnaaaT
import Derived.Test.YtipchpbcjkhnaaaW2
namespace Go.Proofs.Ytipchpbcjkhnaaa
open Go Fw
set_option linter.unusedVariables false
set_option maxRecDepth 100000
set_option maxHeartbeats 4000000

theorem ZbR (k : Nat) (qo1 : Int) (qb2 : Int) (qg3 : Int) (qh4 : Bool) (qd5 : Int) (x7 : (List ((List UInt8) × Zaf))) (qc10 : Int) (ql11 : Int) (qj12 : Bool) (qe13 : Int) (gb6 : Nat) (go8 : Option Nat) (qm9 : ((List UInt8) → Nat)) (gb14 : Nat) (r : Bool) (hm : law05_once_ppv_smvvvvmsnvvvv k qo1 qb2 qg3 qh4 qd5 x7 qc10 ql11 qj12 qe13 = some r) : Sim Try.prog 43 [PTR gb6 0,PTR gb14 0,S (rI .i64) qo1] [cvar gb6 (zq1 go8) ((),(qb2,(qg3,(qh4,(qd5,()))))),cqm go8 (S rS) Zaa qm9 (some x7),cvar gb14 zq9 ((),(qc10,(ql11,(qj12,(qe13,())))))] (γ:=Unit) (fun q=>[cvar gb6 (zq1 go8) ((),(qb2,(qg3,(qh4,(qd5,()))))),cqm go8 (S rS) Zaa qm9 (some x7),cvar gb14 zq9 ((),(qc10,(ql11,(qj12,(qe13,())))))]) (fun q=>.one (.val (S rB r))):=by
 unfold law05_once_ppv_smvvvvmsnvvvv at hm
 refine Sim.of Try.func43 rfl rfl (lE rfl) (fun e0 w0=>?_)
 refine JC.at ⟨[(0,ov (PTR gb6 0)),(1,ov (PTR gb14 0)),(2,ov (S (rI .i64) qo1))],[cvar gb6 (zq1 go8) ((),(qb2,(qg3,(qh4,(qd5,()))))),cqm go8 (S rS) Zaa qm9 (some x7),cvar gb14 zq9 ((),(qc10,(ql11,(qj12,(qe13,())))))],[]⟩<|jr<|jx (Zd6 lb tR) fun gb15=>jx (ZdT lb tR) fun gb16=>jx (Zcd lb tZ4 zr4) fun gb17=>jn<|jr<|jx (Zcd lb tZ3 zr3) fun gb18=>JL.sub ⟨[(0,ov (PTR gb6 0)),(4,ov (PTR gb15 0)),(5,ov (PTR gb16 0)),(6,ov (PTR gb17 0)),(7,ov (PTR gb18 0))],[cvar gb6 (zq1 go8) ((),(qb2,(qg3,(qh4,(qd5,()))))),cqm go8 (S rS) Zaa qm9 (some x7),cvar gb14 zq9 ((),(qc10,(ql11,(qj12,(qe13,()))))),cvar gb15 (rW (PTR gb14 0)) (),cvar gb16 (rI .i64) qo1,cvar gb17 rB false,cvar gb18 (rI .i64) (0 : Int)],[]⟩ (.cons rfl (.cons rfl (.cons rfl (.cons rfl (.cons rfl .nil))))) rfl rfl<|jc (ZaL (j:=6) tS3 tR .cI rfl rfl (UpdR.self (by rfl)) rfl)<|jn<|jr<|jmv rfl rfl ?_
 obtain ⟨⟨v19,x20⟩,hv19,hm⟩:=Zas hm
 refine jx (Zak (js:=[0,0]) ld cl15 (ZbJ k qb2 qg3 qh4 qd5 x7 gb6 go8 qm9 (v19,x20) hv19) .func (.cons tR .nil) rfl) (fun q=>?_)
 obtain ⟨gb21,go22,gc23,gb24,go25,gc26⟩:=q
 refine jc (Zac lb tR)<|jn<|JC.seq<|jr<|jmv rfl rfl<|jc (Zh0 (neg:=false) lb un41 tR (HasO.const (p:=NILF) fun _=>rfl))<|jn<|JC.condF tR rfl<|JC.skip<|JQ.then<|bI hm fun tv1 hx1 hq1=>JC.seqK (α:=Unit) (γ:=List Nat) (stj:=fun v q=>⟨[(4,ov (PTR gb15 0)),(6,ov (PTR gb17 0)),(7,ov (PTR gb18 0))],[cvar gb15 (rW (PTR gb14 0)) (),cvar gb14 zq9 ((),(qc10,(ql11,(qj12,(qe13,()))))),cvar gb17 rB false,cvar gb18 (rI .i64) (0 : Int),cvar gb6 (zq1 go8) ((),(qb2,(qg3,(qh4,(qd5,()))))),cqm go8 (S rS) Zaa qm9 (some x7),Zcq q],q⟩) (p:=fun v=>tv1 = (.inl v)) (fun v q hv=>?_) ?_
 · subst hv
   skip
   obtain ⟨gK30,hqq⟩ : ∃ z,z = q:=⟨_,rfl⟩
   subst hqq
   dsimp only at hq1
   refine JC.at ⟨[(4,ov (PTR gb15 0)),(6,ov (PTR gb17 0)),(7,ov (PTR gb18 0))],[cvar gb15 (rW (PTR gb14 0)) (),cvar gb14 zq9 ((),(qc10,(ql11,(qj12,(qe13,()))))),cvar gb17 rB false,cvar gb18 (rI .i64) (0 : Int),cvar gb6 (zq1 go8) ((),(qb2,(qg3,(qh4,(qd5,()))))),cqm go8 (S rS) Zaa qm9 (some x7),Zcq gK30],gK30⟩<|JC.seq ?_
   refine JC.anyF (base:=[(4,ov (PTR gb15 0)),(6,ov (PTR gb17 0)),(7,ov (PTR gb18 0))])
       (fs:=fun γ=>[⟨some 55,ov (S (rI .i64) (0 : Int))⟩,⟨some 56,ov (PTR gb14 0)⟩,⟨some 57,ov (PTR gb14 0)⟩,⟨some 58,ov (PTR gb14 (0 + 0))⟩,⟨some 59,ov (HDR none 0 0 0)⟩,⟨some 60,ov (S (rI .i64) (0 : Int))⟩,⟨some 61,ov (S rB true)⟩,⟨none,.one .any⟩])
       (rs:=fun γ=>[⟨cvar gb15 (rW (PTR gb14 0)) (),none,none,[1]⟩,⟨cvar gb14 zq9 ((),(qc10,(ql11,(qj12,(qe13,()))))),none,none,[4]⟩,⟨cvar gb17 rB false,none,(some 7),[]⟩,⟨cvar gb18 (rI .i64) (0 : Int),none,none,[0]⟩,⟨cvar gb6 (zq1 go8) ((),(qb2,(qg3,(qh4,(qd5,()))))),none,none,[]⟩,⟨cqm go8 (S rS) Zaa qm9 (some x7),none,none,[]⟩,⟨Zcq gK30,none,none,[]⟩,⟨cvar gb17 rB true,(some 7),none,[]⟩])
       (afts:=nn 8) (js:=[0,0,0,0,0,0,0]) mixed (.cons rfl (.cons rfl (.cons rfl .nil))) (fun _=>rfl)
       (by
      refine dR 1 (fun γ ρ B hb hd=>Zag.lk ⟨ρ,(cvar gb18 (rI .i64) (0 : Int))::B,_⟩ (Zam (j:=0) lb tS3 (.tmp (hb 7 _ rfl)) rfl (Comp.self (rI .i64) (0 : Int)) rfl rfl))<|dR 2 (fun γ ρ B hb hd=>Zag.lk ⟨ρ,(cvar gb15 (rW (PTR gb14 0)) ())::B,_⟩ (Zal (j:=0) lb tS45 (.tmp (hb 4 _ rfl)) rfl (Comp.self (rW (PTR gb14 0)) ())))<|dS 3 (fun γ ρ B hb hd=>Zae lb (tl hd 1 56) (fun e v h=>by subst h; rfl))<|dS 4 (fun γ ρ B hb hd=>Zad (off:=0) lb Za6 (tl hd 2 57))<|dR 5 (fun γ ρ B hb hd=>Zag.lk ⟨ρ,(cvar gb14 zq9 ((),(qc10,(ql11,(qj12,(qe13,()))))))::B,_⟩ (Zal (j:=0) lb tS46 (tl hd 3 58) rfl (Comp.trans (Comp.self zq9 ((),(qc10,(ql11,(qj12,(qe13,())))))) (Comp.at' (Comp.inF (Comp.self (rW (HDR none 0 0 0)) ()) (lE rfl)) (by rfl : _ = 0)) (lE rfl)))) ?_
      refine dS 6 (fun γ ρ B hb hd=>Zb2 lb tu46 (tl hd 4 59))<|dS 7 (fun γ ρ B hb hd=>Zan lb (tl hd 0 55) (tl hd 5 60) (cs (by decide : ((0 : Int) == (0 : Int)) = true)))<|dR 8 (fun γ ρ B hb hd=>Zag.at ⟨ρ,(cvar gb17 rB false)::B,_⟩ (setO ⟨ρ,(cvar gb17 rB true)::B,_⟩ _ _) (ZaL (j:=0) tS4 (.tmp (hb 6 _ rfl)) (tl hd 6 61) rfl rfl (UpdR.self (by rfl)) rfl)) ?_
      exact Zat.nil)
       (by decide +kernel) (fun _=>rfl) (fun _=>rfl) (fun _=>rfl) rfl
       (ρ':=fun γ=>[(6,ov (PTR gb17 0))])
       (X':=fun γ=>[cvar gb15 (rW (PTR gb14 0)) (),cvar gb14 zq9 ((),(qc10,(ql11,(qj12,(qe13,()))))),cvar gb18 (rI .i64) (0 : Int),cvar gb6 (zq1 go8) ((),(qb2,(qg3,(qh4,(qd5,()))))),cqm go8 (S rS) Zaa qm9 (some x7),Zcq gK30,cvar gb17 rB true])
       (fun γ ρ hb hd=>(.cons (hb 6 _ rfl) .nil)) (fun _=>rfl) (fun γ=>?_)
   refine JQ.at ⟨[(6,ov (PTR gb17 0))],[cvar gb15 (rW (PTR gb14 0)) (),cvar gb14 zq9 ((),(qc10,(ql11,(qj12,(qe13,()))))),cvar gb18 (rI .i64) (0 : Int),cvar gb6 (zq1 go8) ((),(qb2,(qg3,(qh4,(qd5,()))))),cqm go8 (S rS) Zaa qm9 (some x7),Zcq gK30,cvar gb17 rB true],gK30⟩<|JQ.then<|JC.ret ?_
   obtain rfl:=so hq1
   exact JQ.doneL (j:=5) (js:=[3,3,1]) (ss:=[.val (S rB true)]) () (.inl rfl) rfl rfl (.cons (.cellS (j:=5) tS4 rfl rfl rfl) .nil) rfl rfl rfl
 refine jr<|jmv rfl rfl<|jn<|JC.block<|bI hx1 fun tv2 hL2 hq2=>JC.pre (st':=⟨[(4,ov (PTR gb15 0)),(5,ov (PTR gb16 0)),(6,ov (PTR gb17 0)),(7,ov (PTR gb18 0)),(15,ov (CLO 40 [PTR gb21 0,PTR gb24 0]))],[cvar gb21 (rW (HDR go22 0 (List.length v19) gc23)) (),cown go22 rS v19 0 gc23,cvar gb24 (rW (HDR go25 0 (List.length x20) gc26)) (),cown go25 (rI .i64) x20 0 gc26,cvar gb15 (rW (PTR gb14 0)) (),cvar gb14 zq9 ((),(qc10,(ql11,(qj12,(qe13,()))))),cvar gb16 (rI .i64) qo1,cvar gb17 rB false,cvar gb18 (rI .i64) (0 : Int),cvar gb6 (zq1 go8) ((),(qb2,(qg3,(qh4,(qd5,()))))),cqm go8 (S rS) Zaa qm9 (some x7)],[]⟩) (Imp.norm (js:=[0,0,0,0,3,2,2,2,2,0,0]) rfl (.cons rfl (.cons rfl (.cons rfl (.cons rfl (.cons rfl .nil)))))) ?_
 replace hx1:=hq2
 refine JC.rangeFunc (γ:=Unit) (γ':=(Unit)) (r:=tv2) (js:=[0,0,0,0]) (qf:=fun g=>g) (X':=fun g=>[cvar gb21 (rW (HDR go22 0 (List.length v19) gc23)) (),cown go22 rS v19 0 gc23,cvar gb24 (rW (HDR go25 0 (List.length x20) gc26)) (),cown go25 (rI .i64) x20 0 gc26]) (sv:=fun _=>.tup [])
     (fun (u : (List UInt8) × Int) (z : Unit)=>[S rS u.1,S (rI .i64) u.2]) (fun (u : (List UInt8) × Int) (z : Unit)=>[]) (fun (s : Unit) (u : (List UInt8) × Int)=>law05_once_ppv_smvvvvmsnvvvv.y1 k u.1 u.2) (fun (s : Unit) q=>[cvar gb15 (rW (PTR gb14 0)) (),cvar gb14 zq9 ((),(qc10,(ql11,(qj12,(qe13,()))))),cvar gb16 (rI .i64) qo1,cvar gb17 rB false,cvar gb18 (rI .i64) (0 : Int),cvar gb6 (zq1 go8) ((),(qb2,(qg3,(qh4,(qd5,()))))),cqm go8 (S rS) Zaa qm9 (some x7)]) (fun (t : (Unit)) q=>[cvar gb17 rB false,cvar gb6 (zq1 go8) ((),(qb2,(qg3,(qh4,(qd5,()))))),cqm go8 (S rS) Zaa qm9 (some x7),cvar gb14 zq9 ((),(qc10,(ql11,(qj12,(qe13,()))))),cvar gb15 (rW (PTR gb14 0)) (),cvar gb16 (rI .i64) qo1,cvar gb18 (rI .i64) (0 : Int)]) (fun (t : (Unit))=>.ret) [(4,ov (PTR gb15 0)),(5,ov (PTR gb16 0)),(6,ov (PTR gb17 0)),(7,ov (PTR gb18 0))] () () rfl tR cl40 rfl (.cons rfl (.cons rfl (.cons rfl (.cons rfl .nil)))) (fun _ _=>rfl) (by decide) rfl ?_ (fun L C hY=>ZbK k (fun (s : Unit) (u : (List UInt8) × Int)=>law05_once_ppv_smvvvvmsnvvvv.y1 k u.1 u.2) (Sum.inl ()) v19 x20 () gb21 go22 gc23 gb24 go25 gc26 L C hY tv2 hL2) ?_ ?_
 · intro e1 w1 F1 L K lp s q u z y hx hlp
   obtain ⟨a27,a28⟩:=u
   change law05_once_ppv_smvvvvmsnvvvv.y1 k a27 a28 = some y at hx
   unfold law05_once_ppv_smvvvvmsnvvvv.y1 at hx
   refine JC.at ⟨[(16,ov (S rS a27)),(17,ov (S (rI .i64) a28)),(4,ov (PTR gb15 0)),(5,ov (PTR gb16 0)),(6,ov (PTR gb17 0)),(7,ov (PTR gb18 0))],[cLK L K (.loop lp),cvar gb15 (rW (PTR gb14 0)) (),cvar gb14 zq9 ((),(qc10,(ql11,(qj12,(qe13,()))))),cvar gb16 (rI .i64) qo1,cvar gb17 rB false,cvar gb18 (rI .i64) (0 : Int),cvar gb6 (zq1 go8) ((),(qb2,(qg3,(qh4,(qd5,()))))),cqm go8 (S rS) Zaa qm9 (some x7)],[]⟩<|jr<|jc (Zac lb tR)<|jn<|JC.region<|jc (Zac lb tR)<|JL.nil<|JQ.begin (j:=0) hlp rfl<|JC.block<|JC.seq<|bI hx fun _ hx3 hq3=>JC.seqJ (γ:=Unit) (stj:=fun _=>⟨[(5,ov (PTR gb16 0)),(6,ov (PTR gb17 0)),(7,ov (PTR gb18 0)),(49,ov (S rB true))],[cvar gb16 (rI .i64) qo1,cvar gb17 rB false,cvar gb18 (rI .i64) (0 : Int),cvar gb6 (zq1 go8) ((),(qb2,(qg3,(qh4,(qd5,()))))),cqm go8 (S rS) Zaa qm9 (some x7),cvar gb14 zq9 ((),(qc10,(ql11,(qj12,(qe13,()))))),cvar gb15 (rW (PTR gb14 0)) (),cLK L K (.loop { lp with state:=.busy })],[]⟩) (fun _=>?_) ?_
   · exact JC.condT tR rfl<|jr<|jc (ZaL (j:=1) tS4 tR .cB rfl rfl (UpdR.self (by rfl)) rfl)<|jn<|JC.ret<|JQ.outR<|JQ.outRB<|JQ.rret () (Option.some.inj hq3).symm rfl (Imp.norm (js:=[7,1,2,2,2,2,0,0]) rfl .nil)
   refine JC.anyF (base:=[(4,ov (PTR gb15 0)),(5,ov (PTR gb16 0)),(6,ov (PTR gb17 0)),(7,ov (PTR gb18 0))])
       (fs:=fun γ=>[⟨some 18,ov (S (rI .i64) (0 : Int))⟩,⟨some 19,ov (PTR gb14 0)⟩,⟨some 20,ov (PTR gb14 0)⟩,⟨some 21,ov (PTR gb14 (0 + 0))⟩,⟨some 22,ov (HDR none 0 0 0)⟩,⟨some 23,ov (S (rI .i64) (0 : Int))⟩,⟨some 24,ov (S rB true)⟩,⟨some 25,ov (S rB true)⟩,⟨some 26,.one .und⟩,⟨some 27,.one .und⟩,⟨some 28,.one .und⟩,⟨some 29,.one .und⟩,⟨some 30,.one .und⟩,⟨some 31,.one .und⟩,⟨some 32,.one .und⟩,⟨some 33,.one .und⟩,⟨some 34,.one .und⟩,⟨some 35,.one .und⟩,⟨some 36,ov (S rB true)⟩,⟨some 37,ov (S rB true)⟩,⟨some 38,.one .und⟩,⟨some 39,.one .und⟩,⟨some 40,.one .und⟩,⟨some 41,.one .und⟩,⟨some 42,.one .und⟩,⟨some 43,.one .und⟩,⟨some 44,.one .und⟩,⟨some 45,.one .und⟩,⟨some 46,.one .und⟩,⟨some 47,.one .und⟩,⟨some 48,.one .und⟩,⟨some 49,ov (S rB true)⟩])
       (rs:=fun γ=>[⟨cLK L K (.loop { lp with state:=.busy }),none,none,[]⟩,⟨cvar gb15 (rW (PTR gb14 0)) (),none,none,[1]⟩,⟨cvar gb14 zq9 ((),(qc10,(ql11,(qj12,(qe13,()))))),none,none,[4]⟩,⟨cvar gb16 (rI .i64) qo1,none,none,[]⟩,⟨cvar gb17 rB false,none,none,[]⟩,⟨cvar gb18 (rI .i64) (0 : Int),none,none,[0]⟩,⟨cvar gb6 (zq1 go8) ((),(qb2,(qg3,(qh4,(qd5,()))))),none,none,[]⟩,⟨cqm go8 (S rS) Zaa qm9 (some x7),none,none,[]⟩])
       (afts:=nn 32) (js:=[0,0,0,0,0,0,0,0]) mixed (.cons rfl (.cons rfl (.cons rfl (.cons rfl .nil)))) (fun _=>rfl)
       (by
      refine dR 1 (fun γ ρ B hb hd=>Zag.lk ⟨ρ,(cvar gb18 (rI .i64) (0 : Int))::B,_⟩ (Zam (j:=0) lb tS3 (.tmp (hb 7 _ rfl)) rfl (Comp.self (rI .i64) (0 : Int)) rfl rfl))<|dR 2 (fun γ ρ B hb hd=>Zag.lk ⟨ρ,(cvar gb15 (rW (PTR gb14 0)) ())::B,_⟩ (Zal (j:=0) lb tS45 (.tmp (hb 4 _ rfl)) rfl (Comp.self (rW (PTR gb14 0)) ())))<|dS 3 (fun γ ρ B hb hd=>Zae lb (tl hd 1 19) (fun e v h=>by subst h; rfl))<|dS 4 (fun γ ρ B hb hd=>Zad (off:=0) lb Za6 (tl hd 2 20))<|dR 5 (fun γ ρ B hb hd=>Zag.lk ⟨ρ,(cvar gb14 zq9 ((),(qc10,(ql11,(qj12,(qe13,()))))))::B,_⟩ (Zal (j:=0) lb tS46 (tl hd 3 21) rfl (Comp.trans (Comp.self zq9 ((),(qc10,(ql11,(qj12,(qe13,())))))) (Comp.at' (Comp.inF (Comp.self (rW (HDR none 0 0 0)) ()) (lE rfl)) (by rfl : _ = 0)) (lE rfl)))) ?_
      refine dS 6 (fun γ ρ B hb hd=>Zb2 lb tu46 (tl hd 4 22))<|dS 7 (fun γ ρ B hb hd=>Zan lb (tl hd 0 18) (tl hd 5 23) (cs (by decide : decide ((0 : Int) ≥ (0 : Int)) = true)))<|dm 8 6 24<|kn 9 7 25 rfl rfl<|kn 10 7 25 rfl rfl ?_
      refine kn 11 7 25 rfl rfl<|kn 12 7 25 rfl rfl<|kn 13 7 25 rfl rfl<|kn 14 7 25 rfl rfl<|kn 15 7 25 rfl rfl ?_
      refine kn 16 7 25 rfl rfl<|kn 17 7 25 rfl rfl<|kn 18 7 25 rfl rfl<|dS 19 (fun γ ρ B hb hd=>Zaw lb (tl hd 7 25) rfl .cB)<|dm 20 18 36 ?_
      refine kn 21 19 37 rfl rfl<|kn 22 19 37 rfl rfl<|kn 23 19 37 rfl rfl<|kn 24 19 37 rfl rfl<|kn 25 19 37 rfl rfl ?_
      refine kn 26 19 37 rfl rfl<|kn 27 19 37 rfl rfl<|kn 28 19 37 rfl rfl<|kn 29 19 37 rfl rfl<|kn 30 19 37 rfl rfl ?_
      refine kn 31 19 37 rfl rfl<|dS 32 (fun γ ρ B hb hd=>Zaw lb (tl hd 19 37) rfl .cB) ?_
      exact Zat.nil)
       (by decide +kernel) (fun _=>rfl) (fun _=>rfl) (fun _=>rfl) rfl
       (ρ':=fun γ=>[(5,ov (PTR gb16 0)),(6,ov (PTR gb17 0)),(7,ov (PTR gb18 0)),(49,ov (S rB true))])
       (X':=fun γ=>[cLK L K (.loop { lp with state:=.busy }),cvar gb15 (rW (PTR gb14 0)) (),cvar gb14 zq9 ((),(qc10,(ql11,(qj12,(qe13,()))))),cvar gb16 (rI .i64) qo1,cvar gb17 rB false,cvar gb18 (rI .i64) (0 : Int),cvar gb6 (zq1 go8) ((),(qb2,(qg3,(qh4,(qd5,()))))),cqm go8 (S rS) Zaa qm9 (some x7)])
       (fun γ ρ hb hd=>(.cons (hb 5 _ rfl) (.cons (hb 6 _ rfl) (.cons (hb 7 _ rfl) (.cons (hdq hd 31 49 rfl) .nil))))) (fun _=>rfl) (fun γ=>?_)
   exact JQ.at ⟨[(5,ov (PTR gb16 0)),(6,ov (PTR gb17 0)),(7,ov (PTR gb18 0)),(49,ov (S rB true))],[cLK L K (.loop { lp with state:=.busy }),cvar gb15 (rW (PTR gb14 0)) (),cvar gb14 zq9 ((),(qc10,(ql11,(qj12,(qe13,()))))),cvar gb16 (rI .i64) qo1,cvar gb17 rB false,cvar gb18 (rI .i64) (0 : Int),cvar gb6 (zq1 go8) ((),(qb2,(qg3,(qh4,(qd5,()))))),cqm go8 (S rS) Zaa qm9 (some x7)],[]⟩<|JQ.join () (Imp.norm (js:=[3,3,3,3,3,2,1,0]) rfl (.cons rfl (.cons rfl (.cons rfl (.cons rfl .nil)))))
 · intro s gK29 gq0 hr
   obtain ⟨gq2,hgq⟩ : ∃ z,z = gq0:=⟨_,rfl⟩
   subst hr
   dsimp only at hx1
   simp only [← hgq]
   refine JQ.pre Imp.defs1<|JQ.pre (st':=⟨[(4,ov (PTR gb15 0)),(5,ov (PTR gb16 0)),(6,ov (PTR gb17 0)),(7,ov (PTR gb18 0))],[Zcq (gK29::([] : List Nat)),cvar gb15 (rW (PTR gb14 0)) (),cvar gb14 zq9 ((),(qc10,(ql11,(qj12,(qe13,()))))),cvar gb16 (rI .i64) qo1,cvar gb17 rB false,cvar gb18 (rI .i64) (0 : Int),cvar gb6 (zq1 go8) ((),(qb2,(qg3,(qh4,(qd5,()))))),cqm go8 (S rS) Zaa qm9 (some x7)],(gK29::([] : List Nat))⟩) (Imp.norm (js:=[0,0,0,0,0,0,0,0]) rfl (.cons rfl (.cons rfl (.cons rfl (.cons rfl .nil)))))<|JQ.outNB ?_
   try obtain rfl:=so hx1
   exact JQ.joinK () (gK29::([] : List Nat)) rfl (Imp.norm (js:=[1,1,2,2,2,2,0]) rfl (.cons rfl (.cons rfl (.cons rfl .nil))))
 intro u gK29 gq0 hr
 obtain ⟨gq2,hgq⟩ : ∃ z,z = gq0:=⟨_,rfl⟩
 subst hr
 dsimp only at hx1
 simp only [← hgq]
 refine JC.pre Imp.defs1<|JC.pre (st':=⟨[(6,ov (PTR gb17 0))],[Zcq (gK29::([] : List Nat)),cvar gb17 rB false,cvar gb6 (zq1 go8) ((),(qb2,(qg3,(qh4,(qd5,()))))),cqm go8 (S rS) Zaa qm9 (some x7),cvar gb14 zq9 ((),(qc10,(ql11,(qj12,(qe13,()))))),cvar gb15 (rW (PTR gb14 0)) (),cvar gb16 (rI .i64) qo1,cvar gb18 (rI .i64) (0 : Int)],(gK29::([] : List Nat))⟩) (Imp.norm (js:=[0,0,0,0,0,0,0,0]) rfl (.cons rfl .nil))<|JC.ret<|JQ.outRB ?_
 try obtain rfl:=so hx1
 dsimp only at hq1
 refine JQ.outR ?_
 obtain rfl:=so hq1
 exact JQ.doneL (j:=0) (js:=[1,1,1]) (ss:=[.val (S rB false)]) () (.inl rfl) rfl rfl (.cons (.cellS (j:=0) tS4 rfl rfl rfl) .nil) rfl rfl rfl

end Go.Proofs.Ytipchpbcjkhnaaa
