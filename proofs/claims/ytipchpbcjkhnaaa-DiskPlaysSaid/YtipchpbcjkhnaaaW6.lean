/- Walks. -/
import Derived.Test.YtipchpbcjkhnaaaT
import Derived.Test.YtipchpbcjkhnaaaW0
import Derived.Test.YtipchpbcjkhnaaaW2
import Derived.Test.YtipchpbcjkhnaaaW4
import Derived.Test.YtipchpbcjkhnaaaW5
namespace Go.Proofs.Ytipchpbcjkhnaaa
open Go Fw
set_option linter.unusedVariables false
set_option maxRecDepth 100000
set_option maxHeartbeats 4000000

theorem Zc7 (k : Nat) (a1 : (List UInt8)) (a2 : Int) (qb3 : Int) (qg4 : Int) (qh5 : Bool) (qd6 : Int) (x8 : (List ((List UInt8) × Zaf))) (qc11 : Int) (ql12 : Int) (qj13 : Bool) (qe14 : Int) (gb7 : Nat) (go9 : Option Nat) (qm10 : ((List UInt8) → Nat)) (gb15 : Nat) (r : Bool) (hm : law05_looks_ppvv_smvvvvmsnvvvv k a1 a2 qb3 qg4 qh5 qd6 x8 qc11 ql12 qj13 qe14 = some r) : Sim Try.prog 17 [PTR gb7 0,PTR gb15 0,S rS a1,S (rI .i64) a2] [cvar gb7 (zq1 go9) ((),(qb3,(qg4,(qh5,(qd6,()))))),cqm go9 (S rS) Zaa qm10 (some x8),cvar gb15 zq9 ((),(qc11,(ql12,(qj13,(qe14,())))))] (γ:=Unit) (fun q=>[cvar gb7 (zq1 go9) ((),(qb3,(qg4,(qh5,(qd6,()))))),cqm go9 (S rS) Zaa qm10 (some x8),cvar gb15 zq9 ((),(qc11,(ql12,(qj13,(qe14,())))))]) (fun q=>.one (.val (S rB r))):=by
 unfold law05_looks_ppvv_smvvvvmsnvvvv at hm
 refine Sim.of Try.func17 rfl rfl (lE rfl) (fun e0 w0=>?_)
 refine JC.at ⟨[(0,ov (PTR gb7 0)),(1,ov (PTR gb15 0)),(2,ov (S rS a1)),(3,ov (S (rI .i64) a2))],[cvar gb7 (zq1 go9) ((),(qb3,(qg4,(qh5,(qd6,()))))),cqm go9 (S rS) Zaa qm10 (some x8),cvar gb15 zq9 ((),(qc11,(ql12,(qj13,(qe14,())))))],[]⟩<|jr<|jc (Zac lb .cB)<|jn<|jr<|jmv rfl rfl<|jmv rfl rfl ?_
 obtain ⟨⟨v16,v17⟩,hv16,hm⟩:=Zas hm
 refine jx (Zak (js:=[0,0]) ld cl12 (Zbt k a1 qb3 qg4 qh5 qd6 x8 gb7 go9 qm10 (v16,v17) hv16) .func (.cons tR (.cons tR .nil)) rfl) (fun q=>?_)
 obtain ⟨go18,gc19⟩:=q
 refine jmv rfl rfl<|jc (Zao (i:=0) lb tR rfl)<|jc (Zao (i:=1) lb tR rfl)<|jc (Zac lb tR)<|jc (Zac lb tR)<|jn<|jr<|jmv rfl rfl<|JL.sub ⟨[(0,ov (PTR gb7 0)),(1,ov (PTR gb15 0)),(2,ov (S rS a1)),(3,ov (S (rI .i64) a2)),(9,ov (HDR go18 0 (List.length v16) gc19)),(10,ov (S (rI .i64) v17)),(23,ov (PTR gb7 0))],[cown go18 (rU UInt8) v16 0 gc19,cvar gb7 (zq1 go9) ((),(qb3,(qg4,(qh5,(qd6,()))))),cqm go9 (S rS) Zaa qm10 (some x8),cvar gb15 zq9 ((),(qc11,(ql12,(qj13,(qe14,())))))],[]⟩ (.cons rfl (.cons rfl (.cons rfl (.cons rfl (.cons rfl (.cons rfl (.cons rfl .nil))))))) rfl rfl<|jmv rfl rfl ?_
 obtain ⟨⟨v20,v21⟩,hv20,hm⟩:=Zas hm
 refine jx (Zak (js:=[1,1]) ld cl27 (ZbX k a1 qb3 qg4 qh5 qd6 x8 gb7 go9 qm10 (v20,v21) hv20) .func (.cons tR (.cons tR .nil)) rfl) fun _=>jmv rfl rfl<|jc (Zao (i:=0) lb tR rfl)<|jc (Zao (i:=1) lb tR rfl)<|jc (Zac lb tR)<|jc (Zac lb tR)<|jn<|jr<|jmv rfl rfl<|jmv rfl rfl<|bI hm fun v22 hv22 hm=>jx (Zak (js:=[3]) ld cl41 (ZdD k a1 qc11 ql12 qj13 qe14 gb15 v22 hv22) .func (.cons tR (.cons tR .nil)) rfl) fun _=>JL.sub ⟨[(0,ov (PTR gb7 0)),(1,ov (PTR gb15 0)),(3,ov (S (rI .i64) a2)),(9,ov (HDR go18 0 (List.length v16) gc19)),(10,ov (S (rI .i64) v17)),(11,ov (S (rI .i64) v20)),(12,ov (S (rI .i64) v21)),(31,.tup [.val (S (rI .i64) (0 : Int)),.val (S (rI .i64) v22)])],[cvar gb15 zq9 ((),(qc11,(ql12,(qj13,(qe14,()))))),cvar gb7 (zq1 go9) ((),(qb3,(qg4,(qh5,(qd6,()))))),cqm go9 (S rS) Zaa qm10 (some x8),cown go18 (rU UInt8) v16 0 gc19],[]⟩ (.cons rfl (.cons rfl (.cons rfl (.cons rfl (.cons rfl (.cons rfl (.cons rfl (.cons rfl .nil)))))))) rfl rfl<|jmv rfl rfl<|jc (Zao (i:=0) lb tR rfl)<|jc (Zao (i:=1) lb tR rfl)<|jc (Zac lb tR)<|jc (Zac lb tR)<|jn<|JC.seq ?_
 obtain ⟨x28,hx1,hq1⟩:=Zas hm
 refine JC.seqJ (γ:=Unit) (stj:=fun _=>⟨[(0,ov (PTR gb7 0)),(1,ov (PTR gb15 0)),(3,ov (S (rI .i64) a2)),(9,ov (HDR go18 0 (List.length v16) gc19)),(11,ov (S (rI .i64) v20)),(13,ov (S (rI .i64) (0 : Int))),(14,ov (S (rI .i64) v22)),(43,ov (S rB x28))],[cvar gb7 (zq1 go9) ((),(qb3,(qg4,(qh5,(qd6,()))))),cqm go9 (S rS) Zaa qm10 (some x8),cvar gb15 zq9 ((),(qc11,(ql12,(qj13,(qe14,()))))),cown go18 (rU UInt8) v16 0 gc19],[]⟩) (fun _=>?_) ?_
 · refine jif tR hq1 (fun hc7 hq1=>?_) (fun hc7 hq1=>?_)
   · refine jr<|jc (Zac lb .cB)<|jn<|JC.ret<|JQ.outR ?_
     obtain rfl:=so hq1
     exact JQ.done (js:=[0,0,0]) (ss:=[.val (S rB false)]) () (.inl rfl) (.nil rfl) rfl (.cons (.tmp rfl) .nil) rfl rfl rfl
   refine JC.skip<|JQ.then<|bI hq1 fun tv8 hx8 hq8=>JC.seqK (α:=Unit) (γ:=Unit) (stj:=fun v q=>⟨[(0,ov (PTR gb7 0)),(1,ov (PTR gb15 0)),(3,ov (S (rI .i64) a2)),(9,ov (HDR go18 0 (List.length v16) gc19))],[cvar gb7 (zq1 go9) ((),(qb3,(qg4,(qh5,(qd6,()))))),cqm go9 (S rS) Zaa qm10 (some x8),cvar gb15 zq9 ((),(qc11,(ql12,(qj13,(qe14,()))))),cown go18 (rU UInt8) v16 0 gc19],[]⟩) (p:=fun v=>tv8 = (.inl v)) (fun v q hv=>?_) ?_
   · subst hv
     skip
     obtain _:=q
     dsimp only at hq8
     refine JC.at ⟨[(0,ov (PTR gb7 0)),(1,ov (PTR gb15 0)),(3,ov (S (rI .i64) a2)),(9,ov (HDR go18 0 (List.length v16) gc19))],[cvar gb7 (zq1 go9) ((),(qb3,(qg4,(qh5,(qd6,()))))),cqm go9 (S rS) Zaa qm10 (some x8),cvar gb15 zq9 ((),(qc11,(ql12,(qj13,(qe14,()))))),cown go18 (rU UInt8) v16 0 gc19],[]⟩<|bI hq8 fun _ hx28 hq28=>JC.seqJ (γ:=Unit) (stj:=fun _=>⟨[(0,ov (PTR gb7 0)),(1,ov (PTR gb15 0)),(3,ov (S (rI .i64) a2))],[cvar gb7 (zq1 go9) ((),(qb3,(qg4,(qh5,(qd6,()))))),cqm go9 (S rS) Zaa qm10 (some x8),cvar gb15 zq9 ((),(qc11,(ql12,(qj13,(qe14,())))))],[]⟩) (fun _=>?_) ?_
     · refine bI hq28 fun x58 hx31 hq31=>JC.seqJ (γ:=Unit) (stj:=fun _=>⟨[(8,ov (S rB x58))],[cvar gb7 (zq1 go9) ((),(qb3,(qg4,(qh5,(qd6,()))))),cqm go9 (S rS) Zaa qm10 (some x8),cvar gb15 zq9 ((),(qc11,(ql12,(qj13,(qe14,())))))],[]⟩) (fun _=>?_) ?_
       · refine JC.ret ?_
         obtain rfl:=so hq31
         exact JQ.done (js:=[0,0,0]) (ss:=[.val (S rB x58)]) () (.inl rfl) (.nil rfl) rfl (.cons (.tmp rfl) .nil) rfl rfl rfl
       refine bI hx31 fun v49 hv49 hx31=>bI hx31 fun _ hv_u_50 hx31=>?_
       obtain ⟨v51,hv51,hx31⟩:=Za2 hx31
       rcases Zbc hx31 with ⟨hc34,hx31⟩ | ⟨hc34,hx31⟩
       · refine bI hx31 fun _ hv_u_52 hx31=>?_
         obtain ⟨v53,hv53,hx31⟩:=Za2 hx31
         rcases Zbc hx31 with ⟨hc37,hx31⟩ | ⟨hc37,hx31⟩
         · refine bI hx31 fun _ hv_u_54 hx31=>?_
           obtain ⟨v55,hv55,hx31⟩:=Za2 hx31
           rcases Zbc hx31 with ⟨hc42,hx31⟩ | ⟨hc42,hx31⟩
           · obtain ⟨v56,hv56,hx31⟩:=Zas hx31
             rcases Zbc hx31 with ⟨hc46,hx31⟩ | ⟨hc46,hx31⟩
             · obtain ⟨v57,hv57,hx31⟩:=Zas hx31
               refine JC.anyF (base:=[(0,ov (PTR gb7 0)),(1,ov (PTR gb15 0)),(3,ov (S (rI .i64) a2))])
                   (fs:=fun γ=>[⟨some 91,ov (PTR gb7 0)⟩,⟨some 92,ov (S (rI .i64) v49)⟩,⟨some 93,ov (PTR gb15 0)⟩,⟨some 94,ov (S (rI .i64) qc11)⟩,⟨some 95,ov (S rB v51)⟩,⟨some 96,ov (S rB v51)⟩,⟨some 97,bif v51 then ov (PTR gb7 0) else .one .und⟩,⟨some 98,ov (S rB qh5)⟩,⟨some 99,ov (PTR gb15 0)⟩,⟨some 100,ov (PTR gb15 0)⟩,⟨some 101,ov (PTR gb15 (0 + 3))⟩,⟨some 102,ov (S rB qj13)⟩,⟨some 103,ov (S rB v53)⟩,⟨some 104,ov (S rB v53)⟩,⟨some 105,ov (S rB v53)⟩,⟨some 106,bif v53 then ov (PTR gb7 0) else .one .und⟩,⟨some 107,ov (S (rI .i64) qd6)⟩,⟨some 108,ov (PTR gb15 0)⟩,⟨some 109,ov (PTR gb15 0)⟩,⟨some 110,ov (PTR gb15 (0 + 4))⟩,⟨some 111,ov (S (rI .i64) qe14)⟩,⟨some 112,ov (S rB v55)⟩,⟨some 113,ov (S rB v55)⟩,⟨some 114,ov (S rB v55)⟩,⟨some 115,bif v55 then ov (PTR gb7 0) else .one .und⟩,⟨some 116,bif v55 then ov (PTR gb15 0) else .one .und⟩,⟨some 117,bif v55 then ov (S (rI .i64) a2) else .one .und⟩,⟨some 118,ov (S rB v56)⟩,⟨some 119,ov (S rB v56)⟩,⟨some 120,ov (S rB v56)⟩,⟨some 121,bif v56 then ov (PTR gb7 0) else .one .und⟩,⟨some 122,bif v56 then ov (PTR gb15 0) else .one .und⟩,⟨some 123,ov (S rB v57)⟩,⟨some 124,ov (S rB v57)⟩,⟨some 8,ov (S rB v57)⟩])
                   (rs:=fun γ=>[⟨cvar gb7 (zq1 go9) ((),(qb3,(qg4,(qh5,(qd6,()))))),none,none,[1,7,16,27,32]⟩,⟨cqm go9 (S rS) Zaa qm10 (some x8),none,none,[1,7,16,27,32]⟩,⟨cvar gb15 zq9 ((),(qc11,(ql12,(qj13,(qe14,()))))),none,none,[3,11,20,27,32]⟩])
                   (afts:=nn 35) (js:=[0,0,0]) mixed (.cons rfl (.cons rfl (.cons rfl .nil))) (fun _=>rfl)
                   (by
      refine db 1 0<|dR 2 (fun γ ρ B hb hd=>Zag.lk ⟨ρ,(cvar gb7 (zq1 go9) ((),(qb3,(qg4,(qh5,(qd6,()))))))::(cqm go9 (S rS) Zaa qm10 (some x8))::B,_⟩ ((Zak (js:=[0,0]) ld cl11 (Zaq k qb3 qg4 qh5 qd6 x8 gb7 go9 qm10 v49 hv49) .func (.cons (tl hd 0 91) .nil) rfl).post (fun _=>Imp.pick (js:=[0,0]) rfl rfl)))<|db 3 1<|dR 4 (fun γ ρ B hb hd=>Zag.lk ⟨ρ,(cvar gb15 zq9 ((),(qc11,(ql12,(qj13,(qe14,()))))))::B,_⟩ ((Zak (js:=[0]) ld cl42 (Zby k qc11 ql12 qj13 qe14 gb15 () hv_u_50) .func (.cons (tl hd 2 93) .nil) rfl).post (fun _=>Imp.pick (js:=[0]) rfl rfl)))<|dS 5 (fun γ ρ B hb hd=>Zan lb (tl hd 1 92) (tl hd 3 94) (cs hv51)) ?_
      refine dm 6 4 95 ?_
      refine dT 7 5 96 v51 (fun γ=>ov (PTR gb7 0)) (fun γ ρ B hb hd hq32=>Zai lb (.tmp (hb 0 _ rfl))) ?_
      refine dY 8 (fun γ ρ B hb hd=>⟨.yes rfl (ltB rfl) (hl hd 5 96 rfl) hc34,Zag.lk ⟨ρ,(cvar gb7 (zq1 go9) ((),(qb3,(qg4,(qh5,(qd6,()))))))::(cqm go9 (S rS) Zaa qm10 (some x8))::B,_⟩ ((Zak (js:=[0,0]) ld cl25 (Za4 k qb3 qg4 qh5 qd6 x8 gb7 go9 qm10 () hv_u_52) .func (.cons (HasO.cnd (tl hd 6 97) hc34) .nil) rfl).post (fun _=>Imp.pick (js:=[0,0]) rfl rfl))⟩)<|dY 9 (fun γ ρ B hb hd=>⟨.yes rfl (ltB rfl) (hl hd 5 96 rfl) hc34,lkB (Zai lb (.tmp (hb 1 _ rfl)))⟩)<|dY 10 (fun γ ρ B hb hd=>⟨.yes rfl (ltB rfl) (hl hd 5 96 rfl) hc34,lkB (Zae lb (tl hd 8 99) (fun e v h=>by subst h; rfl))⟩)<|dY 11 (fun γ ρ B hb hd=>⟨.yes rfl (ltB rfl) (hl hd 5 96 rfl) hc34,lkB (Zad (off:=3) lb Zes (tl hd 9 100))⟩)<|dY 12 (fun γ ρ B hb hd=>⟨.yes rfl (ltB rfl) (hl hd 5 96 rfl) hc34,Zag.lk ⟨ρ,(cvar gb15 zq9 ((),(qc11,(ql12,(qj13,(qe14,()))))))::B,_⟩ (Zam (j:=0) lb tS4 (tl hd 10 101) rfl (Comp.trans (Comp.self zq9 ((),(qc11,(ql12,(qj13,(qe14,())))))) (Comp.at' (Comp.inS (Comp.inS (Comp.inS (Comp.inF (Comp.self rB qj13) (lE rfl))))) (by rfl : _ = 3)) (lE rfl)) rfl rfl)⟩) ?_
      refine dY 13 (fun γ ρ B hb hd=>⟨.yes rfl (ltB rfl) (hl hd 5 96 rfl) hc34,lkB (Zfs lb tu4 (tl hd 7 98) (tl hd 11 102) hv53)⟩)<|dS 14 (fun γ ρ B hb hd=>Zaw lb (tl hd 5 96) hc34 (tl hd 12 103))<|dm 15 13 104 ?_
      refine dT 16 14 105 v53 (fun γ=>ov (PTR gb7 0)) (fun γ ρ B hb hd hq35=>Zai lb (.tmp (hb 0 _ rfl))) ?_
      refine dY 17 (fun γ ρ B hb hd=>⟨.yes rfl (ltB rfl) (hl hd 14 105 rfl) hc37,Zag.lk ⟨ρ,(cvar gb7 (zq1 go9) ((),(qb3,(qg4,(qh5,(qd6,()))))))::(cqm go9 (S rS) Zaa qm10 (some x8))::B,_⟩ ((Zak (js:=[0,0]) ld cl26 (Zbh k qb3 qg4 qh5 qd6 x8 gb7 go9 qm10 () hv_u_54) .func (.cons (HasO.cnd (tl hd 15 106) hc37) .nil) rfl).post (fun _=>Imp.pick (js:=[0,0]) rfl rfl))⟩)<|dY 18 (fun γ ρ B hb hd=>⟨.yes rfl (ltB rfl) (hl hd 14 105 rfl) hc37,lkB (Zai lb (.tmp (hb 1 _ rfl)))⟩)<|dY 19 (fun γ ρ B hb hd=>⟨.yes rfl (ltB rfl) (hl hd 14 105 rfl) hc37,lkB (Zae lb (tl hd 17 108) (fun e v h=>by subst h; rfl))⟩)<|dY 20 (fun γ ρ B hb hd=>⟨.yes rfl (ltB rfl) (hl hd 14 105 rfl) hc37,lkB (Zad (off:=4) lb Zft (tl hd 18 109))⟩)<|dY 21 (fun γ ρ B hb hd=>⟨.yes rfl (ltB rfl) (hl hd 14 105 rfl) hc37,Zag.lk ⟨ρ,(cvar gb15 zq9 ((),(qc11,(ql12,(qj13,(qe14,()))))))::B,_⟩ (Zam (j:=0) lb tS3 (tl hd 19 110) rfl (Comp.trans (Comp.self zq9 ((),(qc11,(ql12,(qj13,(qe14,())))))) (Comp.at' (Comp.inS (Comp.inS (Comp.inS (Comp.inS (Comp.inF (Comp.self (rI .i64) qe14) (lE rfl)))))) (by rfl : _ = 4)) (lE rfl)) rfl rfl)⟩) ?_
      refine dY 22 (fun γ ρ B hb hd=>⟨.yes rfl (ltB rfl) (hl hd 14 105 rfl) hc37,lkB (Zan lb (tl hd 16 107) (tl hd 20 111) (cs hv55))⟩)<|dS 23 (fun γ ρ B hb hd=>Zaw lb (tl hd 14 105) hc37 (tl hd 21 112))<|dm 24 22 113 ?_
      refine dT 25 23 114 v55 (fun γ=>ov (PTR gb7 0)) (fun γ ρ B hb hd hq38=>Zai lb (.tmp (hb 0 _ rfl))) ?_
      refine dT 26 23 114 v55 (fun γ=>ov (PTR gb15 0)) (fun γ ρ B hb hd hq39=>Zai lb (.tmp (hb 1 _ rfl))) ?_
      refine dT 27 23 114 v55 (fun γ=>ov (S (rI .i64) a2)) (fun γ ρ B hb hd hq40=>Zai lb (.tmp (hb 3 _ rfl))) ?_
      refine dY 28 (fun γ ρ B hb hd=>⟨.yes rfl (ltB rfl) (hl hd 23 114 rfl) hc42,Zag.lk ⟨ρ,(cvar gb7 (zq1 go9) ((),(qb3,(qg4,(qh5,(qd6,()))))))::(cqm go9 (S rS) Zaa qm10 (some x8))::(cvar gb15 zq9 ((),(qc11,(ql12,(qj13,(qe14,()))))))::B,_⟩ ((Zak (js:=[0,0,0]) ld cl43 (ZbR k a2 qb3 qg4 qh5 qd6 x8 qc11 ql12 qj13 qe14 gb7 go9 qm10 gb15 v56 hv56) .func (.cons (HasO.cnd (tl hd 24 115) hc42) (.cons (HasO.cnd (tl hd 25 116) hc42) (.cons (HasO.cnd (tl hd 26 117) hc42) .nil))) rfl).post (fun _=>Imp.pick (js:=[0,0,0]) rfl rfl))⟩)<|dS 29 (fun γ ρ B hb hd=>Zaw lb (tl hd 23 114) hc42 (tl hd 27 118))<|dm 30 28 119 ?_
      refine dT 31 29 120 v56 (fun γ=>ov (PTR gb7 0)) (fun γ ρ B hb hd hq43=>Zai lb (.tmp (hb 0 _ rfl))) ?_
      refine dT 32 29 120 v56 (fun γ=>ov (PTR gb15 0)) (fun γ ρ B hb hd hq44=>Zai lb (.tmp (hb 1 _ rfl))) ?_
      refine dY 33 (fun γ ρ B hb hd=>⟨.yes rfl (ltB rfl) (hl hd 29 120 rfl) hc46,Zag.lk ⟨ρ,(cvar gb7 (zq1 go9) ((),(qb3,(qg4,(qh5,(qd6,()))))))::(cqm go9 (S rS) Zaa qm10 (some x8))::(cvar gb15 zq9 ((),(qc11,(ql12,(qj13,(qe14,()))))))::B,_⟩ ((Zak (js:=[0,0,0]) ld cl43 (ZbR k (0 : Int) qb3 qg4 qh5 qd6 x8 qc11 ql12 qj13 qe14 gb7 go9 qm10 gb15 v57 hv57) .func (.cons (HasO.cnd (tl hd 30 121) hc46) (.cons (HasO.cnd (tl hd 31 122) hc46) (.cons .cI .nil))) rfl).post (fun _=>Imp.pick (js:=[0,0,0]) rfl rfl))⟩)<|dS 34 (fun γ ρ B hb hd=>Zaw lb (tl hd 29 120) hc46 (tl hd 32 123))<|dS 35 (fun γ ρ B hb hd=>Zac lb (tl hd 33 124)) ?_
      exact Zat.nil)
                   (by decide +kernel) (fun _=>rfl) (fun _=>rfl) (fun _=>rfl) rfl
                   (ρ':=fun γ=>[(8,ov (S rB v57))])
                   (X':=fun γ=>[cvar gb7 (zq1 go9) ((),(qb3,(qg4,(qh5,(qd6,()))))),cqm go9 (S rS) Zaa qm10 (some x8),cvar gb15 zq9 ((),(qc11,(ql12,(qj13,(qe14,())))))])
                   (fun γ ρ hb hd=>(.cons (hdq hd 34 8 rfl) .nil)) (fun _=>rfl) (fun γ=>?_)
               refine JQ.at ⟨[(8,ov (S rB v57))],[cvar gb7 (zq1 go9) ((),(qb3,(qg4,(qh5,(qd6,()))))),cqm go9 (S rS) Zaa qm10 (some x8),cvar gb15 zq9 ((),(qc11,(ql12,(qj13,(qe14,())))))],[]⟩ ?_
               try obtain rfl:=so hx31
               exact JQ.join () (Imp.norm (js:=[0,0,0]) rfl (.cons rfl .nil))
             refine JC.anyF (base:=[(0,ov (PTR gb7 0)),(1,ov (PTR gb15 0)),(3,ov (S (rI .i64) a2))])
                 (fs:=fun γ=>[⟨some 91,ov (PTR gb7 0)⟩,⟨some 92,ov (S (rI .i64) v49)⟩,⟨some 93,ov (PTR gb15 0)⟩,⟨some 94,ov (S (rI .i64) qc11)⟩,⟨some 95,ov (S rB v51)⟩,⟨some 96,ov (S rB v51)⟩,⟨some 97,bif v51 then ov (PTR gb7 0) else .one .und⟩,⟨some 98,ov (S rB qh5)⟩,⟨some 99,ov (PTR gb15 0)⟩,⟨some 100,ov (PTR gb15 0)⟩,⟨some 101,ov (PTR gb15 (0 + 3))⟩,⟨some 102,ov (S rB qj13)⟩,⟨some 103,ov (S rB v53)⟩,⟨some 104,ov (S rB v53)⟩,⟨some 105,ov (S rB v53)⟩,⟨some 106,bif v53 then ov (PTR gb7 0) else .one .und⟩,⟨some 107,ov (S (rI .i64) qd6)⟩,⟨some 108,ov (PTR gb15 0)⟩,⟨some 109,ov (PTR gb15 0)⟩,⟨some 110,ov (PTR gb15 (0 + 4))⟩,⟨some 111,ov (S (rI .i64) qe14)⟩,⟨some 112,ov (S rB v55)⟩,⟨some 113,ov (S rB v55)⟩,⟨some 114,ov (S rB v55)⟩,⟨some 115,bif v55 then ov (PTR gb7 0) else .one .und⟩,⟨some 116,bif v55 then ov (PTR gb15 0) else .one .und⟩,⟨some 117,bif v55 then ov (S (rI .i64) a2) else .one .und⟩,⟨some 118,ov (S rB v56)⟩,⟨some 119,ov (S rB v56)⟩,⟨some 120,ov (S rB v56)⟩,⟨some 121,bif v56 then ov (PTR gb7 0) else .one .und⟩,⟨some 122,bif v56 then ov (PTR gb15 0) else .one .und⟩,⟨some 123,.one .und⟩,⟨some 124,ov (S rB false)⟩,⟨some 8,ov (S rB false)⟩])
                 (rs:=fun γ=>[⟨cvar gb7 (zq1 go9) ((),(qb3,(qg4,(qh5,(qd6,()))))),none,none,[1,7,16,27]⟩,⟨cqm go9 (S rS) Zaa qm10 (some x8),none,none,[1,7,16,27]⟩,⟨cvar gb15 zq9 ((),(qc11,(ql12,(qj13,(qe14,()))))),none,none,[3,11,20,27]⟩])
                 (afts:=nn 35) (js:=[0,0,0]) mixed (.cons rfl (.cons rfl (.cons rfl .nil))) (fun _=>rfl)
                 (by
      refine db 1 0<|dR 2 (fun γ ρ B hb hd=>Zag.lk ⟨ρ,(cvar gb7 (zq1 go9) ((),(qb3,(qg4,(qh5,(qd6,()))))))::(cqm go9 (S rS) Zaa qm10 (some x8))::B,_⟩ ((Zak (js:=[0,0]) ld cl11 (Zaq k qb3 qg4 qh5 qd6 x8 gb7 go9 qm10 v49 hv49) .func (.cons (tl hd 0 91) .nil) rfl).post (fun _=>Imp.pick (js:=[0,0]) rfl rfl)))<|db 3 1<|dR 4 (fun γ ρ B hb hd=>Zag.lk ⟨ρ,(cvar gb15 zq9 ((),(qc11,(ql12,(qj13,(qe14,()))))))::B,_⟩ ((Zak (js:=[0]) ld cl42 (Zby k qc11 ql12 qj13 qe14 gb15 () hv_u_50) .func (.cons (tl hd 2 93) .nil) rfl).post (fun _=>Imp.pick (js:=[0]) rfl rfl)))<|dS 5 (fun γ ρ B hb hd=>Zan lb (tl hd 1 92) (tl hd 3 94) (cs hv51)) ?_
      refine dm 6 4 95 ?_
      refine dT 7 5 96 v51 (fun γ=>ov (PTR gb7 0)) (fun γ ρ B hb hd hq32=>Zai lb (.tmp (hb 0 _ rfl))) ?_
      refine dY 8 (fun γ ρ B hb hd=>⟨.yes rfl (ltB rfl) (hl hd 5 96 rfl) hc34,Zag.lk ⟨ρ,(cvar gb7 (zq1 go9) ((),(qb3,(qg4,(qh5,(qd6,()))))))::(cqm go9 (S rS) Zaa qm10 (some x8))::B,_⟩ ((Zak (js:=[0,0]) ld cl25 (Za4 k qb3 qg4 qh5 qd6 x8 gb7 go9 qm10 () hv_u_52) .func (.cons (HasO.cnd (tl hd 6 97) hc34) .nil) rfl).post (fun _=>Imp.pick (js:=[0,0]) rfl rfl))⟩)<|dY 9 (fun γ ρ B hb hd=>⟨.yes rfl (ltB rfl) (hl hd 5 96 rfl) hc34,lkB (Zai lb (.tmp (hb 1 _ rfl)))⟩)<|dY 10 (fun γ ρ B hb hd=>⟨.yes rfl (ltB rfl) (hl hd 5 96 rfl) hc34,lkB (Zae lb (tl hd 8 99) (fun e v h=>by subst h; rfl))⟩)<|dY 11 (fun γ ρ B hb hd=>⟨.yes rfl (ltB rfl) (hl hd 5 96 rfl) hc34,lkB (Zad (off:=3) lb Zes (tl hd 9 100))⟩)<|dY 12 (fun γ ρ B hb hd=>⟨.yes rfl (ltB rfl) (hl hd 5 96 rfl) hc34,Zag.lk ⟨ρ,(cvar gb15 zq9 ((),(qc11,(ql12,(qj13,(qe14,()))))))::B,_⟩ (Zam (j:=0) lb tS4 (tl hd 10 101) rfl (Comp.trans (Comp.self zq9 ((),(qc11,(ql12,(qj13,(qe14,())))))) (Comp.at' (Comp.inS (Comp.inS (Comp.inS (Comp.inF (Comp.self rB qj13) (lE rfl))))) (by rfl : _ = 3)) (lE rfl)) rfl rfl)⟩) ?_
      refine dY 13 (fun γ ρ B hb hd=>⟨.yes rfl (ltB rfl) (hl hd 5 96 rfl) hc34,lkB (Zfs lb tu4 (tl hd 7 98) (tl hd 11 102) hv53)⟩)<|dS 14 (fun γ ρ B hb hd=>Zaw lb (tl hd 5 96) hc34 (tl hd 12 103))<|dm 15 13 104 ?_
      refine dT 16 14 105 v53 (fun γ=>ov (PTR gb7 0)) (fun γ ρ B hb hd hq35=>Zai lb (.tmp (hb 0 _ rfl))) ?_
      refine dY 17 (fun γ ρ B hb hd=>⟨.yes rfl (ltB rfl) (hl hd 14 105 rfl) hc37,Zag.lk ⟨ρ,(cvar gb7 (zq1 go9) ((),(qb3,(qg4,(qh5,(qd6,()))))))::(cqm go9 (S rS) Zaa qm10 (some x8))::B,_⟩ ((Zak (js:=[0,0]) ld cl26 (Zbh k qb3 qg4 qh5 qd6 x8 gb7 go9 qm10 () hv_u_54) .func (.cons (HasO.cnd (tl hd 15 106) hc37) .nil) rfl).post (fun _=>Imp.pick (js:=[0,0]) rfl rfl))⟩)<|dY 18 (fun γ ρ B hb hd=>⟨.yes rfl (ltB rfl) (hl hd 14 105 rfl) hc37,lkB (Zai lb (.tmp (hb 1 _ rfl)))⟩)<|dY 19 (fun γ ρ B hb hd=>⟨.yes rfl (ltB rfl) (hl hd 14 105 rfl) hc37,lkB (Zae lb (tl hd 17 108) (fun e v h=>by subst h; rfl))⟩)<|dY 20 (fun γ ρ B hb hd=>⟨.yes rfl (ltB rfl) (hl hd 14 105 rfl) hc37,lkB (Zad (off:=4) lb Zft (tl hd 18 109))⟩)<|dY 21 (fun γ ρ B hb hd=>⟨.yes rfl (ltB rfl) (hl hd 14 105 rfl) hc37,Zag.lk ⟨ρ,(cvar gb15 zq9 ((),(qc11,(ql12,(qj13,(qe14,()))))))::B,_⟩ (Zam (j:=0) lb tS3 (tl hd 19 110) rfl (Comp.trans (Comp.self zq9 ((),(qc11,(ql12,(qj13,(qe14,())))))) (Comp.at' (Comp.inS (Comp.inS (Comp.inS (Comp.inS (Comp.inF (Comp.self (rI .i64) qe14) (lE rfl)))))) (by rfl : _ = 4)) (lE rfl)) rfl rfl)⟩) ?_
      refine dY 22 (fun γ ρ B hb hd=>⟨.yes rfl (ltB rfl) (hl hd 14 105 rfl) hc37,lkB (Zan lb (tl hd 16 107) (tl hd 20 111) (cs hv55))⟩)<|dS 23 (fun γ ρ B hb hd=>Zaw lb (tl hd 14 105) hc37 (tl hd 21 112))<|dm 24 22 113 ?_
      refine dT 25 23 114 v55 (fun γ=>ov (PTR gb7 0)) (fun γ ρ B hb hd hq38=>Zai lb (.tmp (hb 0 _ rfl))) ?_
      refine dT 26 23 114 v55 (fun γ=>ov (PTR gb15 0)) (fun γ ρ B hb hd hq39=>Zai lb (.tmp (hb 1 _ rfl))) ?_
      refine dT 27 23 114 v55 (fun γ=>ov (S (rI .i64) a2)) (fun γ ρ B hb hd hq40=>Zai lb (.tmp (hb 3 _ rfl))) ?_
      refine dY 28 (fun γ ρ B hb hd=>⟨.yes rfl (ltB rfl) (hl hd 23 114 rfl) hc42,Zag.lk ⟨ρ,(cvar gb7 (zq1 go9) ((),(qb3,(qg4,(qh5,(qd6,()))))))::(cqm go9 (S rS) Zaa qm10 (some x8))::(cvar gb15 zq9 ((),(qc11,(ql12,(qj13,(qe14,()))))))::B,_⟩ ((Zak (js:=[0,0,0]) ld cl43 (ZbR k a2 qb3 qg4 qh5 qd6 x8 qc11 ql12 qj13 qe14 gb7 go9 qm10 gb15 v56 hv56) .func (.cons (HasO.cnd (tl hd 24 115) hc42) (.cons (HasO.cnd (tl hd 25 116) hc42) (.cons (HasO.cnd (tl hd 26 117) hc42) .nil))) rfl).post (fun _=>Imp.pick (js:=[0,0,0]) rfl rfl))⟩)<|dS 29 (fun γ ρ B hb hd=>Zaw lb (tl hd 23 114) hc42 (tl hd 27 118))<|dm 30 28 119 ?_
      refine dT 31 29 120 v56 (fun γ=>ov (PTR gb7 0)) (fun γ ρ B hb hd hq43=>Zai lb (.tmp (hb 0 _ rfl))) ?_
      refine dT 32 29 120 v56 (fun γ=>ov (PTR gb15 0)) (fun γ ρ B hb hd hq44=>Zai lb (.tmp (hb 1 _ rfl))) ?_
      refine kn 33 29 120 rfl hc46<|dS 34 (fun γ ρ B hb hd=>Zar lb (tl hd 29 120) hc46 .cB)<|dS 35 (fun γ ρ B hb hd=>Zac lb (tl hd 33 124)) ?_
      exact Zat.nil)
                 (by decide +kernel) (fun _=>rfl) (fun _=>rfl) (fun _=>rfl) rfl
                 (ρ':=fun γ=>[(8,ov (S rB false))])
                 (X':=fun γ=>[cvar gb7 (zq1 go9) ((),(qb3,(qg4,(qh5,(qd6,()))))),cqm go9 (S rS) Zaa qm10 (some x8),cvar gb15 zq9 ((),(qc11,(ql12,(qj13,(qe14,())))))])
                 (fun γ ρ hb hd=>(.cons (hdq hd 34 8 rfl) .nil)) (fun _=>rfl) (fun γ=>?_)
             refine JQ.at ⟨[(8,ov (S rB false))],[cvar gb7 (zq1 go9) ((),(qb3,(qg4,(qh5,(qd6,()))))),cqm go9 (S rS) Zaa qm10 (some x8),cvar gb15 zq9 ((),(qc11,(ql12,(qj13,(qe14,())))))],[]⟩ ?_
             try obtain rfl:=so hx31
             exact JQ.join () (Imp.norm (js:=[0,0,0]) rfl (.cons rfl .nil))
           refine JC.anyF (base:=[(0,ov (PTR gb7 0)),(1,ov (PTR gb15 0)),(3,ov (S (rI .i64) a2))])
               (fs:=fun γ=>[⟨some 91,ov (PTR gb7 0)⟩,⟨some 92,ov (S (rI .i64) v49)⟩,⟨some 93,ov (PTR gb15 0)⟩,⟨some 94,ov (S (rI .i64) qc11)⟩,⟨some 95,ov (S rB v51)⟩,⟨some 96,ov (S rB v51)⟩,⟨some 97,bif v51 then ov (PTR gb7 0) else .one .und⟩,⟨some 98,ov (S rB qh5)⟩,⟨some 99,ov (PTR gb15 0)⟩,⟨some 100,ov (PTR gb15 0)⟩,⟨some 101,ov (PTR gb15 (0 + 3))⟩,⟨some 102,ov (S rB qj13)⟩,⟨some 103,ov (S rB v53)⟩,⟨some 104,ov (S rB v53)⟩,⟨some 105,ov (S rB v53)⟩,⟨some 106,bif v53 then ov (PTR gb7 0) else .one .und⟩,⟨some 107,ov (S (rI .i64) qd6)⟩,⟨some 108,ov (PTR gb15 0)⟩,⟨some 109,ov (PTR gb15 0)⟩,⟨some 110,ov (PTR gb15 (0 + 4))⟩,⟨some 111,ov (S (rI .i64) qe14)⟩,⟨some 112,ov (S rB v55)⟩,⟨some 113,ov (S rB v55)⟩,⟨some 114,ov (S rB v55)⟩,⟨some 115,bif v55 then ov (PTR gb7 0) else .one .und⟩,⟨some 116,bif v55 then ov (PTR gb15 0) else .one .und⟩,⟨some 117,bif v55 then ov (S (rI .i64) a2) else .one .und⟩,⟨some 118,.one .und⟩,⟨some 119,ov (S rB false)⟩,⟨some 120,ov (S rB false)⟩,⟨some 121,.one .und⟩,⟨some 122,.one .und⟩,⟨some 123,.one .und⟩,⟨some 124,ov (S rB false)⟩,⟨some 8,ov (S rB false)⟩])
               (rs:=fun γ=>[⟨cvar gb7 (zq1 go9) ((),(qb3,(qg4,(qh5,(qd6,()))))),none,none,[1,7,16]⟩,⟨cqm go9 (S rS) Zaa qm10 (some x8),none,none,[1,7,16]⟩,⟨cvar gb15 zq9 ((),(qc11,(ql12,(qj13,(qe14,()))))),none,none,[3,11,20]⟩])
               (afts:=nn 35) (js:=[0,0,0]) mixed (.cons rfl (.cons rfl (.cons rfl .nil))) (fun _=>rfl)
               (by
      refine db 1 0<|dR 2 (fun γ ρ B hb hd=>Zag.lk ⟨ρ,(cvar gb7 (zq1 go9) ((),(qb3,(qg4,(qh5,(qd6,()))))))::(cqm go9 (S rS) Zaa qm10 (some x8))::B,_⟩ ((Zak (js:=[0,0]) ld cl11 (Zaq k qb3 qg4 qh5 qd6 x8 gb7 go9 qm10 v49 hv49) .func (.cons (tl hd 0 91) .nil) rfl).post (fun _=>Imp.pick (js:=[0,0]) rfl rfl)))<|db 3 1<|dR 4 (fun γ ρ B hb hd=>Zag.lk ⟨ρ,(cvar gb15 zq9 ((),(qc11,(ql12,(qj13,(qe14,()))))))::B,_⟩ ((Zak (js:=[0]) ld cl42 (Zby k qc11 ql12 qj13 qe14 gb15 () hv_u_50) .func (.cons (tl hd 2 93) .nil) rfl).post (fun _=>Imp.pick (js:=[0]) rfl rfl)))<|dS 5 (fun γ ρ B hb hd=>Zan lb (tl hd 1 92) (tl hd 3 94) (cs hv51)) ?_
      refine dm 6 4 95 ?_
      refine dT 7 5 96 v51 (fun γ=>ov (PTR gb7 0)) (fun γ ρ B hb hd hq32=>Zai lb (.tmp (hb 0 _ rfl))) ?_
      refine dY 8 (fun γ ρ B hb hd=>⟨.yes rfl (ltB rfl) (hl hd 5 96 rfl) hc34,Zag.lk ⟨ρ,(cvar gb7 (zq1 go9) ((),(qb3,(qg4,(qh5,(qd6,()))))))::(cqm go9 (S rS) Zaa qm10 (some x8))::B,_⟩ ((Zak (js:=[0,0]) ld cl25 (Za4 k qb3 qg4 qh5 qd6 x8 gb7 go9 qm10 () hv_u_52) .func (.cons (HasO.cnd (tl hd 6 97) hc34) .nil) rfl).post (fun _=>Imp.pick (js:=[0,0]) rfl rfl))⟩)<|dY 9 (fun γ ρ B hb hd=>⟨.yes rfl (ltB rfl) (hl hd 5 96 rfl) hc34,lkB (Zai lb (.tmp (hb 1 _ rfl)))⟩)<|dY 10 (fun γ ρ B hb hd=>⟨.yes rfl (ltB rfl) (hl hd 5 96 rfl) hc34,lkB (Zae lb (tl hd 8 99) (fun e v h=>by subst h; rfl))⟩)<|dY 11 (fun γ ρ B hb hd=>⟨.yes rfl (ltB rfl) (hl hd 5 96 rfl) hc34,lkB (Zad (off:=3) lb Zes (tl hd 9 100))⟩)<|dY 12 (fun γ ρ B hb hd=>⟨.yes rfl (ltB rfl) (hl hd 5 96 rfl) hc34,Zag.lk ⟨ρ,(cvar gb15 zq9 ((),(qc11,(ql12,(qj13,(qe14,()))))))::B,_⟩ (Zam (j:=0) lb tS4 (tl hd 10 101) rfl (Comp.trans (Comp.self zq9 ((),(qc11,(ql12,(qj13,(qe14,())))))) (Comp.at' (Comp.inS (Comp.inS (Comp.inS (Comp.inF (Comp.self rB qj13) (lE rfl))))) (by rfl : _ = 3)) (lE rfl)) rfl rfl)⟩) ?_
      refine dY 13 (fun γ ρ B hb hd=>⟨.yes rfl (ltB rfl) (hl hd 5 96 rfl) hc34,lkB (Zfs lb tu4 (tl hd 7 98) (tl hd 11 102) hv53)⟩)<|dS 14 (fun γ ρ B hb hd=>Zaw lb (tl hd 5 96) hc34 (tl hd 12 103))<|dm 15 13 104 ?_
      refine dT 16 14 105 v53 (fun γ=>ov (PTR gb7 0)) (fun γ ρ B hb hd hq35=>Zai lb (.tmp (hb 0 _ rfl))) ?_
      refine dY 17 (fun γ ρ B hb hd=>⟨.yes rfl (ltB rfl) (hl hd 14 105 rfl) hc37,Zag.lk ⟨ρ,(cvar gb7 (zq1 go9) ((),(qb3,(qg4,(qh5,(qd6,()))))))::(cqm go9 (S rS) Zaa qm10 (some x8))::B,_⟩ ((Zak (js:=[0,0]) ld cl26 (Zbh k qb3 qg4 qh5 qd6 x8 gb7 go9 qm10 () hv_u_54) .func (.cons (HasO.cnd (tl hd 15 106) hc37) .nil) rfl).post (fun _=>Imp.pick (js:=[0,0]) rfl rfl))⟩)<|dY 18 (fun γ ρ B hb hd=>⟨.yes rfl (ltB rfl) (hl hd 14 105 rfl) hc37,lkB (Zai lb (.tmp (hb 1 _ rfl)))⟩)<|dY 19 (fun γ ρ B hb hd=>⟨.yes rfl (ltB rfl) (hl hd 14 105 rfl) hc37,lkB (Zae lb (tl hd 17 108) (fun e v h=>by subst h; rfl))⟩)<|dY 20 (fun γ ρ B hb hd=>⟨.yes rfl (ltB rfl) (hl hd 14 105 rfl) hc37,lkB (Zad (off:=4) lb Zft (tl hd 18 109))⟩)<|dY 21 (fun γ ρ B hb hd=>⟨.yes rfl (ltB rfl) (hl hd 14 105 rfl) hc37,Zag.lk ⟨ρ,(cvar gb15 zq9 ((),(qc11,(ql12,(qj13,(qe14,()))))))::B,_⟩ (Zam (j:=0) lb tS3 (tl hd 19 110) rfl (Comp.trans (Comp.self zq9 ((),(qc11,(ql12,(qj13,(qe14,())))))) (Comp.at' (Comp.inS (Comp.inS (Comp.inS (Comp.inS (Comp.inF (Comp.self (rI .i64) qe14) (lE rfl)))))) (by rfl : _ = 4)) (lE rfl)) rfl rfl)⟩) ?_
      refine dY 22 (fun γ ρ B hb hd=>⟨.yes rfl (ltB rfl) (hl hd 14 105 rfl) hc37,lkB (Zan lb (tl hd 16 107) (tl hd 20 111) (cs hv55))⟩)<|dS 23 (fun γ ρ B hb hd=>Zaw lb (tl hd 14 105) hc37 (tl hd 21 112))<|dm 24 22 113 ?_
      refine dT 25 23 114 v55 (fun γ=>ov (PTR gb7 0)) (fun γ ρ B hb hd hq38=>Zai lb (.tmp (hb 0 _ rfl))) ?_
      refine dT 26 23 114 v55 (fun γ=>ov (PTR gb15 0)) (fun γ ρ B hb hd hq39=>Zai lb (.tmp (hb 1 _ rfl))) ?_
      refine dT 27 23 114 v55 (fun γ=>ov (S (rI .i64) a2)) (fun γ ρ B hb hd hq40=>Zai lb (.tmp (hb 3 _ rfl))) ?_
      refine kn 28 23 114 rfl hc42<|dS 29 (fun γ ρ B hb hd=>Zar lb (tl hd 23 114) hc42 .cB)<|dm 30 28 119<|kn 31 29 120 rfl rfl<|kn 32 29 120 rfl rfl ?_
      refine kn 33 29 120 rfl rfl<|dS 34 (fun γ ρ B hb hd=>Zar lb (tl hd 29 120) rfl .cB)<|dS 35 (fun γ ρ B hb hd=>Zac lb (tl hd 33 124)) ?_
      exact Zat.nil)
               (by decide +kernel) (fun _=>rfl) (fun _=>rfl) (fun _=>rfl) rfl
               (ρ':=fun γ=>[(8,ov (S rB false))])
               (X':=fun γ=>[cvar gb7 (zq1 go9) ((),(qb3,(qg4,(qh5,(qd6,()))))),cqm go9 (S rS) Zaa qm10 (some x8),cvar gb15 zq9 ((),(qc11,(ql12,(qj13,(qe14,())))))])
               (fun γ ρ hb hd=>(.cons (hdq hd 34 8 rfl) .nil)) (fun _=>rfl) (fun γ=>?_)
           refine JQ.at ⟨[(8,ov (S rB false))],[cvar gb7 (zq1 go9) ((),(qb3,(qg4,(qh5,(qd6,()))))),cqm go9 (S rS) Zaa qm10 (some x8),cvar gb15 zq9 ((),(qc11,(ql12,(qj13,(qe14,())))))],[]⟩ ?_
           try obtain rfl:=so hx31
           exact JQ.join () (Imp.norm (js:=[0,0,0]) rfl (.cons rfl .nil))
         refine JC.anyF (base:=[(0,ov (PTR gb7 0)),(1,ov (PTR gb15 0))])
             (fs:=fun γ=>[⟨some 91,ov (PTR gb7 0)⟩,⟨some 92,ov (S (rI .i64) v49)⟩,⟨some 93,ov (PTR gb15 0)⟩,⟨some 94,ov (S (rI .i64) qc11)⟩,⟨some 95,ov (S rB v51)⟩,⟨some 96,ov (S rB v51)⟩,⟨some 97,bif v51 then ov (PTR gb7 0) else .one .und⟩,⟨some 98,ov (S rB qh5)⟩,⟨some 99,ov (PTR gb15 0)⟩,⟨some 100,ov (PTR gb15 0)⟩,⟨some 101,ov (PTR gb15 (0 + 3))⟩,⟨some 102,ov (S rB qj13)⟩,⟨some 103,ov (S rB v53)⟩,⟨some 104,ov (S rB v53)⟩,⟨some 105,ov (S rB v53)⟩,⟨some 106,bif v53 then ov (PTR gb7 0) else .one .und⟩,⟨some 107,.one .und⟩,⟨some 108,.one .und⟩,⟨some 109,.one .und⟩,⟨some 110,.one .und⟩,⟨some 111,.one .und⟩,⟨some 112,.one .und⟩,⟨some 113,ov (S rB false)⟩,⟨some 114,ov (S rB false)⟩,⟨some 115,.one .und⟩,⟨some 116,.one .und⟩,⟨some 117,.one .und⟩,⟨some 118,.one .und⟩,⟨some 119,ov (S rB false)⟩,⟨some 120,ov (S rB false)⟩,⟨some 121,.one .und⟩,⟨some 122,.one .und⟩,⟨some 123,.one .und⟩,⟨some 124,ov (S rB false)⟩,⟨some 8,ov (S rB false)⟩])
             (rs:=fun γ=>[⟨cvar gb7 (zq1 go9) ((),(qb3,(qg4,(qh5,(qd6,()))))),none,none,[1,7]⟩,⟨cqm go9 (S rS) Zaa qm10 (some x8),none,none,[1,7]⟩,⟨cvar gb15 zq9 ((),(qc11,(ql12,(qj13,(qe14,()))))),none,none,[3,11]⟩])
             (afts:=nn 35) (js:=[0,0,0]) mixed (.cons rfl (.cons rfl .nil)) (fun _=>rfl)
             (by
      refine db 1 0<|dR 2 (fun γ ρ B hb hd=>Zag.lk ⟨ρ,(cvar gb7 (zq1 go9) ((),(qb3,(qg4,(qh5,(qd6,()))))))::(cqm go9 (S rS) Zaa qm10 (some x8))::B,_⟩ ((Zak (js:=[0,0]) ld cl11 (Zaq k qb3 qg4 qh5 qd6 x8 gb7 go9 qm10 v49 hv49) .func (.cons (tl hd 0 91) .nil) rfl).post (fun _=>Imp.pick (js:=[0,0]) rfl rfl)))<|db 3 1<|dR 4 (fun γ ρ B hb hd=>Zag.lk ⟨ρ,(cvar gb15 zq9 ((),(qc11,(ql12,(qj13,(qe14,()))))))::B,_⟩ ((Zak (js:=[0]) ld cl42 (Zby k qc11 ql12 qj13 qe14 gb15 () hv_u_50) .func (.cons (tl hd 2 93) .nil) rfl).post (fun _=>Imp.pick (js:=[0]) rfl rfl)))<|dS 5 (fun γ ρ B hb hd=>Zan lb (tl hd 1 92) (tl hd 3 94) (cs hv51)) ?_
      refine dm 6 4 95 ?_
      refine dT 7 5 96 v51 (fun γ=>ov (PTR gb7 0)) (fun γ ρ B hb hd hq32=>Zai lb (.tmp (hb 0 _ rfl))) ?_
      refine dY 8 (fun γ ρ B hb hd=>⟨.yes rfl (ltB rfl) (hl hd 5 96 rfl) hc34,Zag.lk ⟨ρ,(cvar gb7 (zq1 go9) ((),(qb3,(qg4,(qh5,(qd6,()))))))::(cqm go9 (S rS) Zaa qm10 (some x8))::B,_⟩ ((Zak (js:=[0,0]) ld cl25 (Za4 k qb3 qg4 qh5 qd6 x8 gb7 go9 qm10 () hv_u_52) .func (.cons (HasO.cnd (tl hd 6 97) hc34) .nil) rfl).post (fun _=>Imp.pick (js:=[0,0]) rfl rfl))⟩)<|dY 9 (fun γ ρ B hb hd=>⟨.yes rfl (ltB rfl) (hl hd 5 96 rfl) hc34,lkB (Zai lb (.tmp (hb 1 _ rfl)))⟩)<|dY 10 (fun γ ρ B hb hd=>⟨.yes rfl (ltB rfl) (hl hd 5 96 rfl) hc34,lkB (Zae lb (tl hd 8 99) (fun e v h=>by subst h; rfl))⟩)<|dY 11 (fun γ ρ B hb hd=>⟨.yes rfl (ltB rfl) (hl hd 5 96 rfl) hc34,lkB (Zad (off:=3) lb Zes (tl hd 9 100))⟩)<|dY 12 (fun γ ρ B hb hd=>⟨.yes rfl (ltB rfl) (hl hd 5 96 rfl) hc34,Zag.lk ⟨ρ,(cvar gb15 zq9 ((),(qc11,(ql12,(qj13,(qe14,()))))))::B,_⟩ (Zam (j:=0) lb tS4 (tl hd 10 101) rfl (Comp.trans (Comp.self zq9 ((),(qc11,(ql12,(qj13,(qe14,())))))) (Comp.at' (Comp.inS (Comp.inS (Comp.inS (Comp.inF (Comp.self rB qj13) (lE rfl))))) (by rfl : _ = 3)) (lE rfl)) rfl rfl)⟩) ?_
      refine dY 13 (fun γ ρ B hb hd=>⟨.yes rfl (ltB rfl) (hl hd 5 96 rfl) hc34,lkB (Zfs lb tu4 (tl hd 7 98) (tl hd 11 102) hv53)⟩)<|dS 14 (fun γ ρ B hb hd=>Zaw lb (tl hd 5 96) hc34 (tl hd 12 103))<|dm 15 13 104 ?_
      refine dT 16 14 105 v53 (fun γ=>ov (PTR gb7 0)) (fun γ ρ B hb hd hq35=>Zai lb (.tmp (hb 0 _ rfl))) ?_
      refine kn 17 14 105 rfl hc37<|kn 18 14 105 rfl hc37<|kn 19 14 105 rfl hc37<|kn 20 14 105 rfl hc37<|kn 21 14 105 rfl hc37 ?_
      refine kn 22 14 105 rfl hc37<|dS 23 (fun γ ρ B hb hd=>Zar lb (tl hd 14 105) hc37 .cB)<|dm 24 22 113<|kn 25 23 114 rfl rfl<|kn 26 23 114 rfl rfl ?_
      refine kn 27 23 114 rfl rfl<|kn 28 23 114 rfl rfl<|dS 29 (fun γ ρ B hb hd=>Zar lb (tl hd 23 114) rfl .cB)<|dm 30 28 119<|kn 31 29 120 rfl rfl ?_
      refine kn 32 29 120 rfl rfl<|kn 33 29 120 rfl rfl<|dS 34 (fun γ ρ B hb hd=>Zar lb (tl hd 29 120) rfl .cB)<|dS 35 (fun γ ρ B hb hd=>Zac lb (tl hd 33 124)) ?_
      exact Zat.nil)
             (by decide +kernel) (fun _=>rfl) (fun _=>rfl) (fun _=>rfl) rfl
             (ρ':=fun γ=>[(8,ov (S rB false))])
             (X':=fun γ=>[cvar gb7 (zq1 go9) ((),(qb3,(qg4,(qh5,(qd6,()))))),cqm go9 (S rS) Zaa qm10 (some x8),cvar gb15 zq9 ((),(qc11,(ql12,(qj13,(qe14,())))))])
             (fun γ ρ hb hd=>(.cons (hdq hd 34 8 rfl) .nil)) (fun _=>rfl) (fun γ=>?_)
         refine JQ.at ⟨[(8,ov (S rB false))],[cvar gb7 (zq1 go9) ((),(qb3,(qg4,(qh5,(qd6,()))))),cqm go9 (S rS) Zaa qm10 (some x8),cvar gb15 zq9 ((),(qc11,(ql12,(qj13,(qe14,())))))],[]⟩ ?_
         try obtain rfl:=so hx31
         exact JQ.join () (Imp.norm (js:=[0,0,0]) rfl (.cons rfl .nil))
       refine JC.anyF (base:=[(0,ov (PTR gb7 0)),(1,ov (PTR gb15 0))])
           (fs:=fun γ=>[⟨some 91,ov (PTR gb7 0)⟩,⟨some 92,ov (S (rI .i64) v49)⟩,⟨some 93,ov (PTR gb15 0)⟩,⟨some 94,ov (S (rI .i64) qc11)⟩,⟨some 95,ov (S rB v51)⟩,⟨some 96,ov (S rB v51)⟩,⟨some 97,bif v51 then ov (PTR gb7 0) else .one .und⟩,⟨some 98,.one .und⟩,⟨some 99,.one .und⟩,⟨some 100,.one .und⟩,⟨some 101,.one .und⟩,⟨some 102,.one .und⟩,⟨some 103,.one .und⟩,⟨some 104,ov (S rB false)⟩,⟨some 105,ov (S rB false)⟩,⟨some 106,.one .und⟩,⟨some 107,.one .und⟩,⟨some 108,.one .und⟩,⟨some 109,.one .und⟩,⟨some 110,.one .und⟩,⟨some 111,.one .und⟩,⟨some 112,.one .und⟩,⟨some 113,ov (S rB false)⟩,⟨some 114,ov (S rB false)⟩,⟨some 115,.one .und⟩,⟨some 116,.one .und⟩,⟨some 117,.one .und⟩,⟨some 118,.one .und⟩,⟨some 119,ov (S rB false)⟩,⟨some 120,ov (S rB false)⟩,⟨some 121,.one .und⟩,⟨some 122,.one .und⟩,⟨some 123,.one .und⟩,⟨some 124,ov (S rB false)⟩,⟨some 8,ov (S rB false)⟩])
           (rs:=fun γ=>[⟨cvar gb7 (zq1 go9) ((),(qb3,(qg4,(qh5,(qd6,()))))),none,none,[1]⟩,⟨cqm go9 (S rS) Zaa qm10 (some x8),none,none,[1]⟩,⟨cvar gb15 zq9 ((),(qc11,(ql12,(qj13,(qe14,()))))),none,none,[3]⟩])
           (afts:=nn 35) (js:=[0,0,0]) mixed (.cons rfl (.cons rfl .nil)) (fun _=>rfl)
           (by
      refine db 1 0<|dR 2 (fun γ ρ B hb hd=>Zag.lk ⟨ρ,(cvar gb7 (zq1 go9) ((),(qb3,(qg4,(qh5,(qd6,()))))))::(cqm go9 (S rS) Zaa qm10 (some x8))::B,_⟩ ((Zak (js:=[0,0]) ld cl11 (Zaq k qb3 qg4 qh5 qd6 x8 gb7 go9 qm10 v49 hv49) .func (.cons (tl hd 0 91) .nil) rfl).post (fun _=>Imp.pick (js:=[0,0]) rfl rfl)))<|db 3 1<|dR 4 (fun γ ρ B hb hd=>Zag.lk ⟨ρ,(cvar gb15 zq9 ((),(qc11,(ql12,(qj13,(qe14,()))))))::B,_⟩ ((Zak (js:=[0]) ld cl42 (Zby k qc11 ql12 qj13 qe14 gb15 () hv_u_50) .func (.cons (tl hd 2 93) .nil) rfl).post (fun _=>Imp.pick (js:=[0]) rfl rfl)))<|dS 5 (fun γ ρ B hb hd=>Zan lb (tl hd 1 92) (tl hd 3 94) (cs hv51)) ?_
      refine dm 6 4 95 ?_
      refine dT 7 5 96 v51 (fun γ=>ov (PTR gb7 0)) (fun γ ρ B hb hd hq32=>Zai lb (.tmp (hb 0 _ rfl))) ?_
      refine kn 8 5 96 rfl hc34<|kn 9 5 96 rfl hc34<|kn 10 5 96 rfl hc34<|kn 11 5 96 rfl hc34<|kn 12 5 96 rfl hc34 ?_
      refine kn 13 5 96 rfl hc34<|dS 14 (fun γ ρ B hb hd=>Zar lb (tl hd 5 96) hc34 .cB)<|dm 15 13 104<|kn 16 14 105 rfl rfl<|kn 17 14 105 rfl rfl ?_
      refine kn 18 14 105 rfl rfl<|kn 19 14 105 rfl rfl<|kn 20 14 105 rfl rfl<|kn 21 14 105 rfl rfl<|kn 22 14 105 rfl rfl ?_
      refine dS 23 (fun γ ρ B hb hd=>Zar lb (tl hd 14 105) rfl .cB)<|dm 24 22 113<|kn 25 23 114 rfl rfl<|kn 26 23 114 rfl rfl<|kn 27 23 114 rfl rfl ?_
      refine kn 28 23 114 rfl rfl<|dS 29 (fun γ ρ B hb hd=>Zar lb (tl hd 23 114) rfl .cB)<|dm 30 28 119<|kn 31 29 120 rfl rfl<|kn 32 29 120 rfl rfl ?_
      refine kn 33 29 120 rfl rfl<|dS 34 (fun γ ρ B hb hd=>Zar lb (tl hd 29 120) rfl .cB)<|dS 35 (fun γ ρ B hb hd=>Zac lb (tl hd 33 124)) ?_
      exact Zat.nil)
           (by decide +kernel) (fun _=>rfl) (fun _=>rfl) (fun _=>rfl) rfl
           (ρ':=fun γ=>[(8,ov (S rB false))])
           (X':=fun γ=>[cvar gb7 (zq1 go9) ((),(qb3,(qg4,(qh5,(qd6,()))))),cqm go9 (S rS) Zaa qm10 (some x8),cvar gb15 zq9 ((),(qc11,(ql12,(qj13,(qe14,())))))])
           (fun γ ρ hb hd=>(.cons (hdq hd 34 8 rfl) .nil)) (fun _=>rfl) (fun γ=>?_)
       refine JQ.at ⟨[(8,ov (S rB false))],[cvar gb7 (zq1 go9) ((),(qb3,(qg4,(qh5,(qd6,()))))),cqm go9 (S rS) Zaa qm10 (some x8),cvar gb15 zq9 ((),(qc11,(ql12,(qj13,(qe14,())))))],[]⟩ ?_
       try obtain rfl:=so hx31
       exact JQ.join () (Imp.norm (js:=[0,0,0]) rfl (.cons rfl .nil))
     refine jr<|jc (Zac lb .cI)<|jn<|JC.block<|JC.pre ?_ (JC.loop (γ:=Unit) (stf:=fun s q=>⟨[(0,ov (PTR gb7 0)),(1,ov (PTR gb15 0)),(3,ov (S (rI .i64) a2)),(9,ov (HDR go18 0 (List.length s.1) gc19)),(15,ov (S (rI .i64) s.2))],[cvar gb7 (zq1 go9) ((),(qb3,(qg4,(qh5,(qd6,()))))),cqm go9 (S rS) Zaa qm10 (some x8),cvar gb15 zq9 ((),(qc11,(ql12,(qj13,(qe14,()))))),cown go18 (rU UInt8) s.1 0 gc19],[]⟩) (q:=()) hx28 ?_)
     · exact (Imp.norm (js:=[0,0,0,0]) rfl (.cons rfl (.cons rfl (.cons rfl (.cons rfl (.cons rfl .nil))))))
     intro s q x hx hr
     obtain ⟨x40,x41⟩:=s
     obtain _:=q
     change law05_looks_ppvv_smvvvvmsnvvvv.b1 k x40 x41 = some x at hx
     unfold law05_looks_ppvv_smvvvvmsnvvvv.b1 at hx
     refine JC.at ⟨[(0,ov (PTR gb7 0)),(1,ov (PTR gb15 0)),(3,ov (S (rI .i64) a2)),(9,ov (HDR go18 0 (List.length x40) gc19)),(15,ov (S (rI .i64) x41))],[cvar gb7 (zq1 go9) ((),(qb3,(qg4,(qh5,(qd6,()))))),cqm go9 (S rS) Zaa qm10 (some x8),cvar gb15 zq9 ((),(qc11,(ql12,(qj13,(qe14,()))))),cown go18 (rU UInt8) x40 0 gc19],[]⟩<|JC.seq<|jr<|jmv rfl rfl<|jmv rfl rfl<|jc (Zb2 lb tu31 tR)<|lI hx fun v42 hv42 hx=>jc (Zan lb tR tR (cs hv42))<|jn<|jif tR hx (fun hc30 hx=>?_) (fun hc30 hx=>?_)
     · refine JC.skip<|JQ.then<|JC.seq<|JC.block<|JC.region<|jmv rfl rfl<|jmv rfl rfl<|jmv rfl rfl<|jmv rfl rfl<|bI hx fun i43 hv_i_43 hx=>jc (Zap (r:=(rU UInt8)) (j:=3) lb tu31 tz5 rfl tR tR hv_i_43)<|bI hx fun v44 hv44 hx=>jc (Zbf (r:=(rU UInt8)) (i:=i43) (off:=0) (j:=3) lb tS5 rfl rfl tR hv44 (Comp.self (rU UInt8) v44) (by decide))<|lI hx fun v45 hv45 hx=>jc (Zj6 lb tR (HasO.cU (x:=(1 : UInt8)) rfl (by decide)) (cs hv45)) ?_
       refine bI hx fun i46 hv_i_46 hx=>jc (Zap (r:=(rU UInt8)) (j:=3) lb tu31 tz5 rfl tR tR hv_i_46)<|JL.sub ⟨[(0,ov (PTR gb7 0)),(1,ov (PTR gb15 0)),(3,ov (S (rI .i64) a2)),(9,ov (HDR go18 0 (List.length x40) gc19)),(15,ov (S (rI .i64) x41)),(89,ov (S (rU UInt8) v45)),(90,ov (EPT go18 (i46 * 1)))],[cvar gb7 (zq1 go9) ((),(qb3,(qg4,(qh5,(qd6,()))))),cqm go9 (S rS) Zaa qm10 (some x8),cvar gb15 zq9 ((),(qc11,(ql12,(qj13,(qe14,()))))),cown go18 (rU UInt8) x40 0 gc19],[]⟩ (.cons rfl (.cons rfl (.cons rfl (.cons rfl (.cons rfl (.cons rfl (.cons rfl .nil))))))) rfl rfl<|bI hx fun x47 hv_x_47 hx=>jc (Ze0 (r:=(rU UInt8)) (j:=3) tS5 rfl rfl tR tR hv_x_47)<|JL.pre (Imp.slot (s:=9) (q:=HDR go18 0 (List.length x47) gc19) rfl (ZgA (ZeF hv_x_47)))<|JL.nil<|JQ.outNB<|JQ.then<|JC.region<|jmv rfl rfl ?_
       refine lI hx fun v48 hv48 hx=>jc (Zbx lb tR .cI (cs hv48))<|jc (Zac lb tR)<|JL.nil ?_
       try obtain rfl:=so hx
       exact JQ.next () rfl (Imp.norm (js:=[0,0,0,0]) rfl (.cons rfl (.cons rfl (.cons rfl (.cons rfl (.cons rfl .nil))))))
     refine JC.exit<|JQ.outX ?_
     try obtain rfl:=so hx
     have ht:=hr _ rfl
     have hq29:=cs ht
     clear hr ht
     exact JQ.outX<|JQ.here<|JQ.join () (Imp.norm (js:=[0,0,0]) rfl (.cons rfl (.cons rfl (.cons rfl .nil))))
   refine jr<|jmv rfl rfl<|lI hx8 fun v29 hv29 hx8=>jc (Zan lb tR .cI (cs hv29))<|jn<|jif tR hx8 (fun hc9 hx8=>?_) (fun hc9 hx8=>?_)
   · refine bI hx8 fun x33 hx10 hq10=>JC.seqJ (γ:=Unit) (stj:=fun _=>⟨[(0,ov (PTR gb7 0)),(1,ov (PTR gb15 0)),(3,ov (S (rI .i64) a2)),(9,ov (HDR go18 0 (List.length v16) gc19)),(52,ov (S rB x33))],[cvar gb7 (zq1 go9) ((),(qb3,(qg4,(qh5,(qd6,()))))),cqm go9 (S rS) Zaa qm10 (some x8),cvar gb15 zq9 ((),(qc11,(ql12,(qj13,(qe14,()))))),cown go18 (rU UInt8) v16 0 gc19],[]⟩) (fun _=>?_) ?_
     · refine jif tR hq10 (fun hc14 hq10=>?_) (fun hc14 hq10=>?_)
       · refine jr<|jc (Zac lb .cB)<|jn<|JC.ret ?_
         try obtain rfl:=so hq10
         dsimp only at hq8
         refine JQ.outR ?_
         obtain rfl:=so hq8
         exact JQ.done (js:=[0,0,0]) (ss:=[.val (S rB false)]) () (.inl rfl) (.nil rfl) rfl (.cons (.tmp rfl) .nil) rfl rfl rfl
       refine JC.skip ?_
       try obtain rfl:=so hq10
       exact JQ.joinK () () rfl (Imp.norm (js:=[0,0,0,0]) rfl (.cons rfl (.cons rfl (.cons rfl (.cons rfl .nil)))))
     refine JC.region<|jmv rfl rfl<|jc (Zb2 lb tu31 tR)<|lI hx10 fun v30 hv30 hx10=>jc (Zan lb tR .cI (cs hv30))<|jmv rfl rfl<|jF (ov (S (rI .i64) v20)) rfl rfl rfl rfl (fun hq11=>Zai lb tR)<|lI hx10 fun v31 hv31 hx10=>jF (ov (S rB v31)) rfl rfl rfl rfl (fun hq12=>Zan lb (HasO.cnd tR (notT (notF hq12))) .cI (cs hv31))<|lI hx10 fun v32 hv32 hx10=>jc (Za8 lb tR (fun hb13=>.cB) (fun hb13=>(HasO.cnd tR (notT hb13))) hv32)<|JL.nil ?_
     try obtain rfl:=so hx10
     exact JQ.join () (Imp.norm (js:=[0,0,0,0]) rfl (.cons rfl (.cons rfl (.cons rfl (.cons rfl (.cons rfl .nil))))))
   refine bI hx8 fun x39 hx15 hq15=>JC.seqJ (γ:=Unit) (stj:=fun _=>⟨[(0,ov (PTR gb7 0)),(1,ov (PTR gb15 0)),(3,ov (S (rI .i64) a2)),(9,ov (HDR go18 0 (List.length v16) gc19)),(76,ov (S rB x39))],[cvar gb7 (zq1 go9) ((),(qb3,(qg4,(qh5,(qd6,()))))),cqm go9 (S rS) Zaa qm10 (some x8),cvar gb15 zq9 ((),(qc11,(ql12,(qj13,(qe14,()))))),cown go18 (rU UInt8) v16 0 gc19],[]⟩) (fun _=>?_) ?_
   · refine jif tR hq15 (fun hc27 hq15=>?_) (fun hc27 hq15=>?_)
     · refine jr<|jc (Zac lb .cB)<|jn<|JC.ret ?_
       try obtain rfl:=so hq15
       dsimp only at hq8
       refine JQ.outR ?_
       obtain rfl:=so hq8
       exact JQ.done (js:=[0,0,0]) (ss:=[.val (S rB false)]) () (.inl rfl) (.nil rfl) rfl (.cons (.tmp rfl) .nil) rfl rfl rfl
     refine JC.skip ?_
     try obtain rfl:=so hq15
     exact JQ.joinK () () rfl (Imp.norm (js:=[0,0,0,0]) rfl (.cons rfl (.cons rfl (.cons rfl (.cons rfl .nil)))))
   refine bI hx15 fun v34 hv34 hx15=>lI hx15 fun v35 hv35 hx15=>bI hx15 fun v36 hv36 hx15=>lI hx15 fun v37 hv37 hx15=>?_
   obtain ⟨v38,hv38,hx15⟩:=Za2 hx15
   refine JC.anyF (base:=[(0,ov (PTR gb7 0)),(1,ov (PTR gb15 0)),(3,ov (S (rI .i64) a2)),(9,ov (HDR go18 0 (List.length v16) gc19)),(11,ov (S (rI .i64) v20)),(13,ov (S (rI .i64) (0 : Int)))])
       (fs:=fun γ=>[⟨some 53,ov (HDR go18 0 (List.length v16) gc19)⟩,⟨some 54,ov (S rS v16)⟩,⟨some 55,ov (PTR gb15 0)⟩,⟨some 56,ov (PTR gb15 0)⟩,⟨some 57,ov (PTR gb15 (0 + 0))⟩,⟨some 58,ov (HDR none 0 0 0)⟩,⟨some 59,ov (S (rI .i64) (0 : Int))⟩,⟨some 60,ov (PT Zab v34)⟩,⟨some 61,ov (PT (rL (rU UInt8)) v34.B)⟩,⟨some 62,ov (S (rL (rU UInt8)) v34.B)⟩,⟨some 63,ov (S rS v34.B)⟩,⟨some 64,ov (S rB v35)⟩,⟨some 65,ov (S rB v35)⟩,⟨some 66,bif (!v35) then ov (S (rI .i64) v20) else .one .und⟩,⟨some 67,bif (!v35) then ov (PTR gb15 0) else .one .und⟩,⟨some 68,bif (!v35) then ov (PTR gb15 0) else .one .und⟩,⟨some 69,bif (!v35) then ov (PTR gb15 (0 + 0)) else .one .und⟩,⟨some 70,bif (!v35) then ov (HDR none 0 0 0) else .one .und⟩,⟨some 71,bif (!v35) then ov (S (rI .i64) (0 : Int)) else .one .und⟩,⟨some 72,bif (!v35) then ov (PT Zab v36) else .one .und⟩,⟨some 73,bif (!v35) then ov (PT (rI .i64) v36.Lasts) else .one .und⟩,⟨some 74,bif (!v35) then ov (S (rI .i64) v36.Lasts) else .one .und⟩,⟨some 75,bif (!v35) then ov (S rB v37) else .one .und⟩,⟨some 76,ov (S rB v38)⟩])
       (rs:=fun γ=>[⟨cvar gb7 (zq1 go9) ((),(qb3,(qg4,(qh5,(qd6,()))))),none,none,[]⟩,⟨cqm go9 (S rS) Zaa qm10 (some x8),none,none,[]⟩,⟨cvar gb15 zq9 ((),(qc11,(ql12,(qj13,(qe14,()))))),none,none,[5,17]⟩,⟨cown go18 (rU UInt8) v16 0 gc19,none,none,[1]⟩])
       (afts:=nn 24) (js:=[0,0,0,0]) mixed (.cons rfl (.cons rfl (.cons rfl (.cons rfl (.cons rfl (.cons rfl .nil)))))) (fun _=>rfl)
       (by
      refine db 1 9<|dR 2 (fun γ ρ B hb hd=>Zag.lk ⟨ρ,(cown go18 (rU UInt8) v16 0 gc19)::B,_⟩ (ZeI (j:=0) lb tu31 tu5 tu9 rfl (tl hd 0 53)))<|db 3 1<|dS 4 (fun γ ρ B hb hd=>Zae lb (tl hd 2 55) (fun e v h=>by subst h; rfl))<|dS 5 (fun γ ρ B hb hd=>Zad (off:=0) lb Za6 (tl hd 3 56)) ?_
      refine dR 6 (fun γ ρ B hb hd=>Zag.lk ⟨ρ,(cvar gb15 zq9 ((),(qc11,(ql12,(qj13,(qe14,()))))))::B,_⟩ (Zal (j:=0) lb tS46 (tl hd 4 57) rfl (Comp.trans (Comp.self zq9 ((),(qc11,(ql12,(qj13,(qe14,())))))) (Comp.at' (Comp.inF (Comp.self (rW (HDR none 0 0 0)) ()) (lE rfl)) (by rfl : _ = 0)) (lE rfl))))<|db 7 13<|dS 8 (fun γ ρ B hb hd=>ZaZ lb tu46 tz84 (HasO.wk (q:=S (rL Zab) []) (tl hd 5 58) ZkC) (tl hd 6 59) hv34)<|dS 9 (fun γ ρ B hb hd=>Zbw lb Zdn (tl hd 7 60) (Za5 v34))<|dS 10 (fun γ ρ B hb hd=>ZbE lb tS31 rfl (tl hd 8 61) rfl) ?_
      refine dS 11 (fun γ ρ B hb hd=>Zdb lb tu31 tu5 tu9 (tl hd 9 62))<|dS 12 (fun γ ρ B hb hd=>ZcP lb (tl hd 1 54) (tl hd 10 63) (cs hv35))<|dm 13 11 64 ?_
      refine dF 14 12 65 v35 (fun γ=>ov (S (rI .i64) v20)) (fun γ ρ B hb hd hq16=>Zai lb (.tmp (hb 11 _ rfl))) ?_
      refine dF 15 12 65 v35 (fun γ=>ov (PTR gb15 0)) (fun γ ρ B hb hd hq17=>Zai lb (.tmp (hb 1 _ rfl))) ?_
      refine dF 16 12 65 v35 (fun γ=>ov (PTR gb15 0)) (fun γ ρ B hb hd hq18=>Zae lb (HasO.cnd (tl hd 14 67) (notT (notF hq18))) (fun e v h=>by subst h; rfl)) ?_
      refine dF 17 12 65 v35 (fun γ=>ov (PTR gb15 (0 + 0))) (fun γ ρ B hb hd hq19=>Zad (off:=0) lb Za6 (HasO.cnd (tl hd 15 68) (notT (notF hq19)))) ?_
      refine eF 18 12 65 v35 (fun γ=>ov (HDR none 0 0 0)) (fun γ ρ B hb hd hq20=>Zag.lk ⟨ρ,(cvar gb15 zq9 ((),(qc11,(ql12,(qj13,(qe14,()))))))::B,_⟩ (Zal (j:=0) lb tS46 (HasO.cnd (tl hd 16 69) (notT (notF hq20))) rfl (Comp.trans (Comp.self zq9 ((),(qc11,(ql12,(qj13,(qe14,())))))) (Comp.at' (Comp.inF (Comp.self (rW (HDR none 0 0 0)) ()) (lE rfl)) (by rfl : _ = 0)) (lE rfl)))) ?_
      refine dF 19 12 65 v35 (fun γ=>ov (S (rI .i64) (0 : Int))) (fun γ ρ B hb hd hq21=>Zai lb (.tmp (hb 13 _ rfl))) ?_
      refine dF 20 12 65 v35 (fun γ=>ov (PT Zab v36)) (fun γ ρ B hb hd hq22=>ZaZ lb tu46 tz84 (HasO.wk (q:=S (rL Zab) []) (HasO.cnd (tl hd 17 70) (notT (notF hq22))) ZkC) (HasO.cnd (tl hd 18 71) (notT (notF hq22))) (ifT hv36 hq22)) ?_
      refine dF 21 12 65 v35 (fun γ=>ov (PT (rI .i64) v36.Lasts)) (fun γ ρ B hb hd hq23=>Zbw lb ZeQ (HasO.cnd (tl hd 19 72) (notT (notF hq23))) (ZbD v36)) ?_
      refine dF 22 12 65 v35 (fun γ=>ov (S (rI .i64) v36.Lasts)) (fun γ ρ B hb hd hq24=>ZbE lb tS3 rfl (HasO.cnd (tl hd 20 73) (notT (notF hq24))) rfl) ?_
      refine dF 23 12 65 v35 (fun γ=>ov (S rB v37)) (fun γ ρ B hb hd hq25=>Zan lb (HasO.cnd (tl hd 13 66) (notT (notF hq25))) (HasO.cnd (tl hd 21 74) (notT (notF hq25))) (cs hv37)) ?_
      refine dS 24 (fun γ ρ B hb hd=>Za8 lb (tl hd 12 65) (fun hb26=>.cB) (fun hb26=>(HasO.cnd (tl hd 22 75) (notT hb26))) hv38) ?_
      exact Zat.nil)
       (by decide +kernel) (fun _=>rfl) (fun _=>rfl) (fun _=>rfl) rfl
       (ρ':=fun γ=>[(0,ov (PTR gb7 0)),(1,ov (PTR gb15 0)),(3,ov (S (rI .i64) a2)),(9,ov (HDR go18 0 (List.length v16) gc19)),(76,ov (S rB v38))])
       (X':=fun γ=>[cvar gb7 (zq1 go9) ((),(qb3,(qg4,(qh5,(qd6,()))))),cqm go9 (S rS) Zaa qm10 (some x8),cvar gb15 zq9 ((),(qc11,(ql12,(qj13,(qe14,()))))),cown go18 (rU UInt8) v16 0 gc19])
       (fun γ ρ hb hd=>(.cons (hb 0 _ rfl) (.cons (hb 1 _ rfl) (.cons (hb 3 _ rfl) (.cons (hb 9 _ rfl) (.cons (hdq hd 23 76 rfl) .nil)))))) (fun _=>rfl) (fun γ=>?_)
   refine JQ.at ⟨[(0,ov (PTR gb7 0)),(1,ov (PTR gb15 0)),(3,ov (S (rI .i64) a2)),(9,ov (HDR go18 0 (List.length v16) gc19)),(76,ov (S rB v38))],[cvar gb7 (zq1 go9) ((),(qb3,(qg4,(qh5,(qd6,()))))),cqm go9 (S rS) Zaa qm10 (some x8),cvar gb15 zq9 ((),(qc11,(ql12,(qj13,(qe14,()))))),cown go18 (rU UInt8) v16 0 gc19],[]⟩ ?_
   try obtain rfl:=so hx15
   exact JQ.join () (Imp.norm (js:=[0,0,0,0]) rfl (.cons rfl (.cons rfl (.cons rfl (.cons rfl (.cons rfl .nil))))))
 refine JC.region<|jmv rfl rfl<|bI hx1 fun _ hv_u_23 hx1=>jx (Zak (js:=[]) ld cl10 (ZaW k v17 () hv_u_23) .func (.cons tR .nil) rfl) fun _=>jmv rfl rfl<|lI hx1 fun v24 hv24 hx1=>jc (Zan lb tR tR (cs hv24))<|jmv rfl rfl<|jF (ov (S (rI .i64) v21)) rfl rfl rfl rfl (fun hq2=>Zai lb tR)<|bI hx1 fun _ hv_u_25 hx1=>jF (ov (S (rI .i64) v21)) rfl rfl rfl rfl (fun hq3=>(Zak (js:=[]) ld cl10 (ZaW k v21 () (ifT hv_u_25 hq3)) .func (.cons (HasO.cnd tR (notT (notF hq3))) .nil) rfl).post (fun _=>Imp.refl)) ?_
 refine JL.sub ⟨[(0,ov (PTR gb7 0)),(1,ov (PTR gb15 0)),(3,ov (S (rI .i64) a2)),(9,ov (HDR go18 0 (List.length v16) gc19)),(11,ov (S (rI .i64) v20)),(13,ov (S (rI .i64) (0 : Int))),(14,ov (S (rI .i64) v22)),(38,ov (S rB v24)),(40,bif (!v24) then ov (S (rI .i64) v21) else .one .und)],[cvar gb15 zq9 ((),(qc11,(ql12,(qj13,(qe14,()))))),cvar gb7 (zq1 go9) ((),(qb3,(qg4,(qh5,(qd6,()))))),cqm go9 (S rS) Zaa qm10 (some x8),cown go18 (rU UInt8) v16 0 gc19],[]⟩ (.cons rfl (.cons rfl (.cons rfl (.cons rfl (.cons rfl (.cons rfl (.cons rfl (.cons rfl (.cons rfl .nil))))))))) rfl rfl<|jF (ov (S (rI .i64) v22)) rfl rfl rfl rfl (fun hq4=>Zai lb tR)<|lI hx1 fun v26 hv26 hx1=>jF (ov (S rB v26)) rfl rfl rfl rfl (fun hq5=>Zan lb (HasO.cnd tR (notT (notF hq5))) (HasO.cnd tR (notT (notF hq5))) (cs hv26))<|lI hx1 fun v27 hv27 hx1=>jc (Za8 lb tR (fun hb6=>.cB) (fun hb6=>(HasO.cnd tR (notT hb6))) hv27)<|JL.nil ?_
 try obtain rfl:=so hx1
 exact JQ.join () (Imp.norm (js:=[1,1,0,0]) rfl (.cons rfl (.cons rfl (.cons rfl (.cons rfl (.cons rfl (.cons rfl (.cons rfl (.cons rfl .nil)))))))))

end Go.Proofs.Ytipchpbcjkhnaaa
