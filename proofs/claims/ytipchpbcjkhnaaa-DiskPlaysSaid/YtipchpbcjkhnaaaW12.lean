/- Walks. -/
import Derived.Test.YtipchpbcjkhnaaaT
import Derived.Test.YtipchpbcjkhnaaaW0
import Derived.Test.YtipchpbcjkhnaaaW10
import Derived.Test.YtipchpbcjkhnaaaW11
import Derived.Test.YtipchpbcjkhnaaaW2
import Derived.Test.YtipchpbcjkhnaaaW4
import Derived.Test.YtipchpbcjkhnaaaW8
namespace Go.Proofs.Ytipchpbcjkhnaaa
open Go Fw
set_option linter.unusedVariables false
set_option maxRecDepth 100000
set_option maxHeartbeats 4000000

theorem Zbu (k : Nat) (a1 : (List UInt8)) (a2 : Int) (qb3 : Int) (qg4 : Int) (qh5 : Bool) (qd6 : Int) (x8 : (List ((List UInt8) × Zaf))) (qc11 : Int) (ql12 : Int) (qj13 : Bool) (qe14 : Int) (x16 : (List Zah)) (gb7 : Nat) (go9 : Option Nat) (qm10 : ((List UInt8) → Nat)) (gb15 : Nat) (go17 : Option Nat) (gc18 : Nat) (r : Bool) (hm : law05_looks_ppvv_smvvvvmsovvvv k a1 a2 qb3 qg4 qh5 qd6 x8 qc11 ql12 qj13 qe14 x16 = some r) : Sim Try.prog 17 [PTR gb7 0,PTR gb15 0,S rS a1,S (rI .i64) a2] [cvar gb7 (zq1 go9) ((),(qb3,(qg4,(qh5,(qd6,()))))),cqm go9 (S rS) Zaa qm10 (some x8),zq16 gb15 go17 x16 gc18 qc11 ql12 qj13 qe14,cown go17 Zab x16 0 gc18] (γ:=Unit) (fun q=>[cvar gb7 (zq1 go9) ((),(qb3,(qg4,(qh5,(qd6,()))))),cqm go9 (S rS) Zaa qm10 (some x8),zq16 gb15 go17 x16 gc18 qc11 ql12 qj13 qe14,cown go17 Zab x16 0 gc18]) (fun q=>.one (.val (S rB r))):=by
 unfold law05_looks_ppvv_smvvvvmsovvvv at hm
 refine Sim.of Try.func17 rfl rfl (lE rfl) (fun e0 w0=>?_)
 refine JC.at ⟨[(0,ov (PTR gb7 0)),(1,ov (PTR gb15 0)),(2,ov (S rS a1)),(3,ov (S (rI .i64) a2))],[cvar gb7 (zq1 go9) ((),(qb3,(qg4,(qh5,(qd6,()))))),cqm go9 (S rS) Zaa qm10 (some x8),zq16 gb15 go17 x16 gc18 qc11 ql12 qj13 qe14,cown go17 Zab x16 0 gc18],[]⟩<|jr<|jc (Zac lb .cB)<|jn<|jr<|jmv rfl rfl<|jmv rfl rfl ?_
 obtain ⟨⟨v19,v20⟩,hv19,hm⟩:=Zas hm
 refine jx (Zak (js:=[0,0]) ld cl12 (Zbt k a1 qb3 qg4 qh5 qd6 x8 gb7 go9 qm10 (v19,v20) hv19) .func (.cons tR (.cons tR .nil)) rfl) (fun q=>?_)
 obtain ⟨go21,gc22⟩:=q
 refine jmv rfl rfl<|jc (Zao (i:=0) lb tR rfl)<|jc (Zao (i:=1) lb tR rfl)<|jc (Zac lb tR)<|jc (Zac lb tR)<|jn<|jr<|jmv rfl rfl<|JL.sub ⟨[(0,ov (PTR gb7 0)),(1,ov (PTR gb15 0)),(2,ov (S rS a1)),(3,ov (S (rI .i64) a2)),(9,ov (HDR go21 0 (List.length v19) gc22)),(10,ov (S (rI .i64) v20)),(23,ov (PTR gb7 0))],[cown go21 (rU UInt8) v19 0 gc22,cvar gb7 (zq1 go9) ((),(qb3,(qg4,(qh5,(qd6,()))))),cqm go9 (S rS) Zaa qm10 (some x8),zq16 gb15 go17 x16 gc18 qc11 ql12 qj13 qe14,cown go17 Zab x16 0 gc18],[]⟩ (.cons rfl (.cons rfl (.cons rfl (.cons rfl (.cons rfl (.cons rfl (.cons rfl .nil))))))) rfl rfl<|jmv rfl rfl ?_
 obtain ⟨⟨v23,v24⟩,hv23,hm⟩:=Zas hm
 refine jx (Zak (js:=[1,1]) ld cl27 (ZbX k a1 qb3 qg4 qh5 qd6 x8 gb7 go9 qm10 (v23,v24) hv23) .func (.cons tR (.cons tR .nil)) rfl) fun _=>jmv rfl rfl<|jc (Zao (i:=0) lb tR rfl)<|jc (Zao (i:=1) lb tR rfl)<|jc (Zac lb tR)<|jc (Zac lb tR)<|jn<|jr<|jmv rfl rfl<|jmv rfl rfl ?_
 obtain ⟨⟨v25,v26⟩,hv25,hm⟩:=Zas hm
 refine jx (Zak (js:=[3,3]) ld cl41 (Zbr k a1 qc11 ql12 qj13 qe14 x16 gb15 go17 gc18 (v25,v26) hv25) .func (.cons tR (.cons tR .nil)) rfl) fun _=>JL.sub ⟨[(0,ov (PTR gb7 0)),(1,ov (PTR gb15 0)),(3,ov (S (rI .i64) a2)),(9,ov (HDR go21 0 (List.length v19) gc22)),(10,ov (S (rI .i64) v20)),(11,ov (S (rI .i64) v23)),(12,ov (S (rI .i64) v24)),(31,.tup [.val (S (rI .i64) v25),.val (S (rI .i64) v26)])],[zq16 gb15 go17 x16 gc18 qc11 ql12 qj13 qe14,cown go17 Zab x16 0 gc18,cvar gb7 (zq1 go9) ((),(qb3,(qg4,(qh5,(qd6,()))))),cqm go9 (S rS) Zaa qm10 (some x8),cown go21 (rU UInt8) v19 0 gc22],[]⟩ (.cons rfl (.cons rfl (.cons rfl (.cons rfl (.cons rfl (.cons rfl (.cons rfl (.cons rfl .nil)))))))) rfl rfl<|jmv rfl rfl<|jc (Zao (i:=0) lb tR rfl)<|jc (Zao (i:=1) lb tR rfl)<|jc (Zac lb tR)<|jc (Zac lb tR)<|jn<|JC.seq<|bI hm fun x32 hx1 hq1=>JC.seqJ (γ:=Unit) (stj:=fun _=>⟨[(0,ov (PTR gb7 0)),(1,ov (PTR gb15 0)),(3,ov (S (rI .i64) a2)),(9,ov (HDR go21 0 (List.length v19) gc22)),(11,ov (S (rI .i64) v23)),(13,ov (S (rI .i64) v25)),(14,ov (S (rI .i64) v26)),(43,ov (S rB x32))],[cvar gb7 (zq1 go9) ((),(qb3,(qg4,(qh5,(qd6,()))))),cqm go9 (S rS) Zaa qm10 (some x8),zq16 gb15 go17 x16 gc18 qc11 ql12 qj13 qe14,cown go17 Zab x16 0 gc18,cown go21 (rU UInt8) v19 0 gc22],[]⟩) (fun _=>?_) ?_
 · refine jif tR hq1 (fun hc7 hq1=>?_) (fun hc7 hq1=>?_)
   · refine jr<|jc (Zac lb .cB)<|jn<|JC.ret<|JQ.outR ?_
     obtain rfl:=so hq1
     exact JQ.done (js:=[0,0,0,0]) (ss:=[.val (S rB false)]) () (.inl rfl) (.nil rfl) rfl (.cons (.tmp rfl) .nil) rfl rfl rfl
   refine JC.skip<|JQ.then<|bI hq1 fun tv8 hx8 hq8=>JC.seqK (α:=Unit) (γ:=Unit) (stj:=fun v q=>⟨[(0,ov (PTR gb7 0)),(1,ov (PTR gb15 0)),(3,ov (S (rI .i64) a2)),(9,ov (HDR go21 0 (List.length v19) gc22))],[cvar gb7 (zq1 go9) ((),(qb3,(qg4,(qh5,(qd6,()))))),cqm go9 (S rS) Zaa qm10 (some x8),zq16 gb15 go17 x16 gc18 qc11 ql12 qj13 qe14,cown go17 Zab x16 0 gc18,cown go21 (rU UInt8) v19 0 gc22],[]⟩) (p:=fun v=>tv8 = (.inl v)) (fun v q hv=>?_) ?_
   · subst hv
     skip
     obtain _:=q
     dsimp only at hq8
     refine JC.at ⟨[(0,ov (PTR gb7 0)),(1,ov (PTR gb15 0)),(3,ov (S (rI .i64) a2)),(9,ov (HDR go21 0 (List.length v19) gc22))],[cvar gb7 (zq1 go9) ((),(qb3,(qg4,(qh5,(qd6,()))))),cqm go9 (S rS) Zaa qm10 (some x8),zq16 gb15 go17 x16 gc18 qc11 ql12 qj13 qe14,cown go17 Zab x16 0 gc18,cown go21 (rU UInt8) v19 0 gc22],[]⟩<|bI hq8 fun _ hx23 hq23=>JC.seqJ (γ:=Unit) (stj:=fun _=>⟨[(0,ov (PTR gb7 0)),(1,ov (PTR gb15 0)),(3,ov (S (rI .i64) a2))],[cvar gb7 (zq1 go9) ((),(qb3,(qg4,(qh5,(qd6,()))))),cqm go9 (S rS) Zaa qm10 (some x8),zq16 gb15 go17 x16 gc18 qc11 ql12 qj13 qe14,cown go17 Zab x16 0 gc18],[]⟩) (fun _=>?_) ?_
     · refine bI hq23 fun x63 hx26 hq26=>JC.seqJ (γ:=Unit) (stj:=fun _=>⟨[(8,ov (S rB x63))],[cvar gb7 (zq1 go9) ((),(qb3,(qg4,(qh5,(qd6,()))))),cqm go9 (S rS) Zaa qm10 (some x8),zq16 gb15 go17 x16 gc18 qc11 ql12 qj13 qe14,cown go17 Zab x16 0 gc18],[]⟩) (fun _=>?_) ?_
       · refine JC.ret ?_
         obtain rfl:=so hq26
         exact JQ.done (js:=[0,0,0,0]) (ss:=[.val (S rB x63)]) () (.inl rfl) (.nil rfl) rfl (.cons (.tmp rfl) .nil) rfl rfl rfl
       refine bI hx26 fun v54 hv54 hx26=>bI hx26 fun v55 hv55 hx26=>?_
       obtain ⟨v56,hv56,hx26⟩:=Za2 hx26
       rcases Zbc hx26 with ⟨hc29,hx26⟩ | ⟨hc29,hx26⟩
       · refine bI hx26 fun _ hv_u_57 hx26=>?_
         obtain ⟨v58,hv58,hx26⟩:=Za2 hx26
         rcases Zbc hx26 with ⟨hc32,hx26⟩ | ⟨hc32,hx26⟩
         · refine bI hx26 fun _ hv_u_59 hx26=>?_
           obtain ⟨v60,hv60,hx26⟩:=Za2 hx26
           rcases Zbc hx26 with ⟨hc37,hx26⟩ | ⟨hc37,hx26⟩
           · obtain ⟨v61,hv61,hx26⟩:=Zas hx26
             rcases Zbc hx26 with ⟨hc41,hx26⟩ | ⟨hc41,hx26⟩
             · obtain ⟨v62,hv62,hx26⟩:=Zas hx26
               refine JC.anyF (base:=[(0,ov (PTR gb7 0)),(1,ov (PTR gb15 0)),(3,ov (S (rI .i64) a2))])
                   (fs:=fun γ=>[⟨some 91,ov (PTR gb7 0)⟩,⟨some 92,ov (S (rI .i64) v54)⟩,⟨some 93,ov (PTR gb15 0)⟩,⟨some 94,ov (S (rI .i64) v55)⟩,⟨some 95,ov (S rB v56)⟩,⟨some 96,ov (S rB v56)⟩,⟨some 97,bif v56 then ov (PTR gb7 0) else .one .und⟩,⟨some 98,ov (S rB qh5)⟩,⟨some 99,ov (PTR gb15 0)⟩,⟨some 100,ov (PTR gb15 0)⟩,⟨some 101,ov (PTR gb15 (0 + 3))⟩,⟨some 102,ov (S rB qj13)⟩,⟨some 103,ov (S rB v58)⟩,⟨some 104,ov (S rB v58)⟩,⟨some 105,ov (S rB v58)⟩,⟨some 106,bif v58 then ov (PTR gb7 0) else .one .und⟩,⟨some 107,ov (S (rI .i64) qd6)⟩,⟨some 108,ov (PTR gb15 0)⟩,⟨some 109,ov (PTR gb15 0)⟩,⟨some 110,ov (PTR gb15 (0 + 4))⟩,⟨some 111,ov (S (rI .i64) qe14)⟩,⟨some 112,ov (S rB v60)⟩,⟨some 113,ov (S rB v60)⟩,⟨some 114,ov (S rB v60)⟩,⟨some 115,bif v60 then ov (PTR gb7 0) else .one .und⟩,⟨some 116,bif v60 then ov (PTR gb15 0) else .one .und⟩,⟨some 117,bif v60 then ov (S (rI .i64) a2) else .one .und⟩,⟨some 118,ov (S rB v61)⟩,⟨some 119,ov (S rB v61)⟩,⟨some 120,ov (S rB v61)⟩,⟨some 121,bif v61 then ov (PTR gb7 0) else .one .und⟩,⟨some 122,bif v61 then ov (PTR gb15 0) else .one .und⟩,⟨some 123,ov (S rB v62)⟩,⟨some 124,ov (S rB v62)⟩,⟨some 8,ov (S rB v62)⟩])
                   (rs:=fun γ=>[⟨cvar gb7 (zq1 go9) ((),(qb3,(qg4,(qh5,(qd6,()))))),none,none,[1,7,16,27,32]⟩,⟨cqm go9 (S rS) Zaa qm10 (some x8),none,none,[1,7,16,27,32]⟩,⟨zq16 gb15 go17 x16 gc18 qc11 ql12 qj13 qe14,none,none,[3,11,20,27,32]⟩,⟨cown go17 Zab x16 0 gc18,none,none,[3,27,32]⟩])
                   (afts:=nn 35) (js:=[0,0,0,0]) mixed (.cons rfl (.cons rfl (.cons rfl .nil))) (fun _=>rfl)
                   (by
      refine db 1 0<|dR 2 (fun γ ρ B hb hd=>Zag.lk ⟨ρ,(cvar gb7 (zq1 go9) ((),(qb3,(qg4,(qh5,(qd6,()))))))::(cqm go9 (S rS) Zaa qm10 (some x8))::B,_⟩ ((Zak (js:=[0,0]) ld cl11 (Zaq k qb3 qg4 qh5 qd6 x8 gb7 go9 qm10 v54 hv54) .func (.cons (tl hd 0 91) .nil) rfl).post (fun _=>Imp.pick (js:=[0,0]) rfl rfl)))<|db 3 1<|dR 4 (fun γ ρ B hb hd=>Zag.lk ⟨ρ,(zq16 gb15 go17 x16 gc18 qc11 ql12 qj13 qe14)::(cown go17 Zab x16 0 gc18)::B,_⟩ ((Zak (js:=[0,0]) ld cl42 (Zbm k qc11 ql12 qj13 qe14 x16 gb15 go17 gc18 v55 hv55) .func (.cons (tl hd 2 93) .nil) rfl).post (fun _=>Imp.pick (js:=[0,0]) rfl rfl)))<|dS 5 (fun γ ρ B hb hd=>Zan lb (tl hd 1 92) (tl hd 3 94) (cs hv56)) ?_
      refine dm 6 4 95 ?_
      refine dT 7 5 96 v56 (fun γ=>ov (PTR gb7 0)) (fun γ ρ B hb hd hq27=>Zai lb (.tmp (hb 0 _ rfl))) ?_
      refine dY 8 (fun γ ρ B hb hd=>⟨.yes rfl (ltB rfl) (hl hd 5 96 rfl) hc29,Zag.lk ⟨ρ,(cvar gb7 (zq1 go9) ((),(qb3,(qg4,(qh5,(qd6,()))))))::(cqm go9 (S rS) Zaa qm10 (some x8))::B,_⟩ ((Zak (js:=[0,0]) ld cl25 (Za4 k qb3 qg4 qh5 qd6 x8 gb7 go9 qm10 () hv_u_57) .func (.cons (HasO.cnd (tl hd 6 97) hc29) .nil) rfl).post (fun _=>Imp.pick (js:=[0,0]) rfl rfl))⟩)<|dY 9 (fun γ ρ B hb hd=>⟨.yes rfl (ltB rfl) (hl hd 5 96 rfl) hc29,lkB (Zai lb (.tmp (hb 1 _ rfl)))⟩)<|dY 10 (fun γ ρ B hb hd=>⟨.yes rfl (ltB rfl) (hl hd 5 96 rfl) hc29,lkB (Zae lb (tl hd 8 99) (fun e v h=>by subst h; rfl))⟩)<|dY 11 (fun γ ρ B hb hd=>⟨.yes rfl (ltB rfl) (hl hd 5 96 rfl) hc29,lkB (Zad (off:=3) lb Zes (tl hd 9 100))⟩)<|dY 12 (fun γ ρ B hb hd=>⟨.yes rfl (ltB rfl) (hl hd 5 96 rfl) hc29,Zag.lk ⟨ρ,(zq16 gb15 go17 x16 gc18 qc11 ql12 qj13 qe14)::B,_⟩ (Zam (j:=0) lb tS4 (tl hd 10 101) rfl (Comp.trans (Comp.self (zq10 go17 x16 gc18) ((),(qc11,(ql12,(qj13,(qe14,())))))) (Comp.at' (Comp.inS (Comp.inS (Comp.inS (Comp.inF (Comp.self rB qj13) (lE rfl))))) (by rfl : _ = 3)) (lE rfl)) rfl rfl)⟩) ?_
      refine dY 13 (fun γ ρ B hb hd=>⟨.yes rfl (ltB rfl) (hl hd 5 96 rfl) hc29,lkB (Zfs lb tu4 (tl hd 7 98) (tl hd 11 102) hv58)⟩)<|dS 14 (fun γ ρ B hb hd=>Zaw lb (tl hd 5 96) hc29 (tl hd 12 103))<|dm 15 13 104 ?_
      refine dT 16 14 105 v58 (fun γ=>ov (PTR gb7 0)) (fun γ ρ B hb hd hq30=>Zai lb (.tmp (hb 0 _ rfl))) ?_
      refine dY 17 (fun γ ρ B hb hd=>⟨.yes rfl (ltB rfl) (hl hd 14 105 rfl) hc32,Zag.lk ⟨ρ,(cvar gb7 (zq1 go9) ((),(qb3,(qg4,(qh5,(qd6,()))))))::(cqm go9 (S rS) Zaa qm10 (some x8))::B,_⟩ ((Zak (js:=[0,0]) ld cl26 (Zbh k qb3 qg4 qh5 qd6 x8 gb7 go9 qm10 () hv_u_59) .func (.cons (HasO.cnd (tl hd 15 106) hc32) .nil) rfl).post (fun _=>Imp.pick (js:=[0,0]) rfl rfl))⟩)<|dY 18 (fun γ ρ B hb hd=>⟨.yes rfl (ltB rfl) (hl hd 14 105 rfl) hc32,lkB (Zai lb (.tmp (hb 1 _ rfl)))⟩)<|dY 19 (fun γ ρ B hb hd=>⟨.yes rfl (ltB rfl) (hl hd 14 105 rfl) hc32,lkB (Zae lb (tl hd 17 108) (fun e v h=>by subst h; rfl))⟩)<|dY 20 (fun γ ρ B hb hd=>⟨.yes rfl (ltB rfl) (hl hd 14 105 rfl) hc32,lkB (Zad (off:=4) lb Zft (tl hd 18 109))⟩)<|dY 21 (fun γ ρ B hb hd=>⟨.yes rfl (ltB rfl) (hl hd 14 105 rfl) hc32,Zag.lk ⟨ρ,(zq16 gb15 go17 x16 gc18 qc11 ql12 qj13 qe14)::B,_⟩ (Zam (j:=0) lb tS3 (tl hd 19 110) rfl (Comp.trans (Comp.self (zq10 go17 x16 gc18) ((),(qc11,(ql12,(qj13,(qe14,())))))) (Comp.at' (Comp.inS (Comp.inS (Comp.inS (Comp.inS (Comp.inF (Comp.self (rI .i64) qe14) (lE rfl)))))) (by rfl : _ = 4)) (lE rfl)) rfl rfl)⟩) ?_
      refine dY 22 (fun γ ρ B hb hd=>⟨.yes rfl (ltB rfl) (hl hd 14 105 rfl) hc32,lkB (Zan lb (tl hd 16 107) (tl hd 20 111) (cs hv60))⟩)<|dS 23 (fun γ ρ B hb hd=>Zaw lb (tl hd 14 105) hc32 (tl hd 21 112))<|dm 24 22 113 ?_
      refine dT 25 23 114 v60 (fun γ=>ov (PTR gb7 0)) (fun γ ρ B hb hd hq33=>Zai lb (.tmp (hb 0 _ rfl))) ?_
      refine dT 26 23 114 v60 (fun γ=>ov (PTR gb15 0)) (fun γ ρ B hb hd hq34=>Zai lb (.tmp (hb 1 _ rfl))) ?_
      refine dT 27 23 114 v60 (fun γ=>ov (S (rI .i64) a2)) (fun γ ρ B hb hd hq35=>Zai lb (.tmp (hb 3 _ rfl))) ?_
      refine dY 28 (fun γ ρ B hb hd=>⟨.yes rfl (ltB rfl) (hl hd 23 114 rfl) hc37,Zag.lk ⟨ρ,(cvar gb7 (zq1 go9) ((),(qb3,(qg4,(qh5,(qd6,()))))))::(cqm go9 (S rS) Zaa qm10 (some x8))::(zq16 gb15 go17 x16 gc18 qc11 ql12 qj13 qe14)::(cown go17 Zab x16 0 gc18)::B,_⟩ ((Zak (js:=[0,0,0,0]) ld cl43 (ZbQ k a2 qb3 qg4 qh5 qd6 x8 qc11 ql12 qj13 qe14 x16 gb7 go9 qm10 gb15 go17 gc18 v61 hv61) .func (.cons (HasO.cnd (tl hd 24 115) hc37) (.cons (HasO.cnd (tl hd 25 116) hc37) (.cons (HasO.cnd (tl hd 26 117) hc37) .nil))) rfl).post (fun _=>Imp.pick (js:=[0,0,0,0]) rfl rfl))⟩)<|dS 29 (fun γ ρ B hb hd=>Zaw lb (tl hd 23 114) hc37 (tl hd 27 118))<|dm 30 28 119 ?_
      refine dT 31 29 120 v61 (fun γ=>ov (PTR gb7 0)) (fun γ ρ B hb hd hq38=>Zai lb (.tmp (hb 0 _ rfl))) ?_
      refine dT 32 29 120 v61 (fun γ=>ov (PTR gb15 0)) (fun γ ρ B hb hd hq39=>Zai lb (.tmp (hb 1 _ rfl))) ?_
      refine dY 33 (fun γ ρ B hb hd=>⟨.yes rfl (ltB rfl) (hl hd 29 120 rfl) hc41,Zag.lk ⟨ρ,(cvar gb7 (zq1 go9) ((),(qb3,(qg4,(qh5,(qd6,()))))))::(cqm go9 (S rS) Zaa qm10 (some x8))::(zq16 gb15 go17 x16 gc18 qc11 ql12 qj13 qe14)::(cown go17 Zab x16 0 gc18)::B,_⟩ ((Zak (js:=[0,0,0,0]) ld cl43 (ZbQ k (0 : Int) qb3 qg4 qh5 qd6 x8 qc11 ql12 qj13 qe14 x16 gb7 go9 qm10 gb15 go17 gc18 v62 hv62) .func (.cons (HasO.cnd (tl hd 30 121) hc41) (.cons (HasO.cnd (tl hd 31 122) hc41) (.cons .cI .nil))) rfl).post (fun _=>Imp.pick (js:=[0,0,0,0]) rfl rfl))⟩)<|dS 34 (fun γ ρ B hb hd=>Zaw lb (tl hd 29 120) hc41 (tl hd 32 123))<|dS 35 (fun γ ρ B hb hd=>Zac lb (tl hd 33 124)) ?_
      exact Zat.nil)
                   (by decide +kernel) (fun _=>rfl) (fun _=>rfl) (fun _=>rfl) rfl
                   (ρ':=fun γ=>[(8,ov (S rB v62))])
                   (X':=fun γ=>[cvar gb7 (zq1 go9) ((),(qb3,(qg4,(qh5,(qd6,()))))),cqm go9 (S rS) Zaa qm10 (some x8),zq16 gb15 go17 x16 gc18 qc11 ql12 qj13 qe14,cown go17 Zab x16 0 gc18])
                   (fun γ ρ hb hd=>(.cons (hdq hd 34 8 rfl) .nil)) (fun _=>rfl) (fun γ=>?_)
               refine JQ.at ⟨[(8,ov (S rB v62))],[cvar gb7 (zq1 go9) ((),(qb3,(qg4,(qh5,(qd6,()))))),cqm go9 (S rS) Zaa qm10 (some x8),zq16 gb15 go17 x16 gc18 qc11 ql12 qj13 qe14,cown go17 Zab x16 0 gc18],[]⟩ ?_
               try obtain rfl:=so hx26
               exact JQ.join () (Imp.norm (js:=[0,0,0,0]) rfl (.cons rfl .nil))
             refine JC.anyF (base:=[(0,ov (PTR gb7 0)),(1,ov (PTR gb15 0)),(3,ov (S (rI .i64) a2))])
                 (fs:=fun γ=>[⟨some 91,ov (PTR gb7 0)⟩,⟨some 92,ov (S (rI .i64) v54)⟩,⟨some 93,ov (PTR gb15 0)⟩,⟨some 94,ov (S (rI .i64) v55)⟩,⟨some 95,ov (S rB v56)⟩,⟨some 96,ov (S rB v56)⟩,⟨some 97,bif v56 then ov (PTR gb7 0) else .one .und⟩,⟨some 98,ov (S rB qh5)⟩,⟨some 99,ov (PTR gb15 0)⟩,⟨some 100,ov (PTR gb15 0)⟩,⟨some 101,ov (PTR gb15 (0 + 3))⟩,⟨some 102,ov (S rB qj13)⟩,⟨some 103,ov (S rB v58)⟩,⟨some 104,ov (S rB v58)⟩,⟨some 105,ov (S rB v58)⟩,⟨some 106,bif v58 then ov (PTR gb7 0) else .one .und⟩,⟨some 107,ov (S (rI .i64) qd6)⟩,⟨some 108,ov (PTR gb15 0)⟩,⟨some 109,ov (PTR gb15 0)⟩,⟨some 110,ov (PTR gb15 (0 + 4))⟩,⟨some 111,ov (S (rI .i64) qe14)⟩,⟨some 112,ov (S rB v60)⟩,⟨some 113,ov (S rB v60)⟩,⟨some 114,ov (S rB v60)⟩,⟨some 115,bif v60 then ov (PTR gb7 0) else .one .und⟩,⟨some 116,bif v60 then ov (PTR gb15 0) else .one .und⟩,⟨some 117,bif v60 then ov (S (rI .i64) a2) else .one .und⟩,⟨some 118,ov (S rB v61)⟩,⟨some 119,ov (S rB v61)⟩,⟨some 120,ov (S rB v61)⟩,⟨some 121,bif v61 then ov (PTR gb7 0) else .one .und⟩,⟨some 122,bif v61 then ov (PTR gb15 0) else .one .und⟩,⟨some 123,.one .und⟩,⟨some 124,ov (S rB false)⟩,⟨some 8,ov (S rB false)⟩])
                 (rs:=fun γ=>[⟨cvar gb7 (zq1 go9) ((),(qb3,(qg4,(qh5,(qd6,()))))),none,none,[1,7,16,27]⟩,⟨cqm go9 (S rS) Zaa qm10 (some x8),none,none,[1,7,16,27]⟩,⟨zq16 gb15 go17 x16 gc18 qc11 ql12 qj13 qe14,none,none,[3,11,20,27]⟩,⟨cown go17 Zab x16 0 gc18,none,none,[3,27]⟩])
                 (afts:=nn 35) (js:=[0,0,0,0]) mixed (.cons rfl (.cons rfl (.cons rfl .nil))) (fun _=>rfl)
                 (by
      refine db 1 0<|dR 2 (fun γ ρ B hb hd=>Zag.lk ⟨ρ,(cvar gb7 (zq1 go9) ((),(qb3,(qg4,(qh5,(qd6,()))))))::(cqm go9 (S rS) Zaa qm10 (some x8))::B,_⟩ ((Zak (js:=[0,0]) ld cl11 (Zaq k qb3 qg4 qh5 qd6 x8 gb7 go9 qm10 v54 hv54) .func (.cons (tl hd 0 91) .nil) rfl).post (fun _=>Imp.pick (js:=[0,0]) rfl rfl)))<|db 3 1<|dR 4 (fun γ ρ B hb hd=>Zag.lk ⟨ρ,(zq16 gb15 go17 x16 gc18 qc11 ql12 qj13 qe14)::(cown go17 Zab x16 0 gc18)::B,_⟩ ((Zak (js:=[0,0]) ld cl42 (Zbm k qc11 ql12 qj13 qe14 x16 gb15 go17 gc18 v55 hv55) .func (.cons (tl hd 2 93) .nil) rfl).post (fun _=>Imp.pick (js:=[0,0]) rfl rfl)))<|dS 5 (fun γ ρ B hb hd=>Zan lb (tl hd 1 92) (tl hd 3 94) (cs hv56)) ?_
      refine dm 6 4 95 ?_
      refine dT 7 5 96 v56 (fun γ=>ov (PTR gb7 0)) (fun γ ρ B hb hd hq27=>Zai lb (.tmp (hb 0 _ rfl))) ?_
      refine dY 8 (fun γ ρ B hb hd=>⟨.yes rfl (ltB rfl) (hl hd 5 96 rfl) hc29,Zag.lk ⟨ρ,(cvar gb7 (zq1 go9) ((),(qb3,(qg4,(qh5,(qd6,()))))))::(cqm go9 (S rS) Zaa qm10 (some x8))::B,_⟩ ((Zak (js:=[0,0]) ld cl25 (Za4 k qb3 qg4 qh5 qd6 x8 gb7 go9 qm10 () hv_u_57) .func (.cons (HasO.cnd (tl hd 6 97) hc29) .nil) rfl).post (fun _=>Imp.pick (js:=[0,0]) rfl rfl))⟩)<|dY 9 (fun γ ρ B hb hd=>⟨.yes rfl (ltB rfl) (hl hd 5 96 rfl) hc29,lkB (Zai lb (.tmp (hb 1 _ rfl)))⟩)<|dY 10 (fun γ ρ B hb hd=>⟨.yes rfl (ltB rfl) (hl hd 5 96 rfl) hc29,lkB (Zae lb (tl hd 8 99) (fun e v h=>by subst h; rfl))⟩)<|dY 11 (fun γ ρ B hb hd=>⟨.yes rfl (ltB rfl) (hl hd 5 96 rfl) hc29,lkB (Zad (off:=3) lb Zes (tl hd 9 100))⟩)<|dY 12 (fun γ ρ B hb hd=>⟨.yes rfl (ltB rfl) (hl hd 5 96 rfl) hc29,Zag.lk ⟨ρ,(zq16 gb15 go17 x16 gc18 qc11 ql12 qj13 qe14)::B,_⟩ (Zam (j:=0) lb tS4 (tl hd 10 101) rfl (Comp.trans (Comp.self (zq10 go17 x16 gc18) ((),(qc11,(ql12,(qj13,(qe14,())))))) (Comp.at' (Comp.inS (Comp.inS (Comp.inS (Comp.inF (Comp.self rB qj13) (lE rfl))))) (by rfl : _ = 3)) (lE rfl)) rfl rfl)⟩) ?_
      refine dY 13 (fun γ ρ B hb hd=>⟨.yes rfl (ltB rfl) (hl hd 5 96 rfl) hc29,lkB (Zfs lb tu4 (tl hd 7 98) (tl hd 11 102) hv58)⟩)<|dS 14 (fun γ ρ B hb hd=>Zaw lb (tl hd 5 96) hc29 (tl hd 12 103))<|dm 15 13 104 ?_
      refine dT 16 14 105 v58 (fun γ=>ov (PTR gb7 0)) (fun γ ρ B hb hd hq30=>Zai lb (.tmp (hb 0 _ rfl))) ?_
      refine dY 17 (fun γ ρ B hb hd=>⟨.yes rfl (ltB rfl) (hl hd 14 105 rfl) hc32,Zag.lk ⟨ρ,(cvar gb7 (zq1 go9) ((),(qb3,(qg4,(qh5,(qd6,()))))))::(cqm go9 (S rS) Zaa qm10 (some x8))::B,_⟩ ((Zak (js:=[0,0]) ld cl26 (Zbh k qb3 qg4 qh5 qd6 x8 gb7 go9 qm10 () hv_u_59) .func (.cons (HasO.cnd (tl hd 15 106) hc32) .nil) rfl).post (fun _=>Imp.pick (js:=[0,0]) rfl rfl))⟩)<|dY 18 (fun γ ρ B hb hd=>⟨.yes rfl (ltB rfl) (hl hd 14 105 rfl) hc32,lkB (Zai lb (.tmp (hb 1 _ rfl)))⟩)<|dY 19 (fun γ ρ B hb hd=>⟨.yes rfl (ltB rfl) (hl hd 14 105 rfl) hc32,lkB (Zae lb (tl hd 17 108) (fun e v h=>by subst h; rfl))⟩)<|dY 20 (fun γ ρ B hb hd=>⟨.yes rfl (ltB rfl) (hl hd 14 105 rfl) hc32,lkB (Zad (off:=4) lb Zft (tl hd 18 109))⟩)<|dY 21 (fun γ ρ B hb hd=>⟨.yes rfl (ltB rfl) (hl hd 14 105 rfl) hc32,Zag.lk ⟨ρ,(zq16 gb15 go17 x16 gc18 qc11 ql12 qj13 qe14)::B,_⟩ (Zam (j:=0) lb tS3 (tl hd 19 110) rfl (Comp.trans (Comp.self (zq10 go17 x16 gc18) ((),(qc11,(ql12,(qj13,(qe14,())))))) (Comp.at' (Comp.inS (Comp.inS (Comp.inS (Comp.inS (Comp.inF (Comp.self (rI .i64) qe14) (lE rfl)))))) (by rfl : _ = 4)) (lE rfl)) rfl rfl)⟩) ?_
      refine dY 22 (fun γ ρ B hb hd=>⟨.yes rfl (ltB rfl) (hl hd 14 105 rfl) hc32,lkB (Zan lb (tl hd 16 107) (tl hd 20 111) (cs hv60))⟩)<|dS 23 (fun γ ρ B hb hd=>Zaw lb (tl hd 14 105) hc32 (tl hd 21 112))<|dm 24 22 113 ?_
      refine dT 25 23 114 v60 (fun γ=>ov (PTR gb7 0)) (fun γ ρ B hb hd hq33=>Zai lb (.tmp (hb 0 _ rfl))) ?_
      refine dT 26 23 114 v60 (fun γ=>ov (PTR gb15 0)) (fun γ ρ B hb hd hq34=>Zai lb (.tmp (hb 1 _ rfl))) ?_
      refine dT 27 23 114 v60 (fun γ=>ov (S (rI .i64) a2)) (fun γ ρ B hb hd hq35=>Zai lb (.tmp (hb 3 _ rfl))) ?_
      refine dY 28 (fun γ ρ B hb hd=>⟨.yes rfl (ltB rfl) (hl hd 23 114 rfl) hc37,Zag.lk ⟨ρ,(cvar gb7 (zq1 go9) ((),(qb3,(qg4,(qh5,(qd6,()))))))::(cqm go9 (S rS) Zaa qm10 (some x8))::(zq16 gb15 go17 x16 gc18 qc11 ql12 qj13 qe14)::(cown go17 Zab x16 0 gc18)::B,_⟩ ((Zak (js:=[0,0,0,0]) ld cl43 (ZbQ k a2 qb3 qg4 qh5 qd6 x8 qc11 ql12 qj13 qe14 x16 gb7 go9 qm10 gb15 go17 gc18 v61 hv61) .func (.cons (HasO.cnd (tl hd 24 115) hc37) (.cons (HasO.cnd (tl hd 25 116) hc37) (.cons (HasO.cnd (tl hd 26 117) hc37) .nil))) rfl).post (fun _=>Imp.pick (js:=[0,0,0,0]) rfl rfl))⟩)<|dS 29 (fun γ ρ B hb hd=>Zaw lb (tl hd 23 114) hc37 (tl hd 27 118))<|dm 30 28 119 ?_
      refine dT 31 29 120 v61 (fun γ=>ov (PTR gb7 0)) (fun γ ρ B hb hd hq38=>Zai lb (.tmp (hb 0 _ rfl))) ?_
      refine dT 32 29 120 v61 (fun γ=>ov (PTR gb15 0)) (fun γ ρ B hb hd hq39=>Zai lb (.tmp (hb 1 _ rfl))) ?_
      refine kn 33 29 120 rfl hc41<|dS 34 (fun γ ρ B hb hd=>Zar lb (tl hd 29 120) hc41 .cB)<|dS 35 (fun γ ρ B hb hd=>Zac lb (tl hd 33 124)) ?_
      exact Zat.nil)
                 (by decide +kernel) (fun _=>rfl) (fun _=>rfl) (fun _=>rfl) rfl
                 (ρ':=fun γ=>[(8,ov (S rB false))])
                 (X':=fun γ=>[cvar gb7 (zq1 go9) ((),(qb3,(qg4,(qh5,(qd6,()))))),cqm go9 (S rS) Zaa qm10 (some x8),zq16 gb15 go17 x16 gc18 qc11 ql12 qj13 qe14,cown go17 Zab x16 0 gc18])
                 (fun γ ρ hb hd=>(.cons (hdq hd 34 8 rfl) .nil)) (fun _=>rfl) (fun γ=>?_)
             refine JQ.at ⟨[(8,ov (S rB false))],[cvar gb7 (zq1 go9) ((),(qb3,(qg4,(qh5,(qd6,()))))),cqm go9 (S rS) Zaa qm10 (some x8),zq16 gb15 go17 x16 gc18 qc11 ql12 qj13 qe14,cown go17 Zab x16 0 gc18],[]⟩ ?_
             try obtain rfl:=so hx26
             exact JQ.join () (Imp.norm (js:=[0,0,0,0]) rfl (.cons rfl .nil))
           refine JC.anyF (base:=[(0,ov (PTR gb7 0)),(1,ov (PTR gb15 0)),(3,ov (S (rI .i64) a2))])
               (fs:=fun γ=>[⟨some 91,ov (PTR gb7 0)⟩,⟨some 92,ov (S (rI .i64) v54)⟩,⟨some 93,ov (PTR gb15 0)⟩,⟨some 94,ov (S (rI .i64) v55)⟩,⟨some 95,ov (S rB v56)⟩,⟨some 96,ov (S rB v56)⟩,⟨some 97,bif v56 then ov (PTR gb7 0) else .one .und⟩,⟨some 98,ov (S rB qh5)⟩,⟨some 99,ov (PTR gb15 0)⟩,⟨some 100,ov (PTR gb15 0)⟩,⟨some 101,ov (PTR gb15 (0 + 3))⟩,⟨some 102,ov (S rB qj13)⟩,⟨some 103,ov (S rB v58)⟩,⟨some 104,ov (S rB v58)⟩,⟨some 105,ov (S rB v58)⟩,⟨some 106,bif v58 then ov (PTR gb7 0) else .one .und⟩,⟨some 107,ov (S (rI .i64) qd6)⟩,⟨some 108,ov (PTR gb15 0)⟩,⟨some 109,ov (PTR gb15 0)⟩,⟨some 110,ov (PTR gb15 (0 + 4))⟩,⟨some 111,ov (S (rI .i64) qe14)⟩,⟨some 112,ov (S rB v60)⟩,⟨some 113,ov (S rB v60)⟩,⟨some 114,ov (S rB v60)⟩,⟨some 115,bif v60 then ov (PTR gb7 0) else .one .und⟩,⟨some 116,bif v60 then ov (PTR gb15 0) else .one .und⟩,⟨some 117,bif v60 then ov (S (rI .i64) a2) else .one .und⟩,⟨some 118,.one .und⟩,⟨some 119,ov (S rB false)⟩,⟨some 120,ov (S rB false)⟩,⟨some 121,.one .und⟩,⟨some 122,.one .und⟩,⟨some 123,.one .und⟩,⟨some 124,ov (S rB false)⟩,⟨some 8,ov (S rB false)⟩])
               (rs:=fun γ=>[⟨cvar gb7 (zq1 go9) ((),(qb3,(qg4,(qh5,(qd6,()))))),none,none,[1,7,16]⟩,⟨cqm go9 (S rS) Zaa qm10 (some x8),none,none,[1,7,16]⟩,⟨zq16 gb15 go17 x16 gc18 qc11 ql12 qj13 qe14,none,none,[3,11,20]⟩,⟨cown go17 Zab x16 0 gc18,none,none,[3]⟩])
               (afts:=nn 35) (js:=[0,0,0,0]) mixed (.cons rfl (.cons rfl (.cons rfl .nil))) (fun _=>rfl)
               (by
      refine db 1 0<|dR 2 (fun γ ρ B hb hd=>Zag.lk ⟨ρ,(cvar gb7 (zq1 go9) ((),(qb3,(qg4,(qh5,(qd6,()))))))::(cqm go9 (S rS) Zaa qm10 (some x8))::B,_⟩ ((Zak (js:=[0,0]) ld cl11 (Zaq k qb3 qg4 qh5 qd6 x8 gb7 go9 qm10 v54 hv54) .func (.cons (tl hd 0 91) .nil) rfl).post (fun _=>Imp.pick (js:=[0,0]) rfl rfl)))<|db 3 1<|dR 4 (fun γ ρ B hb hd=>Zag.lk ⟨ρ,(zq16 gb15 go17 x16 gc18 qc11 ql12 qj13 qe14)::(cown go17 Zab x16 0 gc18)::B,_⟩ ((Zak (js:=[0,0]) ld cl42 (Zbm k qc11 ql12 qj13 qe14 x16 gb15 go17 gc18 v55 hv55) .func (.cons (tl hd 2 93) .nil) rfl).post (fun _=>Imp.pick (js:=[0,0]) rfl rfl)))<|dS 5 (fun γ ρ B hb hd=>Zan lb (tl hd 1 92) (tl hd 3 94) (cs hv56)) ?_
      refine dm 6 4 95 ?_
      refine dT 7 5 96 v56 (fun γ=>ov (PTR gb7 0)) (fun γ ρ B hb hd hq27=>Zai lb (.tmp (hb 0 _ rfl))) ?_
      refine dY 8 (fun γ ρ B hb hd=>⟨.yes rfl (ltB rfl) (hl hd 5 96 rfl) hc29,Zag.lk ⟨ρ,(cvar gb7 (zq1 go9) ((),(qb3,(qg4,(qh5,(qd6,()))))))::(cqm go9 (S rS) Zaa qm10 (some x8))::B,_⟩ ((Zak (js:=[0,0]) ld cl25 (Za4 k qb3 qg4 qh5 qd6 x8 gb7 go9 qm10 () hv_u_57) .func (.cons (HasO.cnd (tl hd 6 97) hc29) .nil) rfl).post (fun _=>Imp.pick (js:=[0,0]) rfl rfl))⟩)<|dY 9 (fun γ ρ B hb hd=>⟨.yes rfl (ltB rfl) (hl hd 5 96 rfl) hc29,lkB (Zai lb (.tmp (hb 1 _ rfl)))⟩)<|dY 10 (fun γ ρ B hb hd=>⟨.yes rfl (ltB rfl) (hl hd 5 96 rfl) hc29,lkB (Zae lb (tl hd 8 99) (fun e v h=>by subst h; rfl))⟩)<|dY 11 (fun γ ρ B hb hd=>⟨.yes rfl (ltB rfl) (hl hd 5 96 rfl) hc29,lkB (Zad (off:=3) lb Zes (tl hd 9 100))⟩)<|dY 12 (fun γ ρ B hb hd=>⟨.yes rfl (ltB rfl) (hl hd 5 96 rfl) hc29,Zag.lk ⟨ρ,(zq16 gb15 go17 x16 gc18 qc11 ql12 qj13 qe14)::B,_⟩ (Zam (j:=0) lb tS4 (tl hd 10 101) rfl (Comp.trans (Comp.self (zq10 go17 x16 gc18) ((),(qc11,(ql12,(qj13,(qe14,())))))) (Comp.at' (Comp.inS (Comp.inS (Comp.inS (Comp.inF (Comp.self rB qj13) (lE rfl))))) (by rfl : _ = 3)) (lE rfl)) rfl rfl)⟩) ?_
      refine dY 13 (fun γ ρ B hb hd=>⟨.yes rfl (ltB rfl) (hl hd 5 96 rfl) hc29,lkB (Zfs lb tu4 (tl hd 7 98) (tl hd 11 102) hv58)⟩)<|dS 14 (fun γ ρ B hb hd=>Zaw lb (tl hd 5 96) hc29 (tl hd 12 103))<|dm 15 13 104 ?_
      refine dT 16 14 105 v58 (fun γ=>ov (PTR gb7 0)) (fun γ ρ B hb hd hq30=>Zai lb (.tmp (hb 0 _ rfl))) ?_
      refine dY 17 (fun γ ρ B hb hd=>⟨.yes rfl (ltB rfl) (hl hd 14 105 rfl) hc32,Zag.lk ⟨ρ,(cvar gb7 (zq1 go9) ((),(qb3,(qg4,(qh5,(qd6,()))))))::(cqm go9 (S rS) Zaa qm10 (some x8))::B,_⟩ ((Zak (js:=[0,0]) ld cl26 (Zbh k qb3 qg4 qh5 qd6 x8 gb7 go9 qm10 () hv_u_59) .func (.cons (HasO.cnd (tl hd 15 106) hc32) .nil) rfl).post (fun _=>Imp.pick (js:=[0,0]) rfl rfl))⟩)<|dY 18 (fun γ ρ B hb hd=>⟨.yes rfl (ltB rfl) (hl hd 14 105 rfl) hc32,lkB (Zai lb (.tmp (hb 1 _ rfl)))⟩)<|dY 19 (fun γ ρ B hb hd=>⟨.yes rfl (ltB rfl) (hl hd 14 105 rfl) hc32,lkB (Zae lb (tl hd 17 108) (fun e v h=>by subst h; rfl))⟩)<|dY 20 (fun γ ρ B hb hd=>⟨.yes rfl (ltB rfl) (hl hd 14 105 rfl) hc32,lkB (Zad (off:=4) lb Zft (tl hd 18 109))⟩)<|dY 21 (fun γ ρ B hb hd=>⟨.yes rfl (ltB rfl) (hl hd 14 105 rfl) hc32,Zag.lk ⟨ρ,(zq16 gb15 go17 x16 gc18 qc11 ql12 qj13 qe14)::B,_⟩ (Zam (j:=0) lb tS3 (tl hd 19 110) rfl (Comp.trans (Comp.self (zq10 go17 x16 gc18) ((),(qc11,(ql12,(qj13,(qe14,())))))) (Comp.at' (Comp.inS (Comp.inS (Comp.inS (Comp.inS (Comp.inF (Comp.self (rI .i64) qe14) (lE rfl)))))) (by rfl : _ = 4)) (lE rfl)) rfl rfl)⟩) ?_
      refine dY 22 (fun γ ρ B hb hd=>⟨.yes rfl (ltB rfl) (hl hd 14 105 rfl) hc32,lkB (Zan lb (tl hd 16 107) (tl hd 20 111) (cs hv60))⟩)<|dS 23 (fun γ ρ B hb hd=>Zaw lb (tl hd 14 105) hc32 (tl hd 21 112))<|dm 24 22 113 ?_
      refine dT 25 23 114 v60 (fun γ=>ov (PTR gb7 0)) (fun γ ρ B hb hd hq33=>Zai lb (.tmp (hb 0 _ rfl))) ?_
      refine dT 26 23 114 v60 (fun γ=>ov (PTR gb15 0)) (fun γ ρ B hb hd hq34=>Zai lb (.tmp (hb 1 _ rfl))) ?_
      refine dT 27 23 114 v60 (fun γ=>ov (S (rI .i64) a2)) (fun γ ρ B hb hd hq35=>Zai lb (.tmp (hb 3 _ rfl))) ?_
      refine kn 28 23 114 rfl hc37<|dS 29 (fun γ ρ B hb hd=>Zar lb (tl hd 23 114) hc37 .cB)<|dm 30 28 119<|kn 31 29 120 rfl rfl<|kn 32 29 120 rfl rfl ?_
      refine kn 33 29 120 rfl rfl<|dS 34 (fun γ ρ B hb hd=>Zar lb (tl hd 29 120) rfl .cB)<|dS 35 (fun γ ρ B hb hd=>Zac lb (tl hd 33 124)) ?_
      exact Zat.nil)
               (by decide +kernel) (fun _=>rfl) (fun _=>rfl) (fun _=>rfl) rfl
               (ρ':=fun γ=>[(8,ov (S rB false))])
               (X':=fun γ=>[cvar gb7 (zq1 go9) ((),(qb3,(qg4,(qh5,(qd6,()))))),cqm go9 (S rS) Zaa qm10 (some x8),zq16 gb15 go17 x16 gc18 qc11 ql12 qj13 qe14,cown go17 Zab x16 0 gc18])
               (fun γ ρ hb hd=>(.cons (hdq hd 34 8 rfl) .nil)) (fun _=>rfl) (fun γ=>?_)
           refine JQ.at ⟨[(8,ov (S rB false))],[cvar gb7 (zq1 go9) ((),(qb3,(qg4,(qh5,(qd6,()))))),cqm go9 (S rS) Zaa qm10 (some x8),zq16 gb15 go17 x16 gc18 qc11 ql12 qj13 qe14,cown go17 Zab x16 0 gc18],[]⟩ ?_
           try obtain rfl:=so hx26
           exact JQ.join () (Imp.norm (js:=[0,0,0,0]) rfl (.cons rfl .nil))
         refine JC.anyF (base:=[(0,ov (PTR gb7 0)),(1,ov (PTR gb15 0))])
             (fs:=fun γ=>[⟨some 91,ov (PTR gb7 0)⟩,⟨some 92,ov (S (rI .i64) v54)⟩,⟨some 93,ov (PTR gb15 0)⟩,⟨some 94,ov (S (rI .i64) v55)⟩,⟨some 95,ov (S rB v56)⟩,⟨some 96,ov (S rB v56)⟩,⟨some 97,bif v56 then ov (PTR gb7 0) else .one .und⟩,⟨some 98,ov (S rB qh5)⟩,⟨some 99,ov (PTR gb15 0)⟩,⟨some 100,ov (PTR gb15 0)⟩,⟨some 101,ov (PTR gb15 (0 + 3))⟩,⟨some 102,ov (S rB qj13)⟩,⟨some 103,ov (S rB v58)⟩,⟨some 104,ov (S rB v58)⟩,⟨some 105,ov (S rB v58)⟩,⟨some 106,bif v58 then ov (PTR gb7 0) else .one .und⟩,⟨some 107,.one .und⟩,⟨some 108,.one .und⟩,⟨some 109,.one .und⟩,⟨some 110,.one .und⟩,⟨some 111,.one .und⟩,⟨some 112,.one .und⟩,⟨some 113,ov (S rB false)⟩,⟨some 114,ov (S rB false)⟩,⟨some 115,.one .und⟩,⟨some 116,.one .und⟩,⟨some 117,.one .und⟩,⟨some 118,.one .und⟩,⟨some 119,ov (S rB false)⟩,⟨some 120,ov (S rB false)⟩,⟨some 121,.one .und⟩,⟨some 122,.one .und⟩,⟨some 123,.one .und⟩,⟨some 124,ov (S rB false)⟩,⟨some 8,ov (S rB false)⟩])
             (rs:=fun γ=>[⟨cvar gb7 (zq1 go9) ((),(qb3,(qg4,(qh5,(qd6,()))))),none,none,[1,7]⟩,⟨cqm go9 (S rS) Zaa qm10 (some x8),none,none,[1,7]⟩,⟨zq16 gb15 go17 x16 gc18 qc11 ql12 qj13 qe14,none,none,[3,11]⟩,⟨cown go17 Zab x16 0 gc18,none,none,[3]⟩])
             (afts:=nn 35) (js:=[0,0,0,0]) mixed (.cons rfl (.cons rfl .nil)) (fun _=>rfl)
             (by
      refine db 1 0<|dR 2 (fun γ ρ B hb hd=>Zag.lk ⟨ρ,(cvar gb7 (zq1 go9) ((),(qb3,(qg4,(qh5,(qd6,()))))))::(cqm go9 (S rS) Zaa qm10 (some x8))::B,_⟩ ((Zak (js:=[0,0]) ld cl11 (Zaq k qb3 qg4 qh5 qd6 x8 gb7 go9 qm10 v54 hv54) .func (.cons (tl hd 0 91) .nil) rfl).post (fun _=>Imp.pick (js:=[0,0]) rfl rfl)))<|db 3 1<|dR 4 (fun γ ρ B hb hd=>Zag.lk ⟨ρ,(zq16 gb15 go17 x16 gc18 qc11 ql12 qj13 qe14)::(cown go17 Zab x16 0 gc18)::B,_⟩ ((Zak (js:=[0,0]) ld cl42 (Zbm k qc11 ql12 qj13 qe14 x16 gb15 go17 gc18 v55 hv55) .func (.cons (tl hd 2 93) .nil) rfl).post (fun _=>Imp.pick (js:=[0,0]) rfl rfl)))<|dS 5 (fun γ ρ B hb hd=>Zan lb (tl hd 1 92) (tl hd 3 94) (cs hv56)) ?_
      refine dm 6 4 95 ?_
      refine dT 7 5 96 v56 (fun γ=>ov (PTR gb7 0)) (fun γ ρ B hb hd hq27=>Zai lb (.tmp (hb 0 _ rfl))) ?_
      refine dY 8 (fun γ ρ B hb hd=>⟨.yes rfl (ltB rfl) (hl hd 5 96 rfl) hc29,Zag.lk ⟨ρ,(cvar gb7 (zq1 go9) ((),(qb3,(qg4,(qh5,(qd6,()))))))::(cqm go9 (S rS) Zaa qm10 (some x8))::B,_⟩ ((Zak (js:=[0,0]) ld cl25 (Za4 k qb3 qg4 qh5 qd6 x8 gb7 go9 qm10 () hv_u_57) .func (.cons (HasO.cnd (tl hd 6 97) hc29) .nil) rfl).post (fun _=>Imp.pick (js:=[0,0]) rfl rfl))⟩)<|dY 9 (fun γ ρ B hb hd=>⟨.yes rfl (ltB rfl) (hl hd 5 96 rfl) hc29,lkB (Zai lb (.tmp (hb 1 _ rfl)))⟩)<|dY 10 (fun γ ρ B hb hd=>⟨.yes rfl (ltB rfl) (hl hd 5 96 rfl) hc29,lkB (Zae lb (tl hd 8 99) (fun e v h=>by subst h; rfl))⟩)<|dY 11 (fun γ ρ B hb hd=>⟨.yes rfl (ltB rfl) (hl hd 5 96 rfl) hc29,lkB (Zad (off:=3) lb Zes (tl hd 9 100))⟩)<|dY 12 (fun γ ρ B hb hd=>⟨.yes rfl (ltB rfl) (hl hd 5 96 rfl) hc29,Zag.lk ⟨ρ,(zq16 gb15 go17 x16 gc18 qc11 ql12 qj13 qe14)::B,_⟩ (Zam (j:=0) lb tS4 (tl hd 10 101) rfl (Comp.trans (Comp.self (zq10 go17 x16 gc18) ((),(qc11,(ql12,(qj13,(qe14,())))))) (Comp.at' (Comp.inS (Comp.inS (Comp.inS (Comp.inF (Comp.self rB qj13) (lE rfl))))) (by rfl : _ = 3)) (lE rfl)) rfl rfl)⟩) ?_
      refine dY 13 (fun γ ρ B hb hd=>⟨.yes rfl (ltB rfl) (hl hd 5 96 rfl) hc29,lkB (Zfs lb tu4 (tl hd 7 98) (tl hd 11 102) hv58)⟩)<|dS 14 (fun γ ρ B hb hd=>Zaw lb (tl hd 5 96) hc29 (tl hd 12 103))<|dm 15 13 104 ?_
      refine dT 16 14 105 v58 (fun γ=>ov (PTR gb7 0)) (fun γ ρ B hb hd hq30=>Zai lb (.tmp (hb 0 _ rfl))) ?_
      refine kn 17 14 105 rfl hc32<|kn 18 14 105 rfl hc32<|kn 19 14 105 rfl hc32<|kn 20 14 105 rfl hc32<|kn 21 14 105 rfl hc32 ?_
      refine kn 22 14 105 rfl hc32<|dS 23 (fun γ ρ B hb hd=>Zar lb (tl hd 14 105) hc32 .cB)<|dm 24 22 113<|kn 25 23 114 rfl rfl<|kn 26 23 114 rfl rfl ?_
      refine kn 27 23 114 rfl rfl<|kn 28 23 114 rfl rfl<|dS 29 (fun γ ρ B hb hd=>Zar lb (tl hd 23 114) rfl .cB)<|dm 30 28 119<|kn 31 29 120 rfl rfl ?_
      refine kn 32 29 120 rfl rfl<|kn 33 29 120 rfl rfl<|dS 34 (fun γ ρ B hb hd=>Zar lb (tl hd 29 120) rfl .cB)<|dS 35 (fun γ ρ B hb hd=>Zac lb (tl hd 33 124)) ?_
      exact Zat.nil)
             (by decide +kernel) (fun _=>rfl) (fun _=>rfl) (fun _=>rfl) rfl
             (ρ':=fun γ=>[(8,ov (S rB false))])
             (X':=fun γ=>[cvar gb7 (zq1 go9) ((),(qb3,(qg4,(qh5,(qd6,()))))),cqm go9 (S rS) Zaa qm10 (some x8),zq16 gb15 go17 x16 gc18 qc11 ql12 qj13 qe14,cown go17 Zab x16 0 gc18])
             (fun γ ρ hb hd=>(.cons (hdq hd 34 8 rfl) .nil)) (fun _=>rfl) (fun γ=>?_)
         refine JQ.at ⟨[(8,ov (S rB false))],[cvar gb7 (zq1 go9) ((),(qb3,(qg4,(qh5,(qd6,()))))),cqm go9 (S rS) Zaa qm10 (some x8),zq16 gb15 go17 x16 gc18 qc11 ql12 qj13 qe14,cown go17 Zab x16 0 gc18],[]⟩ ?_
         try obtain rfl:=so hx26
         exact JQ.join () (Imp.norm (js:=[0,0,0,0]) rfl (.cons rfl .nil))
       refine JC.anyF (base:=[(0,ov (PTR gb7 0)),(1,ov (PTR gb15 0))])
           (fs:=fun γ=>[⟨some 91,ov (PTR gb7 0)⟩,⟨some 92,ov (S (rI .i64) v54)⟩,⟨some 93,ov (PTR gb15 0)⟩,⟨some 94,ov (S (rI .i64) v55)⟩,⟨some 95,ov (S rB v56)⟩,⟨some 96,ov (S rB v56)⟩,⟨some 97,bif v56 then ov (PTR gb7 0) else .one .und⟩,⟨some 98,.one .und⟩,⟨some 99,.one .und⟩,⟨some 100,.one .und⟩,⟨some 101,.one .und⟩,⟨some 102,.one .und⟩,⟨some 103,.one .und⟩,⟨some 104,ov (S rB false)⟩,⟨some 105,ov (S rB false)⟩,⟨some 106,.one .und⟩,⟨some 107,.one .und⟩,⟨some 108,.one .und⟩,⟨some 109,.one .und⟩,⟨some 110,.one .und⟩,⟨some 111,.one .und⟩,⟨some 112,.one .und⟩,⟨some 113,ov (S rB false)⟩,⟨some 114,ov (S rB false)⟩,⟨some 115,.one .und⟩,⟨some 116,.one .und⟩,⟨some 117,.one .und⟩,⟨some 118,.one .und⟩,⟨some 119,ov (S rB false)⟩,⟨some 120,ov (S rB false)⟩,⟨some 121,.one .und⟩,⟨some 122,.one .und⟩,⟨some 123,.one .und⟩,⟨some 124,ov (S rB false)⟩,⟨some 8,ov (S rB false)⟩])
           (rs:=fun γ=>[⟨cvar gb7 (zq1 go9) ((),(qb3,(qg4,(qh5,(qd6,()))))),none,none,[1]⟩,⟨cqm go9 (S rS) Zaa qm10 (some x8),none,none,[1]⟩,⟨zq16 gb15 go17 x16 gc18 qc11 ql12 qj13 qe14,none,none,[3]⟩,⟨cown go17 Zab x16 0 gc18,none,none,[3]⟩])
           (afts:=nn 35) (js:=[0,0,0,0]) mixed (.cons rfl (.cons rfl .nil)) (fun _=>rfl)
           (by
      refine db 1 0<|dR 2 (fun γ ρ B hb hd=>Zag.lk ⟨ρ,(cvar gb7 (zq1 go9) ((),(qb3,(qg4,(qh5,(qd6,()))))))::(cqm go9 (S rS) Zaa qm10 (some x8))::B,_⟩ ((Zak (js:=[0,0]) ld cl11 (Zaq k qb3 qg4 qh5 qd6 x8 gb7 go9 qm10 v54 hv54) .func (.cons (tl hd 0 91) .nil) rfl).post (fun _=>Imp.pick (js:=[0,0]) rfl rfl)))<|db 3 1<|dR 4 (fun γ ρ B hb hd=>Zag.lk ⟨ρ,(zq16 gb15 go17 x16 gc18 qc11 ql12 qj13 qe14)::(cown go17 Zab x16 0 gc18)::B,_⟩ ((Zak (js:=[0,0]) ld cl42 (Zbm k qc11 ql12 qj13 qe14 x16 gb15 go17 gc18 v55 hv55) .func (.cons (tl hd 2 93) .nil) rfl).post (fun _=>Imp.pick (js:=[0,0]) rfl rfl)))<|dS 5 (fun γ ρ B hb hd=>Zan lb (tl hd 1 92) (tl hd 3 94) (cs hv56)) ?_
      refine dm 6 4 95 ?_
      refine dT 7 5 96 v56 (fun γ=>ov (PTR gb7 0)) (fun γ ρ B hb hd hq27=>Zai lb (.tmp (hb 0 _ rfl))) ?_
      refine kn 8 5 96 rfl hc29<|kn 9 5 96 rfl hc29<|kn 10 5 96 rfl hc29<|kn 11 5 96 rfl hc29<|kn 12 5 96 rfl hc29 ?_
      refine kn 13 5 96 rfl hc29<|dS 14 (fun γ ρ B hb hd=>Zar lb (tl hd 5 96) hc29 .cB)<|dm 15 13 104<|kn 16 14 105 rfl rfl<|kn 17 14 105 rfl rfl ?_
      refine kn 18 14 105 rfl rfl<|kn 19 14 105 rfl rfl<|kn 20 14 105 rfl rfl<|kn 21 14 105 rfl rfl<|kn 22 14 105 rfl rfl ?_
      refine dS 23 (fun γ ρ B hb hd=>Zar lb (tl hd 14 105) rfl .cB)<|dm 24 22 113<|kn 25 23 114 rfl rfl<|kn 26 23 114 rfl rfl<|kn 27 23 114 rfl rfl ?_
      refine kn 28 23 114 rfl rfl<|dS 29 (fun γ ρ B hb hd=>Zar lb (tl hd 23 114) rfl .cB)<|dm 30 28 119<|kn 31 29 120 rfl rfl<|kn 32 29 120 rfl rfl ?_
      refine kn 33 29 120 rfl rfl<|dS 34 (fun γ ρ B hb hd=>Zar lb (tl hd 29 120) rfl .cB)<|dS 35 (fun γ ρ B hb hd=>Zac lb (tl hd 33 124)) ?_
      exact Zat.nil)
           (by decide +kernel) (fun _=>rfl) (fun _=>rfl) (fun _=>rfl) rfl
           (ρ':=fun γ=>[(8,ov (S rB false))])
           (X':=fun γ=>[cvar gb7 (zq1 go9) ((),(qb3,(qg4,(qh5,(qd6,()))))),cqm go9 (S rS) Zaa qm10 (some x8),zq16 gb15 go17 x16 gc18 qc11 ql12 qj13 qe14,cown go17 Zab x16 0 gc18])
           (fun γ ρ hb hd=>(.cons (hdq hd 34 8 rfl) .nil)) (fun _=>rfl) (fun γ=>?_)
       refine JQ.at ⟨[(8,ov (S rB false))],[cvar gb7 (zq1 go9) ((),(qb3,(qg4,(qh5,(qd6,()))))),cqm go9 (S rS) Zaa qm10 (some x8),zq16 gb15 go17 x16 gc18 qc11 ql12 qj13 qe14,cown go17 Zab x16 0 gc18],[]⟩ ?_
       try obtain rfl:=so hx26
       exact JQ.join () (Imp.norm (js:=[0,0,0,0]) rfl (.cons rfl .nil))
     refine jr<|jc (Zac lb .cI)<|jn<|JC.block<|JC.pre ?_ (JC.loop (γ:=Unit) (stf:=fun s q=>⟨[(0,ov (PTR gb7 0)),(1,ov (PTR gb15 0)),(3,ov (S (rI .i64) a2)),(9,ov (HDR go21 0 (List.length s.1) gc22)),(15,ov (S (rI .i64) s.2))],[cvar gb7 (zq1 go9) ((),(qb3,(qg4,(qh5,(qd6,()))))),cqm go9 (S rS) Zaa qm10 (some x8),zq16 gb15 go17 x16 gc18 qc11 ql12 qj13 qe14,cown go17 Zab x16 0 gc18,cown go21 (rU UInt8) s.1 0 gc22],[]⟩) (q:=()) hx23 ?_)
     · exact (Imp.norm (js:=[0,0,0,0,0]) rfl (.cons rfl (.cons rfl (.cons rfl (.cons rfl (.cons rfl .nil))))))
     intro s q x hx hr
     obtain ⟨x45,x46⟩:=s
     obtain _:=q
     change law05_looks_ppvv_smvvvvmsovvvv.b1 k x45 x46 = some x at hx
     unfold law05_looks_ppvv_smvvvvmsovvvv.b1 at hx
     refine JC.at ⟨[(0,ov (PTR gb7 0)),(1,ov (PTR gb15 0)),(3,ov (S (rI .i64) a2)),(9,ov (HDR go21 0 (List.length x45) gc22)),(15,ov (S (rI .i64) x46))],[cvar gb7 (zq1 go9) ((),(qb3,(qg4,(qh5,(qd6,()))))),cqm go9 (S rS) Zaa qm10 (some x8),zq16 gb15 go17 x16 gc18 qc11 ql12 qj13 qe14,cown go17 Zab x16 0 gc18,cown go21 (rU UInt8) x45 0 gc22],[]⟩<|JC.seq<|jr<|jmv rfl rfl<|jmv rfl rfl<|jc (Zb2 lb tu31 tR)<|lI hx fun v47 hv47 hx=>jc (Zan lb tR tR (cs hv47))<|jn<|jif tR hx (fun hc25 hx=>?_) (fun hc25 hx=>?_)
     · refine JC.skip<|JQ.then<|JC.seq<|JC.block<|JC.region<|jmv rfl rfl<|jmv rfl rfl<|jmv rfl rfl<|jmv rfl rfl<|bI hx fun i48 hv_i_48 hx=>jc (Zap (r:=(rU UInt8)) (j:=4) lb tu31 tz5 rfl tR tR hv_i_48)<|bI hx fun v49 hv49 hx=>jc (Zbf (r:=(rU UInt8)) (i:=i48) (off:=0) (j:=4) lb tS5 rfl rfl tR hv49 (Comp.self (rU UInt8) v49) (by decide))<|lI hx fun v50 hv50 hx=>jc (Zj6 lb tR (HasO.cU (x:=(1 : UInt8)) rfl (by decide)) (cs hv50)) ?_
       refine bI hx fun i51 hv_i_51 hx=>jc (Zap (r:=(rU UInt8)) (j:=4) lb tu31 tz5 rfl tR tR hv_i_51)<|JL.sub ⟨[(0,ov (PTR gb7 0)),(1,ov (PTR gb15 0)),(3,ov (S (rI .i64) a2)),(9,ov (HDR go21 0 (List.length x45) gc22)),(15,ov (S (rI .i64) x46)),(89,ov (S (rU UInt8) v50)),(90,ov (EPT go21 (i51 * 1)))],[cvar gb7 (zq1 go9) ((),(qb3,(qg4,(qh5,(qd6,()))))),cqm go9 (S rS) Zaa qm10 (some x8),zq16 gb15 go17 x16 gc18 qc11 ql12 qj13 qe14,cown go17 Zab x16 0 gc18,cown go21 (rU UInt8) x45 0 gc22],[]⟩ (.cons rfl (.cons rfl (.cons rfl (.cons rfl (.cons rfl (.cons rfl (.cons rfl .nil))))))) rfl rfl<|bI hx fun x52 hv_x_52 hx=>jc (Ze0 (r:=(rU UInt8)) (j:=4) tS5 rfl rfl tR tR hv_x_52)<|JL.pre (Imp.slot (s:=9) (q:=HDR go21 0 (List.length x52) gc22) rfl (ZgA (ZeF hv_x_52)))<|JL.nil<|JQ.outNB<|JQ.then<|JC.region<|jmv rfl rfl ?_
       refine lI hx fun v53 hv53 hx=>jc (Zbx lb tR .cI (cs hv53))<|jc (Zac lb tR)<|JL.nil ?_
       try obtain rfl:=so hx
       exact JQ.next () rfl (Imp.norm (js:=[0,0,0,0,0]) rfl (.cons rfl (.cons rfl (.cons rfl (.cons rfl (.cons rfl .nil))))))
     refine JC.exit<|JQ.outX ?_
     try obtain rfl:=so hx
     have ht:=hr _ rfl
     have hq24:=cs ht
     clear hr ht
     exact JQ.outX<|JQ.here<|JQ.join () (Imp.norm (js:=[0,0,0,0]) rfl (.cons rfl (.cons rfl (.cons rfl .nil))))
   refine jr<|jmv rfl rfl<|lI hx8 fun v33 hv33 hx8=>jc (Zan lb tR .cI (cs hv33))<|jn<|jif tR hx8 (fun hc9 hx8=>?_) (fun hc9 hx8=>?_)
   · refine bI hx8 fun x37 hx10 hq10=>JC.seqJ (γ:=Unit) (stj:=fun _=>⟨[(0,ov (PTR gb7 0)),(1,ov (PTR gb15 0)),(3,ov (S (rI .i64) a2)),(9,ov (HDR go21 0 (List.length v19) gc22)),(52,ov (S rB x37))],[cvar gb7 (zq1 go9) ((),(qb3,(qg4,(qh5,(qd6,()))))),cqm go9 (S rS) Zaa qm10 (some x8),zq16 gb15 go17 x16 gc18 qc11 ql12 qj13 qe14,cown go17 Zab x16 0 gc18,cown go21 (rU UInt8) v19 0 gc22],[]⟩) (fun _=>?_) ?_
     · refine jif tR hq10 (fun hc14 hq10=>?_) (fun hc14 hq10=>?_)
       · refine jr<|jc (Zac lb .cB)<|jn<|JC.ret ?_
         try obtain rfl:=so hq10
         dsimp only at hq8
         refine JQ.outR ?_
         obtain rfl:=so hq8
         exact JQ.done (js:=[0,0,0,0]) (ss:=[.val (S rB false)]) () (.inl rfl) (.nil rfl) rfl (.cons (.tmp rfl) .nil) rfl rfl rfl
       refine JC.skip ?_
       try obtain rfl:=so hq10
       exact JQ.joinK () () rfl (Imp.norm (js:=[0,0,0,0,0]) rfl (.cons rfl (.cons rfl (.cons rfl (.cons rfl .nil)))))
     refine JC.region<|jmv rfl rfl<|jc (Zb2 lb tu31 tR)<|lI hx10 fun v34 hv34 hx10=>jc (Zan lb tR .cI (cs hv34))<|jmv rfl rfl<|jF (ov (S (rI .i64) v23)) rfl rfl rfl rfl (fun hq11=>Zai lb tR)<|lI hx10 fun v35 hv35 hx10=>jF (ov (S rB v35)) rfl rfl rfl rfl (fun hq12=>Zan lb (HasO.cnd tR (notT (notF hq12))) .cI (cs hv35))<|lI hx10 fun v36 hv36 hx10=>jc (Za8 lb tR (fun hb13=>.cB) (fun hb13=>(HasO.cnd tR (notT hb13))) hv36)<|JL.nil ?_
     try obtain rfl:=so hx10
     exact JQ.join () (Imp.norm (js:=[0,0,0,0,0]) rfl (.cons rfl (.cons rfl (.cons rfl (.cons rfl (.cons rfl .nil))))))
   refine bI hx8 fun x44 hx15 hq15=>JC.seqJ (γ:=Unit) (stj:=fun _=>⟨[(0,ov (PTR gb7 0)),(1,ov (PTR gb15 0)),(3,ov (S (rI .i64) a2)),(9,ov (HDR go21 0 (List.length v19) gc22)),(76,ov (S rB x44))],[cvar gb7 (zq1 go9) ((),(qb3,(qg4,(qh5,(qd6,()))))),cqm go9 (S rS) Zaa qm10 (some x8),zq16 gb15 go17 x16 gc18 qc11 ql12 qj13 qe14,cown go17 Zab x16 0 gc18,cown go21 (rU UInt8) v19 0 gc22],[]⟩) (fun _=>?_) ?_
   · refine jif tR hq15 (fun hc22 hq15=>?_) (fun hc22 hq15=>?_)
     · refine jr<|jc (Zac lb .cB)<|jn<|JC.ret ?_
       try obtain rfl:=so hq15
       dsimp only at hq8
       refine JQ.outR ?_
       obtain rfl:=so hq8
       exact JQ.done (js:=[0,0,0,0]) (ss:=[.val (S rB false)]) () (.inl rfl) (.nil rfl) rfl (.cons (.tmp rfl) .nil) rfl rfl rfl
     refine JC.skip ?_
     try obtain rfl:=so hq15
     exact JQ.joinK () () rfl (Imp.norm (js:=[0,0,0,0,0]) rfl (.cons rfl (.cons rfl (.cons rfl (.cons rfl .nil)))))
   refine bI hx15 fun i38 hv_i_38 hx15=>bI hx15 fun u39 hv_u_39 hx15=>?_
   obtain ⟨v40,hv40,hx15⟩:=Za2 hx15
   rcases Zbc hx15 with ⟨hc21,hx15⟩ | ⟨hc21,hx15⟩
   · refine JC.anyF (base:=[(0,ov (PTR gb7 0)),(1,ov (PTR gb15 0)),(3,ov (S (rI .i64) a2)),(9,ov (HDR go21 0 (List.length v19) gc22)),(11,ov (S (rI .i64) v23)),(13,ov (S (rI .i64) v25))])
         (fs:=fun γ=>[⟨some 53,ov (HDR go21 0 (List.length v19) gc22)⟩,⟨some 54,ov (S rS v19)⟩,⟨some 55,ov (PTR gb15 0)⟩,⟨some 56,ov (PTR gb15 0)⟩,⟨some 57,ov (PTR gb15 (0 + 0))⟩,⟨some 58,ov (HDR go17 0 (List.length x16) gc18)⟩,⟨some 59,ov (S (rI .i64) v25)⟩,⟨some 60,ov (EPT go17 (i38 * 3))⟩,⟨some 61,ov (EPT go17 ((i38 * 3) + 1))⟩,⟨some 62,ov (S (rL (rU UInt8)) u39.B)⟩,⟨some 63,ov (S rS u39.B)⟩,⟨some 64,ov (S rB v40)⟩,⟨some 65,ov (S rB v40)⟩,⟨some 66,bif (!v40) then ov (S (rI .i64) v23) else .one .und⟩,⟨some 67,bif (!v40) then ov (PTR gb15 0) else .one .und⟩,⟨some 68,bif (!v40) then ov (PTR gb15 0) else .one .und⟩,⟨some 69,bif (!v40) then ov (PTR gb15 (0 + 0)) else .one .und⟩,⟨some 70,.one .und⟩,⟨some 71,.one .und⟩,⟨some 72,.one .und⟩,⟨some 73,.one .und⟩,⟨some 74,.one .und⟩,⟨some 75,.one .und⟩,⟨some 76,ov (S rB true)⟩])
         (rs:=fun γ=>[⟨cvar gb7 (zq1 go9) ((),(qb3,(qg4,(qh5,(qd6,()))))),none,none,[]⟩,⟨cqm go9 (S rS) Zaa qm10 (some x8),none,none,[]⟩,⟨zq16 gb15 go17 x16 gc18 qc11 ql12 qj13 qe14,none,none,[5]⟩,⟨cown go17 Zab x16 0 gc18,none,none,[7,9]⟩,⟨cown go21 (rU UInt8) v19 0 gc22,none,none,[1]⟩])
         (afts:=nn 24) (js:=[0,0,0,0,0]) mixed (.cons rfl (.cons rfl (.cons rfl (.cons rfl (.cons rfl (.cons rfl .nil)))))) (fun _=>rfl)
         (by
      refine db 1 9<|dR 2 (fun γ ρ B hb hd=>Zag.lk ⟨ρ,(cown go21 (rU UInt8) v19 0 gc22)::B,_⟩ (ZeI (j:=0) lb tu31 tu5 tu9 rfl (tl hd 0 53)))<|db 3 1<|dS 4 (fun γ ρ B hb hd=>Zae lb (tl hd 2 55) (fun e v h=>by subst h; rfl))<|dS 5 (fun γ ρ B hb hd=>Zad (off:=0) lb Za6 (tl hd 3 56)) ?_
      refine dR 6 (fun γ ρ B hb hd=>Zag.lk ⟨ρ,(zq16 gb15 go17 x16 gc18 qc11 ql12 qj13 qe14)::B,_⟩ (Zal (j:=0) lb tS46 (tl hd 4 57) rfl (Comp.trans (Comp.self (zq10 go17 x16 gc18) ((),(qc11,(ql12,(qj13,(qe14,())))))) (Comp.at' (Comp.inF (Comp.self (rW (HDR go17 0 (List.length x16) gc18)) ()) (lE rfl)) (by rfl : _ = 0)) (lE rfl))))<|db 7 13<|dR 8 (fun γ ρ B hb hd=>Zag.lk ⟨ρ,(cown go17 Zab x16 0 gc18)::B,_⟩ (Zap (r:=Zab) (j:=0) lb tu46 tz84 rfl (tl hd 5 58) (tl hd 6 59) hv_i_38))<|dS 9 (fun γ ρ B hb hd=>ZaB (off:=1) lb Zdn (tl hd 7 60))<|dR 10 (fun γ ρ B hb hd=>Zag.lk ⟨ρ,(cown go17 Zab x16 0 gc18)::B,_⟩ (Zbf (r:=Zab) (i:=i38) (off:=1) (j:=0) lb tS31 rfl rfl (tl hd 8 61) hv_u_39 (Comp.at' (cT (Za5 u39) rfl) rfl) (by decide))) ?_
      refine dS 11 (fun γ ρ B hb hd=>Zdb lb tu31 tu5 tu9 (tl hd 9 62))<|dS 12 (fun γ ρ B hb hd=>ZcP lb (tl hd 1 54) (tl hd 10 63) (cs hv40))<|dm 13 11 64 ?_
      refine dF 14 12 65 v40 (fun γ=>ov (S (rI .i64) v23)) (fun γ ρ B hb hd hq16=>Zai lb (.tmp (hb 11 _ rfl))) ?_
      refine dF 15 12 65 v40 (fun γ=>ov (PTR gb15 0)) (fun γ ρ B hb hd hq17=>Zai lb (.tmp (hb 1 _ rfl))) ?_
      refine dF 16 12 65 v40 (fun γ=>ov (PTR gb15 0)) (fun γ ρ B hb hd hq18=>Zae lb (HasO.cnd (tl hd 14 67) (notT (notF hq18))) (fun e v h=>by subst h; rfl)) ?_
      refine dF 17 12 65 v40 (fun γ=>ov (PTR gb15 (0 + 0))) (fun γ ρ B hb hd hq19=>Zad (off:=0) lb Za6 (HasO.cnd (tl hd 15 68) (notT (notF hq19)))) ?_
      refine kn 18 12 65 rfl hc21<|kn 19 12 65 rfl hc21<|kn 20 12 65 rfl hc21<|kn 21 12 65 rfl hc21<|kn 22 12 65 rfl hc21 ?_
      refine kn 23 12 65 rfl hc21<|dS 24 (fun γ ρ B hb hd=>Zaw lb (tl hd 12 65) hc21 .cB) ?_
      exact Zat.nil)
         (by decide +kernel) (fun _=>rfl) (fun _=>rfl) (fun _=>rfl) rfl
         (ρ':=fun γ=>[(0,ov (PTR gb7 0)),(1,ov (PTR gb15 0)),(3,ov (S (rI .i64) a2)),(9,ov (HDR go21 0 (List.length v19) gc22)),(76,ov (S rB true))])
         (X':=fun γ=>[cvar gb7 (zq1 go9) ((),(qb3,(qg4,(qh5,(qd6,()))))),cqm go9 (S rS) Zaa qm10 (some x8),zq16 gb15 go17 x16 gc18 qc11 ql12 qj13 qe14,cown go17 Zab x16 0 gc18,cown go21 (rU UInt8) v19 0 gc22])
         (fun γ ρ hb hd=>(.cons (hb 0 _ rfl) (.cons (hb 1 _ rfl) (.cons (hb 3 _ rfl) (.cons (hb 9 _ rfl) (.cons (hdq hd 23 76 rfl) .nil)))))) (fun _=>rfl) (fun γ=>?_)
     refine JQ.at ⟨[(0,ov (PTR gb7 0)),(1,ov (PTR gb15 0)),(3,ov (S (rI .i64) a2)),(9,ov (HDR go21 0 (List.length v19) gc22)),(76,ov (S rB true))],[cvar gb7 (zq1 go9) ((),(qb3,(qg4,(qh5,(qd6,()))))),cqm go9 (S rS) Zaa qm10 (some x8),zq16 gb15 go17 x16 gc18 qc11 ql12 qj13 qe14,cown go17 Zab x16 0 gc18,cown go21 (rU UInt8) v19 0 gc22],[]⟩ ?_
     try obtain rfl:=so hx15
     exact JQ.join () (Imp.norm (js:=[0,0,0,0,0]) rfl (.cons rfl (.cons rfl (.cons rfl (.cons rfl (.cons rfl .nil))))))
   refine bI hx15 fun i41 hv_i_41 hx15=>bI hx15 fun u42 hv_u_42 hx15=>?_
   obtain ⟨v43,hv43,hx15⟩:=Za2 hx15
   refine JC.anyF (base:=[(0,ov (PTR gb7 0)),(1,ov (PTR gb15 0)),(3,ov (S (rI .i64) a2)),(9,ov (HDR go21 0 (List.length v19) gc22)),(11,ov (S (rI .i64) v23)),(13,ov (S (rI .i64) v25))])
       (fs:=fun γ=>[⟨some 53,ov (HDR go21 0 (List.length v19) gc22)⟩,⟨some 54,ov (S rS v19)⟩,⟨some 55,ov (PTR gb15 0)⟩,⟨some 56,ov (PTR gb15 0)⟩,⟨some 57,ov (PTR gb15 (0 + 0))⟩,⟨some 58,ov (HDR go17 0 (List.length x16) gc18)⟩,⟨some 59,ov (S (rI .i64) v25)⟩,⟨some 60,ov (EPT go17 (i38 * 3))⟩,⟨some 61,ov (EPT go17 ((i38 * 3) + 1))⟩,⟨some 62,ov (S (rL (rU UInt8)) u39.B)⟩,⟨some 63,ov (S rS u39.B)⟩,⟨some 64,ov (S rB v40)⟩,⟨some 65,ov (S rB v40)⟩,⟨some 66,bif (!v40) then ov (S (rI .i64) v23) else .one .und⟩,⟨some 67,bif (!v40) then ov (PTR gb15 0) else .one .und⟩,⟨some 68,bif (!v40) then ov (PTR gb15 0) else .one .und⟩,⟨some 69,bif (!v40) then ov (PTR gb15 (0 + 0)) else .one .und⟩,⟨some 70,ov (HDR go17 0 (List.length x16) gc18)⟩,⟨some 71,ov (S (rI .i64) v25)⟩,⟨some 72,ov (EPT go17 (i41 * 3))⟩,⟨some 73,ov (EPT go17 ((i41 * 3) + 2))⟩,⟨some 74,ov (S (rI .i64) u42.Lasts)⟩,⟨some 75,ov (S rB v43)⟩,⟨some 76,ov (S rB v43)⟩])
       (rs:=fun γ=>[⟨cvar gb7 (zq1 go9) ((),(qb3,(qg4,(qh5,(qd6,()))))),none,none,[]⟩,⟨cqm go9 (S rS) Zaa qm10 (some x8),none,none,[]⟩,⟨zq16 gb15 go17 x16 gc18 qc11 ql12 qj13 qe14,none,none,[5,17]⟩,⟨cown go17 Zab x16 0 gc18,none,none,[7,9,19,21]⟩,⟨cown go21 (rU UInt8) v19 0 gc22,none,none,[1]⟩])
       (afts:=nn 24) (js:=[0,0,0,0,0]) mixed (.cons rfl (.cons rfl (.cons rfl (.cons rfl (.cons rfl (.cons rfl .nil)))))) (fun _=>rfl)
       (by
      refine db 1 9<|dR 2 (fun γ ρ B hb hd=>Zag.lk ⟨ρ,(cown go21 (rU UInt8) v19 0 gc22)::B,_⟩ (ZeI (j:=0) lb tu31 tu5 tu9 rfl (tl hd 0 53)))<|db 3 1<|dS 4 (fun γ ρ B hb hd=>Zae lb (tl hd 2 55) (fun e v h=>by subst h; rfl))<|dS 5 (fun γ ρ B hb hd=>Zad (off:=0) lb Za6 (tl hd 3 56)) ?_
      refine dR 6 (fun γ ρ B hb hd=>Zag.lk ⟨ρ,(zq16 gb15 go17 x16 gc18 qc11 ql12 qj13 qe14)::B,_⟩ (Zal (j:=0) lb tS46 (tl hd 4 57) rfl (Comp.trans (Comp.self (zq10 go17 x16 gc18) ((),(qc11,(ql12,(qj13,(qe14,())))))) (Comp.at' (Comp.inF (Comp.self (rW (HDR go17 0 (List.length x16) gc18)) ()) (lE rfl)) (by rfl : _ = 0)) (lE rfl))))<|db 7 13<|dR 8 (fun γ ρ B hb hd=>Zag.lk ⟨ρ,(cown go17 Zab x16 0 gc18)::B,_⟩ (Zap (r:=Zab) (j:=0) lb tu46 tz84 rfl (tl hd 5 58) (tl hd 6 59) hv_i_38))<|dS 9 (fun γ ρ B hb hd=>ZaB (off:=1) lb Zdn (tl hd 7 60))<|dR 10 (fun γ ρ B hb hd=>Zag.lk ⟨ρ,(cown go17 Zab x16 0 gc18)::B,_⟩ (Zbf (r:=Zab) (i:=i38) (off:=1) (j:=0) lb tS31 rfl rfl (tl hd 8 61) hv_u_39 (Comp.at' (cT (Za5 u39) rfl) rfl) (by decide))) ?_
      refine dS 11 (fun γ ρ B hb hd=>Zdb lb tu31 tu5 tu9 (tl hd 9 62))<|dS 12 (fun γ ρ B hb hd=>ZcP lb (tl hd 1 54) (tl hd 10 63) (cs hv40))<|dm 13 11 64 ?_
      refine dF 14 12 65 v40 (fun γ=>ov (S (rI .i64) v23)) (fun γ ρ B hb hd hq16=>Zai lb (.tmp (hb 11 _ rfl))) ?_
      refine dF 15 12 65 v40 (fun γ=>ov (PTR gb15 0)) (fun γ ρ B hb hd hq17=>Zai lb (.tmp (hb 1 _ rfl))) ?_
      refine dF 16 12 65 v40 (fun γ=>ov (PTR gb15 0)) (fun γ ρ B hb hd hq18=>Zae lb (HasO.cnd (tl hd 14 67) (notT (notF hq18))) (fun e v h=>by subst h; rfl)) ?_
      refine dF 17 12 65 v40 (fun γ=>ov (PTR gb15 (0 + 0))) (fun γ ρ B hb hd hq19=>Zad (off:=0) lb Za6 (HasO.cnd (tl hd 15 68) (notT (notF hq19)))) ?_
      refine dY 18 (fun γ ρ B hb hd=>⟨.yes rfl (ltB rfl) (hl hd 12 65 rfl) hc21,Zag.lk ⟨ρ,(zq16 gb15 go17 x16 gc18 qc11 ql12 qj13 qe14)::B,_⟩ (Zal (j:=0) lb tS46 (HasO.cnd (tl hd 16 69) (notT hc21)) rfl (Comp.trans (Comp.self (zq10 go17 x16 gc18) ((),(qc11,(ql12,(qj13,(qe14,())))))) (Comp.at' (Comp.inF (Comp.self (rW (HDR go17 0 (List.length x16) gc18)) ()) (lE rfl)) (by rfl : _ = 0)) (lE rfl)))⟩)<|dY 19 (fun γ ρ B hb hd=>⟨.yes rfl (ltB rfl) (hl hd 12 65 rfl) hc21,lkB (Zai lb (.tmp (hb 13 _ rfl)))⟩)<|dY 20 (fun γ ρ B hb hd=>⟨.yes rfl (ltB rfl) (hl hd 12 65 rfl) hc21,Zag.lk ⟨ρ,(cown go17 Zab x16 0 gc18)::B,_⟩ (Zap (r:=Zab) (j:=0) lb tu46 tz84 rfl (tl hd 17 70) (tl hd 18 71) hv_i_41)⟩)<|dY 21 (fun γ ρ B hb hd=>⟨.yes rfl (ltB rfl) (hl hd 12 65 rfl) hc21,lkB (ZaB (off:=2) lb ZeQ (tl hd 19 72))⟩)<|dY 22 (fun γ ρ B hb hd=>⟨.yes rfl (ltB rfl) (hl hd 12 65 rfl) hc21,Zag.lk ⟨ρ,(cown go17 Zab x16 0 gc18)::B,_⟩ (Zbf (r:=Zab) (i:=i41) (off:=2) (j:=0) lb tS3 rfl rfl (tl hd 20 73) hv_u_42 (Comp.at' (cT (ZbD u42) rfl) rfl) (by decide))⟩) ?_
      refine dY 23 (fun γ ρ B hb hd=>⟨.yes rfl (ltB rfl) (hl hd 12 65 rfl) hc21,lkB (Zan lb (HasO.cnd (tl hd 13 66) (notT hc21)) (tl hd 21 74) (cs hv43))⟩)<|dS 24 (fun γ ρ B hb hd=>Zar lb (tl hd 12 65) hc21 (tl hd 22 75)) ?_
      exact Zat.nil)
       (by decide +kernel) (fun _=>rfl) (fun _=>rfl) (fun _=>rfl) rfl
       (ρ':=fun γ=>[(0,ov (PTR gb7 0)),(1,ov (PTR gb15 0)),(3,ov (S (rI .i64) a2)),(9,ov (HDR go21 0 (List.length v19) gc22)),(76,ov (S rB v43))])
       (X':=fun γ=>[cvar gb7 (zq1 go9) ((),(qb3,(qg4,(qh5,(qd6,()))))),cqm go9 (S rS) Zaa qm10 (some x8),zq16 gb15 go17 x16 gc18 qc11 ql12 qj13 qe14,cown go17 Zab x16 0 gc18,cown go21 (rU UInt8) v19 0 gc22])
       (fun γ ρ hb hd=>(.cons (hb 0 _ rfl) (.cons (hb 1 _ rfl) (.cons (hb 3 _ rfl) (.cons (hb 9 _ rfl) (.cons (hdq hd 23 76 rfl) .nil)))))) (fun _=>rfl) (fun γ=>?_)
   refine JQ.at ⟨[(0,ov (PTR gb7 0)),(1,ov (PTR gb15 0)),(3,ov (S (rI .i64) a2)),(9,ov (HDR go21 0 (List.length v19) gc22)),(76,ov (S rB v43))],[cvar gb7 (zq1 go9) ((),(qb3,(qg4,(qh5,(qd6,()))))),cqm go9 (S rS) Zaa qm10 (some x8),zq16 gb15 go17 x16 gc18 qc11 ql12 qj13 qe14,cown go17 Zab x16 0 gc18,cown go21 (rU UInt8) v19 0 gc22],[]⟩ ?_
   try obtain rfl:=so hx15
   exact JQ.join () (Imp.norm (js:=[0,0,0,0,0]) rfl (.cons rfl (.cons rfl (.cons rfl (.cons rfl (.cons rfl .nil))))))
 refine JC.region<|jmv rfl rfl<|bI hx1 fun _ hv_u_27 hx1=>jx (Zak (js:=[]) ld cl10 (ZaW k v20 () hv_u_27) .func (.cons tR .nil) rfl) fun _=>jmv rfl rfl<|lI hx1 fun v28 hv28 hx1=>jc (Zan lb tR tR (cs hv28))<|jmv rfl rfl<|jF (ov (S (rI .i64) v24)) rfl rfl rfl rfl (fun hq2=>Zai lb tR)<|bI hx1 fun _ hv_u_29 hx1=>jF (ov (S (rI .i64) v24)) rfl rfl rfl rfl (fun hq3=>(Zak (js:=[]) ld cl10 (ZaW k v24 () (ifT hv_u_29 hq3)) .func (.cons (HasO.cnd tR (notT (notF hq3))) .nil) rfl).post (fun _=>Imp.refl)) ?_
 refine JL.sub ⟨[(0,ov (PTR gb7 0)),(1,ov (PTR gb15 0)),(3,ov (S (rI .i64) a2)),(9,ov (HDR go21 0 (List.length v19) gc22)),(11,ov (S (rI .i64) v23)),(13,ov (S (rI .i64) v25)),(14,ov (S (rI .i64) v26)),(38,ov (S rB v28)),(40,bif (!v28) then ov (S (rI .i64) v24) else .one .und)],[zq16 gb15 go17 x16 gc18 qc11 ql12 qj13 qe14,cown go17 Zab x16 0 gc18,cvar gb7 (zq1 go9) ((),(qb3,(qg4,(qh5,(qd6,()))))),cqm go9 (S rS) Zaa qm10 (some x8),cown go21 (rU UInt8) v19 0 gc22],[]⟩ (.cons rfl (.cons rfl (.cons rfl (.cons rfl (.cons rfl (.cons rfl (.cons rfl (.cons rfl (.cons rfl .nil))))))))) rfl rfl<|jF (ov (S (rI .i64) v26)) rfl rfl rfl rfl (fun hq4=>Zai lb tR)<|lI hx1 fun v30 hv30 hx1=>jF (ov (S rB v30)) rfl rfl rfl rfl (fun hq5=>Zan lb (HasO.cnd tR (notT (notF hq5))) (HasO.cnd tR (notT (notF hq5))) (cs hv30))<|lI hx1 fun v31 hv31 hx1=>jc (Za8 lb tR (fun hb6=>.cB) (fun hb6=>(HasO.cnd tR (notT hb6))) hv31)<|JL.nil ?_
 try obtain rfl:=so hx1
 exact JQ.join () (Imp.norm (js:=[2,2,0,0,0]) rfl (.cons rfl (.cons rfl (.cons rfl (.cons rfl (.cons rfl (.cons rfl (.cons rfl (.cons rfl .nil)))))))))

end Go.Proofs.Ytipchpbcjkhnaaa
