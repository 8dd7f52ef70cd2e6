/- Walks. -/
import Derived.Test.YtipchpbcjkhnaaaT
import Derived.Test.YtipchpbcjkhnaaaW0
import Derived.Test.YtipchpbcjkhnaaaW2
import Derived.Test.YtipchpbcjkhnaaaW9
namespace Go.Proofs.Ytipchpbcjkhnaaa
open Go Fw
set_option linter.unusedVariables false
set_option maxRecDepth 100000
set_option maxHeartbeats 4000000

theorem Zb5 (k : Nat) (qb1 : Int) (fuse2 : Int) (qh3 : Bool) (qd4 : Int) (x6 : (List ((List UInt8) × Zaf))) (qb9 : Int) (qg10 : Int) (qh11 : Bool) (qd12 : Int) (x14 : (List ((List UInt8) × Zaf))) (gb5 : Nat) (go7 : Option Nat) (qm8 : ((List UInt8) → Nat)) (gb13 : Nat) (go15 : Option Nat) (qm16 : ((List UInt8) → Nat)) (r : Bool) (hm : disk_Disk_Same_pp_smvvvvmsmvvvvm k qb1 fuse2 qh3 qd4 x6 qb9 qg10 qh11 qd12 x14 = some r) : Sim Try.prog 21 [PTR gb5 0,PTR gb13 0] [cvar gb5 (zq1 go7) ((),(qb1,(fuse2,(qh3,(qd4,()))))),cqm go7 (S rS) Zaa qm8 (some x6),zq22 gb13 go15 qb9 qg10 qh11 qd12,cqm go15 (S rS) Zaa qm16 (some x14)] (γ:=Unit) (fun q=>[cvar gb5 (zq1 go7) ((),(qb1,(fuse2,(qh3,(qd4,()))))),cqm go7 (S rS) Zaa qm8 (some x6),zq22 gb13 go15 qb9 qg10 qh11 qd12,cqm go15 (S rS) Zaa qm16 (some x14)]) (fun q=>.one (.val (S rB r))):=by
 unfold disk_Disk_Same_pp_smvvvvmsmvvvvm at hm
 refine Sim.of Try.func21 rfl rfl (lE rfl) (fun e0 w0=>?_)
 refine JC.at ⟨[(0,ov (PTR gb5 0)),(1,ov (PTR gb13 0))],[cvar gb5 (zq1 go7) ((),(qb1,(fuse2,(qh3,(qd4,()))))),cqm go7 (S rS) Zaa qm8 (some x6),zq22 gb13 go15 qb9 qg10 qh11 qd12,cqm go15 (S rS) Zaa qm16 (some x14)],[]⟩<|jr<|jx (Zd6 lb tR) fun gb17=>jx (Zd6 lb tR) fun gb18=>jx (Zcd lb tZ4 zr4) fun gb19=>jn<|JC.seq<|bI hm fun _ hx1 hq1=>JC.seqJ (γ:=Unit) (stj:=fun _=>⟨[(2,ov (PTR gb17 0)),(3,ov (PTR gb18 0)),(4,ov (PTR gb19 0)),(15,ov (S rB false))],[cvar gb17 (rW (PTR gb5 0)) (),cvar gb5 (zq1 go7) ((),(qb1,(fuse2,(qh3,(qd4,()))))),cqm go7 (S rS) Zaa qm8 (some x6),cvar gb18 (rW (PTR gb13 0)) (),zq22 gb13 go15 qb9 qg10 qh11 qd12,cqm go15 (S rS) Zaa qm16 (some x14),cvar gb19 rB false],[]⟩) (fun _=>?_) ?_
 · refine JC.condF tR rfl<|JC.skip<|JQ.then<|bI hq1 fun tv2 hx2 hq2=>JC.seqK (α:=Unit) (γ:=List Nat) (stj:=fun v q=>⟨[(2,ov (PTR gb17 0)),(3,ov (PTR gb18 0)),(4,ov (PTR gb19 0))],[cvar gb17 (rW (PTR gb5 0)) (),cvar gb5 (zq1 go7) ((),(qb1,(fuse2,(qh3,(qd4,()))))),cqm go7 (S rS) Zaa qm8 (some x6),cvar gb18 (rW (PTR gb13 0)) (),zq22 gb13 go15 qb9 qg10 qh11 qd12,cqm go15 (S rS) Zaa qm16 (some x14),cvar gb19 rB false,Zcq q],q⟩) (p:=fun v=>tv2 = (.inl v)) (fun v q hv=>?_) ?_
   · subst hv
     skip
     obtain ⟨gK48,hqq⟩ : ∃ z,z = q:=⟨_,rfl⟩
     subst hqq
     dsimp only at hq2
     refine JC.at ⟨[(2,ov (PTR gb17 0)),(3,ov (PTR gb18 0)),(4,ov (PTR gb19 0))],[cvar gb17 (rW (PTR gb5 0)) (),cvar gb5 (zq1 go7) ((),(qb1,(fuse2,(qh3,(qd4,()))))),cqm go7 (S rS) Zaa qm8 (some x6),cvar gb18 (rW (PTR gb13 0)) (),zq22 gb13 go15 qb9 qg10 qh11 qd12,cqm go15 (S rS) Zaa qm16 (some x14),cvar gb19 rB false,Zcq gK48],gK48⟩<|bI hq2 fun x51 hx10 hq10=>JC.seqJ (γ:=Unit) (stj:=fun _=>⟨[(4,ov (PTR gb19 0))],[cvar gb19 rB x51,cvar gb5 (zq1 go7) ((),(qb1,(fuse2,(qh3,(qd4,()))))),cqm go7 (S rS) Zaa qm8 (some x6),zq22 gb13 go15 qb9 qg10 qh11 qd12,cqm go15 (S rS) Zaa qm16 (some x14),Zcq gK48],gK48⟩) (fun _=>?_) ?_
     · refine JC.ret ?_
       obtain rfl:=so hq10
       exact JQ.doneL (j:=5) (js:=[1,1,1,1]) (ss:=[.val (S rB x51)]) () (.inl rfl) rfl rfl (.cons (.cellS (j:=0) tS4 rfl rfl rfl) .nil) rfl rfl rfl
     obtain ⟨v49,hv49,hx10⟩:=Za2 hx10
     rcases Zbc hx10 with ⟨hc15,hx10⟩ | ⟨hc15,hx10⟩
     · obtain ⟨v50,hv50,hx10⟩:=Za2 hx10
       refine JC.anyF (base:=[(2,ov (PTR gb17 0)),(3,ov (PTR gb18 0)),(4,ov (PTR gb19 0))])
           (fs:=fun γ=>[⟨some 62,ov (PTR gb5 0)⟩,⟨some 63,ov (PTR gb5 0)⟩,⟨some 64,ov (PTR gb5 (0 + 1))⟩,⟨some 65,ov (S (rI .i64) qb1)⟩,⟨some 66,ov (PTR gb13 0)⟩,⟨some 67,ov (PTR gb13 0)⟩,⟨some 68,ov (PTR gb13 (0 + 1))⟩,⟨some 69,ov (S (rI .i64) qb9)⟩,⟨some 70,ov (S rB v49)⟩,⟨some 71,ov (S rB v49)⟩,⟨some 72,bif v49 then ov (PTR gb5 0) else .one .und⟩,⟨some 73,bif v49 then ov (PTR gb5 0) else .one .und⟩,⟨some 74,bif v49 then ov (PTR gb5 (0 + 0)) else .one .und⟩,⟨some 75,ov (MPV go7)⟩,⟨some 76,ov (S (rI .i64) (List.length (Option.getD (some x6) []) : Int))⟩,⟨some 77,ov (PTR gb13 0)⟩,⟨some 78,ov (PTR gb13 0)⟩,⟨some 79,ov (PTR gb13 (0 + 0))⟩,⟨some 80,ov (MPV go15)⟩,⟨some 81,ov (S (rI .i64) (List.length (Option.getD (some x14) []) : Int))⟩,⟨some 82,ov (S rB v50)⟩,⟨some 83,ov (S rB v50)⟩,⟨none,.one .any⟩])
           (rs:=fun γ=>[⟨cvar gb17 (rW (PTR gb5 0)) (),none,none,[0,10]⟩,⟨cvar gb5 (zq1 go7) ((),(qb1,(fuse2,(qh3,(qd4,()))))),none,none,[3,13]⟩,⟨cqm go7 (S rS) Zaa qm8 (some x6),none,none,[14]⟩,⟨cvar gb18 (rW (PTR gb13 0)) (),none,none,[4,15]⟩,⟨zq22 gb13 go15 qb9 qg10 qh11 qd12,none,none,[7,18]⟩,⟨cqm go15 (S rS) Zaa qm16 (some x14),none,none,[19]⟩,⟨cvar gb19 rB false,none,(some 22),[]⟩,⟨Zcq gK48,none,none,[]⟩,⟨cvar gb19 rB v50,(some 22),none,[]⟩])
           (afts:=nn 23) (js:=[0,0,0,0,0,0,0,0]) mixed (.cons rfl (.cons rfl (.cons rfl .nil))) (fun _=>rfl)
           (by
      refine dR 1 (fun γ ρ B hb hd=>Zag.lk ⟨ρ,(cvar gb17 (rW (PTR gb5 0)) ())::B,_⟩ (Zal (j:=0) lb tS25 (.tmp (hb 2 _ rfl)) rfl (Comp.self (rW (PTR gb5 0)) ())))<|dS 2 (fun γ ρ B hb hd=>Zae lb (tl hd 0 62) (fun e v h=>by subst h; rfl))<|dS 3 (fun γ ρ B hb hd=>Zad (off:=1) lb Zhe (tl hd 1 63))<|dR 4 (fun γ ρ B hb hd=>Zag.lk ⟨ρ,(cvar gb5 (zq1 go7) ((),(qb1,(fuse2,(qh3,(qd4,()))))))::B,_⟩ (Zam (j:=0) lb tS3 (tl hd 2 64) rfl (Comp.trans (Comp.self (zq1 go7) ((),(qb1,(fuse2,(qh3,(qd4,())))))) (Comp.at' (Comp.inS (Comp.inF (Comp.self (rI .i64) qb1) (lE rfl))) (by rfl : _ = 1)) (lE rfl)) rfl rfl))<|dR 5 (fun γ ρ B hb hd=>Zag.lk ⟨ρ,(cvar gb18 (rW (PTR gb13 0)) ())::B,_⟩ (Zal (j:=0) lb tS25 (.tmp (hb 3 _ rfl)) rfl (Comp.self (rW (PTR gb13 0)) ()))) ?_
      refine dS 6 (fun γ ρ B hb hd=>Zae lb (tl hd 4 66) (fun e v h=>by subst h; rfl))<|dS 7 (fun γ ρ B hb hd=>Zad (off:=1) lb Zhe (tl hd 5 67))<|dR 8 (fun γ ρ B hb hd=>Zag.lk ⟨ρ,(zq22 gb13 go15 qb9 qg10 qh11 qd12)::B,_⟩ (Zam (j:=0) lb tS3 (tl hd 6 68) rfl (Comp.trans (Comp.self (zq1 go15) ((),(qb9,(qg10,(qh11,(qd12,())))))) (Comp.at' (Comp.inS (Comp.inF (Comp.self (rI .i64) qb9) (lE rfl))) (by rfl : _ = 1)) (lE rfl)) rfl rfl))<|dS 9 (fun γ ρ B hb hd=>Zan lb (tl hd 3 65) (tl hd 7 69) (cs hv49))<|dm 10 8 70 ?_
      refine eT 11 9 71 v49 (fun γ=>ov (PTR gb5 0)) (fun γ ρ B hb hd hq11=>Zag.lk ⟨ρ,(cvar gb17 (rW (PTR gb5 0)) ())::B,_⟩ (Zal (j:=0) lb tS25 (.tmp (hb 2 _ rfl)) rfl (Comp.self (rW (PTR gb5 0)) ()))) ?_
      refine dT 12 9 71 v49 (fun γ=>ov (PTR gb5 0)) (fun γ ρ B hb hd hq12=>Zae lb (HasO.cnd (tl hd 10 72) hq12) (fun e v h=>by subst h; rfl)) ?_
      refine dT 13 9 71 v49 (fun γ=>ov (PTR gb5 (0 + 0))) (fun γ ρ B hb hd hq13=>Zad (off:=0) lb Zct (HasO.cnd (tl hd 11 73) hq13)) ?_
      refine dY 14 (fun γ ρ B hb hd=>⟨.yes rfl (ltB rfl) (hl hd 9 71 rfl) hc15,Zag.lk ⟨ρ,(cvar gb5 (zq1 go7) ((),(qb1,(fuse2,(qh3,(qd4,()))))))::B,_⟩ (Zal (j:=0) lb tS62 (HasO.cnd (tl hd 12 74) hc15) rfl (Comp.trans (Comp.self (zq1 go7) ((),(qb1,(fuse2,(qh3,(qd4,())))))) (Comp.at' (Comp.inF (Comp.self (rW (MPV go7)) ()) (lE rfl)) (by rfl : _ = 0)) (lE rfl)))⟩)<|dY 15 (fun γ ρ B hb hd=>⟨.yes rfl (ltB rfl) (hl hd 9 71 rfl) hc15,Zag.lk ⟨ρ,(cqm go7 (S rS) Zaa qm8 (some x6))::B,_⟩ (Zfz (j:=0) lb tu62 rfl (tl hd 13 75))⟩)<|dY 16 (fun γ ρ B hb hd=>⟨.yes rfl (ltB rfl) (hl hd 9 71 rfl) hc15,Zag.lk ⟨ρ,(cvar gb18 (rW (PTR gb13 0)) ())::B,_⟩ (Zal (j:=0) lb tS25 (.tmp (hb 3 _ rfl)) rfl (Comp.self (rW (PTR gb13 0)) ()))⟩)<|dY 17 (fun γ ρ B hb hd=>⟨.yes rfl (ltB rfl) (hl hd 9 71 rfl) hc15,lkB (Zae lb (tl hd 15 77) (fun e v h=>by subst h; rfl))⟩)<|dY 18 (fun γ ρ B hb hd=>⟨.yes rfl (ltB rfl) (hl hd 9 71 rfl) hc15,lkB (Zad (off:=0) lb Zct (tl hd 16 78))⟩) ?_
      refine dY 19 (fun γ ρ B hb hd=>⟨.yes rfl (ltB rfl) (hl hd 9 71 rfl) hc15,Zag.lk ⟨ρ,(zq22 gb13 go15 qb9 qg10 qh11 qd12)::B,_⟩ (Zal (j:=0) lb tS62 (tl hd 17 79) rfl (Comp.trans (Comp.self (zq1 go15) ((),(qb9,(qg10,(qh11,(qd12,())))))) (Comp.at' (Comp.inF (Comp.self (rW (MPV go15)) ()) (lE rfl)) (by rfl : _ = 0)) (lE rfl)))⟩)<|dY 20 (fun γ ρ B hb hd=>⟨.yes rfl (ltB rfl) (hl hd 9 71 rfl) hc15,Zag.lk ⟨ρ,(cqm go15 (S rS) Zaa qm16 (some x14))::B,_⟩ (Zfz (j:=0) lb tu62 rfl (tl hd 18 80))⟩)<|dY 21 (fun γ ρ B hb hd=>⟨.yes rfl (ltB rfl) (hl hd 9 71 rfl) hc15,lkB (Zan lb (tl hd 14 76) (tl hd 19 81) (cs hv50))⟩)<|dS 22 (fun γ ρ B hb hd=>Zaw lb (tl hd 9 71) hc15 (tl hd 20 82))<|dR 23 (fun γ ρ B hb hd=>Zag.at ⟨ρ,(cvar gb19 rB false)::B,_⟩ (setO ⟨ρ,(cvar gb19 rB v50)::B,_⟩ _ _) (ZaL (j:=0) tS4 (.tmp (hb 4 _ rfl)) (tl hd 21 83) rfl rfl (UpdR.self (by rfl)) rfl)) ?_
      exact Zat.nil)
           (by decide +kernel) (fun _=>rfl) (fun _=>rfl) (fun _=>rfl) rfl
           (ρ':=fun γ=>[(4,ov (PTR gb19 0))])
           (X':=fun γ=>[cvar gb17 (rW (PTR gb5 0)) (),cvar gb5 (zq1 go7) ((),(qb1,(fuse2,(qh3,(qd4,()))))),cqm go7 (S rS) Zaa qm8 (some x6),cvar gb18 (rW (PTR gb13 0)) (),zq22 gb13 go15 qb9 qg10 qh11 qd12,cqm go15 (S rS) Zaa qm16 (some x14),Zcq gK48,cvar gb19 rB v50])
           (fun γ ρ hb hd=>(.cons (hb 4 _ rfl) .nil)) (fun _=>rfl) (fun γ=>?_)
       refine JQ.at ⟨[(4,ov (PTR gb19 0))],[cvar gb17 (rW (PTR gb5 0)) (),cvar gb5 (zq1 go7) ((),(qb1,(fuse2,(qh3,(qd4,()))))),cqm go7 (S rS) Zaa qm8 (some x6),cvar gb18 (rW (PTR gb13 0)) (),zq22 gb13 go15 qb9 qg10 qh11 qd12,cqm go15 (S rS) Zaa qm16 (some x14),Zcq gK48,cvar gb19 rB v50],gK48⟩ ?_
       try obtain rfl:=so hx10
       exact JQ.join () (Imp.norm (js:=[7,1,1,2,2,2]) rfl (.cons rfl .nil))
     refine JC.anyF (base:=[(2,ov (PTR gb17 0)),(3,ov (PTR gb18 0)),(4,ov (PTR gb19 0))])
         (fs:=fun γ=>[⟨some 62,ov (PTR gb5 0)⟩,⟨some 63,ov (PTR gb5 0)⟩,⟨some 64,ov (PTR gb5 (0 + 1))⟩,⟨some 65,ov (S (rI .i64) qb1)⟩,⟨some 66,ov (PTR gb13 0)⟩,⟨some 67,ov (PTR gb13 0)⟩,⟨some 68,ov (PTR gb13 (0 + 1))⟩,⟨some 69,ov (S (rI .i64) qb9)⟩,⟨some 70,ov (S rB v49)⟩,⟨some 71,ov (S rB v49)⟩,⟨some 72,bif v49 then ov (PTR gb5 0) else .one .und⟩,⟨some 73,bif v49 then ov (PTR gb5 0) else .one .und⟩,⟨some 74,bif v49 then ov (PTR gb5 (0 + 0)) else .one .und⟩,⟨some 75,.one .und⟩,⟨some 76,.one .und⟩,⟨some 77,.one .und⟩,⟨some 78,.one .und⟩,⟨some 79,.one .und⟩,⟨some 80,.one .und⟩,⟨some 81,.one .und⟩,⟨some 82,.one .und⟩,⟨some 83,ov (S rB false)⟩,⟨none,.one .any⟩])
         (rs:=fun γ=>[⟨cvar gb17 (rW (PTR gb5 0)) (),none,none,[0,10]⟩,⟨cvar gb5 (zq1 go7) ((),(qb1,(fuse2,(qh3,(qd4,()))))),none,none,[3]⟩,⟨cqm go7 (S rS) Zaa qm8 (some x6),none,none,[]⟩,⟨cvar gb18 (rW (PTR gb13 0)) (),none,none,[4]⟩,⟨zq22 gb13 go15 qb9 qg10 qh11 qd12,none,none,[7]⟩,⟨cqm go15 (S rS) Zaa qm16 (some x14),none,none,[]⟩,⟨cvar gb19 rB false,none,none,[22]⟩,⟨Zcq gK48,none,none,[]⟩])
         (afts:=nn 23) (js:=[0,0,0,0,0,0,0,0]) mixed (.cons rfl (.cons rfl (.cons rfl .nil))) (fun _=>rfl)
         (by
      refine dR 1 (fun γ ρ B hb hd=>Zag.lk ⟨ρ,(cvar gb17 (rW (PTR gb5 0)) ())::B,_⟩ (Zal (j:=0) lb tS25 (.tmp (hb 2 _ rfl)) rfl (Comp.self (rW (PTR gb5 0)) ())))<|dS 2 (fun γ ρ B hb hd=>Zae lb (tl hd 0 62) (fun e v h=>by subst h; rfl))<|dS 3 (fun γ ρ B hb hd=>Zad (off:=1) lb Zhe (tl hd 1 63))<|dR 4 (fun γ ρ B hb hd=>Zag.lk ⟨ρ,(cvar gb5 (zq1 go7) ((),(qb1,(fuse2,(qh3,(qd4,()))))))::B,_⟩ (Zam (j:=0) lb tS3 (tl hd 2 64) rfl (Comp.trans (Comp.self (zq1 go7) ((),(qb1,(fuse2,(qh3,(qd4,())))))) (Comp.at' (Comp.inS (Comp.inF (Comp.self (rI .i64) qb1) (lE rfl))) (by rfl : _ = 1)) (lE rfl)) rfl rfl))<|dR 5 (fun γ ρ B hb hd=>Zag.lk ⟨ρ,(cvar gb18 (rW (PTR gb13 0)) ())::B,_⟩ (Zal (j:=0) lb tS25 (.tmp (hb 3 _ rfl)) rfl (Comp.self (rW (PTR gb13 0)) ()))) ?_
      refine dS 6 (fun γ ρ B hb hd=>Zae lb (tl hd 4 66) (fun e v h=>by subst h; rfl))<|dS 7 (fun γ ρ B hb hd=>Zad (off:=1) lb Zhe (tl hd 5 67))<|dR 8 (fun γ ρ B hb hd=>Zag.lk ⟨ρ,(zq22 gb13 go15 qb9 qg10 qh11 qd12)::B,_⟩ (Zam (j:=0) lb tS3 (tl hd 6 68) rfl (Comp.trans (Comp.self (zq1 go15) ((),(qb9,(qg10,(qh11,(qd12,())))))) (Comp.at' (Comp.inS (Comp.inF (Comp.self (rI .i64) qb9) (lE rfl))) (by rfl : _ = 1)) (lE rfl)) rfl rfl))<|dS 9 (fun γ ρ B hb hd=>Zan lb (tl hd 3 65) (tl hd 7 69) (cs hv49))<|dm 10 8 70 ?_
      refine eT 11 9 71 v49 (fun γ=>ov (PTR gb5 0)) (fun γ ρ B hb hd hq11=>Zag.lk ⟨ρ,(cvar gb17 (rW (PTR gb5 0)) ())::B,_⟩ (Zal (j:=0) lb tS25 (.tmp (hb 2 _ rfl)) rfl (Comp.self (rW (PTR gb5 0)) ()))) ?_
      refine dT 12 9 71 v49 (fun γ=>ov (PTR gb5 0)) (fun γ ρ B hb hd hq12=>Zae lb (HasO.cnd (tl hd 10 72) hq12) (fun e v h=>by subst h; rfl)) ?_
      refine dT 13 9 71 v49 (fun γ=>ov (PTR gb5 (0 + 0))) (fun γ ρ B hb hd hq13=>Zad (off:=0) lb Zct (HasO.cnd (tl hd 11 73) hq13)) ?_
      refine kn 14 9 71 rfl hc15<|kn 15 9 71 rfl hc15<|kn 16 9 71 rfl hc15<|kn 17 9 71 rfl hc15<|kn 18 9 71 rfl hc15 ?_
      refine kn 19 9 71 rfl hc15<|kn 20 9 71 rfl hc15<|kn 21 9 71 rfl hc15<|dS 22 (fun γ ρ B hb hd=>Zar lb (tl hd 9 71) hc15 .cB)<|dR 23 (fun γ ρ B hb hd=>Zag.lk ⟨ρ,(cvar gb19 rB false)::B,_⟩ (ZaL (j:=0) tS4 (.tmp (hb 4 _ rfl)) (tl hd 21 83) rfl rfl (UpdR.self (by rfl)) rfl)) ?_
      exact Zat.nil)
         (by decide +kernel) (fun _=>rfl) (fun _=>rfl) (fun _=>rfl) rfl
         (ρ':=fun γ=>[(4,ov (PTR gb19 0))])
         (X':=fun γ=>[cvar gb17 (rW (PTR gb5 0)) (),cvar gb5 (zq1 go7) ((),(qb1,(fuse2,(qh3,(qd4,()))))),cqm go7 (S rS) Zaa qm8 (some x6),cvar gb18 (rW (PTR gb13 0)) (),zq22 gb13 go15 qb9 qg10 qh11 qd12,cqm go15 (S rS) Zaa qm16 (some x14),cvar gb19 rB false,Zcq gK48])
         (fun γ ρ hb hd=>(.cons (hb 4 _ rfl) .nil)) (fun _=>rfl) (fun γ=>?_)
     refine JQ.at ⟨[(4,ov (PTR gb19 0))],[cvar gb17 (rW (PTR gb5 0)) (),cvar gb5 (zq1 go7) ((),(qb1,(fuse2,(qh3,(qd4,()))))),cqm go7 (S rS) Zaa qm8 (some x6),cvar gb18 (rW (PTR gb13 0)) (),zq22 gb13 go15 qb9 qg10 qh11 qd12,cqm go15 (S rS) Zaa qm16 (some x14),cvar gb19 rB false,Zcq gK48],gK48⟩ ?_
     try obtain rfl:=so hx10
     exact JQ.join () (Imp.norm (js:=[6,1,1,2,2,2]) rfl (.cons rfl .nil))
   refine jr<|jc (Zal (j:=0) lb tS25 tR rfl (Comp.self (rW (PTR gb5 0)) ())) ?_
   obtain ⟨⟨v22,x23⟩,hv22,hx2⟩:=Zas hx2
   refine jx (Zak (js:=[1,1]) ld cl15 (ZbJ k qb1 fuse2 qh3 qd4 x6 gb5 go7 qm8 (v22,x23) hv22) .func (.cons tR .nil) rfl) (fun q=>?_)
   obtain ⟨gb24,go25,gc26,gb27,go28,gc29⟩:=q
   refine jn<|JC.block<|bI hx2 fun tv3 hL3 hq3=>JC.pre (st':=⟨[(2,ov (PTR gb17 0)),(3,ov (PTR gb18 0)),(4,ov (PTR gb19 0)),(22,ov (CLO 40 [PTR gb24 0,PTR gb27 0]))],[cvar gb24 (rW (HDR go25 0 (List.length v22) gc26)) (),cown go25 rS v22 0 gc26,cvar gb27 (rW (HDR go28 0 (List.length x23) gc29)) (),cown go28 (rI .i64) x23 0 gc29,cvar gb17 (rW (PTR gb5 0)) (),cvar gb5 (zq1 go7) ((),(qb1,(fuse2,(qh3,(qd4,()))))),cqm go7 (S rS) Zaa qm8 (some x6),cvar gb18 (rW (PTR gb13 0)) (),zq22 gb13 go15 qb9 qg10 qh11 qd12,cqm go15 (S rS) Zaa qm16 (some x14),cvar gb19 rB false],[]⟩) (Imp.norm (js:=[0,0,0,0,2,0,0,0,0,0,0]) rfl (.cons rfl (.cons rfl (.cons rfl (.cons rfl .nil))))) ?_
   replace hx2:=hq3
   refine JC.rangeFunc (γ:=Unit) (γ':=(Unit)) (r:=tv3) (js:=[0,0,0,0]) (qf:=fun g=>g) (X':=fun g=>[cvar gb24 (rW (HDR go25 0 (List.length v22) gc26)) (),cown go25 rS v22 0 gc26,cvar gb27 (rW (HDR go28 0 (List.length x23) gc29)) (),cown go28 (rI .i64) x23 0 gc29]) (sv:=fun _=>.tup [])
       (fun (u : (List UInt8) × Int) (z : Unit)=>[S rS u.1,S (rI .i64) u.2]) (fun (u : (List UInt8) × Int) (z : Unit)=>[]) (fun (s : Unit) (u : (List UInt8) × Int)=>disk_Disk_Same_pp_smvvvvmsmvvvvm.y1 k x6 x14 u.1 u.2) (fun (s : Unit) q=>[cvar gb17 (rW (PTR gb5 0)) (),cvar gb5 (zq1 go7) ((),(qb1,(fuse2,(qh3,(qd4,()))))),cqm go7 (S rS) Zaa qm8 (some x6),cvar gb18 (rW (PTR gb13 0)) (),zq22 gb13 go15 qb9 qg10 qh11 qd12,cqm go15 (S rS) Zaa qm16 (some x14),cvar gb19 rB false]) (fun (t : (Unit)) q=>[cvar gb19 rB false,cvar gb5 (zq1 go7) ((),(qb1,(fuse2,(qh3,(qd4,()))))),cqm go7 (S rS) Zaa qm8 (some x6),cvar gb17 (rW (PTR gb5 0)) (),cvar gb18 (rW (PTR gb13 0)) (),zq22 gb13 go15 qb9 qg10 qh11 qd12,cqm go15 (S rS) Zaa qm16 (some x14)]) (fun (t : (Unit))=>.ret) [(2,ov (PTR gb17 0)),(3,ov (PTR gb18 0)),(4,ov (PTR gb19 0))] () () rfl tR cl40 rfl (.cons rfl (.cons rfl (.cons rfl .nil))) (fun _ _=>rfl) (by decide) rfl ?_ (fun L C hY=>ZbK k (fun (s : Unit) (u : (List UInt8) × Int)=>disk_Disk_Same_pp_smvvvvmsmvvvvm.y1 k x6 x14 u.1 u.2) (Sum.inl ()) v22 x23 () gb24 go25 gc26 gb27 go28 gc29 L C hY tv3 hL3) ?_ ?_
   · intro e1 w1 F1 L K lp s q u z y hx hlp
     obtain ⟨a30,a31⟩:=u
     change disk_Disk_Same_pp_smvvvvmsmvvvvm.y1 k x6 x14 a30 a31 = some y at hx
     unfold disk_Disk_Same_pp_smvvvvmsmvvvvm.y1 at hx
     refine JC.at ⟨[(23,ov (S rS a30)),(24,ov (S (rI .i64) a31)),(2,ov (PTR gb17 0)),(3,ov (PTR gb18 0)),(4,ov (PTR gb19 0))],[cLK L K (.loop lp),cvar gb17 (rW (PTR gb5 0)) (),cvar gb5 (zq1 go7) ((),(qb1,(fuse2,(qh3,(qd4,()))))),cqm go7 (S rS) Zaa qm8 (some x6),cvar gb18 (rW (PTR gb13 0)) (),zq22 gb13 go15 qb9 qg10 qh11 qd12,cqm go15 (S rS) Zaa qm16 (some x14),cvar gb19 rB false],[]⟩<|JC.region<|jc (Zac lb tR)<|JL.nil<|JQ.begin (j:=0) hlp rfl<|JC.block<|JC.seq<|lI hx fun f32 hv_f_32 hx=>?_
     obtain ⟨f33,hv_f_33,hx⟩:=Za2 hx
     refine JC.anyF (base:=[(2,ov (PTR gb17 0)),(3,ov (PTR gb18 0)),(4,ov (PTR gb19 0)),(5,ov (S rS a30))])
         (fs:=fun γ=>[⟨some 25,ov (PTR gb5 0)⟩,⟨some 26,ov (PTR gb5 0)⟩,⟨some 27,ov (PTR gb5 (0 + 0))⟩,⟨some 28,ov (MPV go7)⟩,⟨some 29,ov (S rS a30)⟩,⟨some 30,ov (PTO (Option.map (fun _=>qm8 a30) f32))⟩,⟨some 31,ov (PTR gb13 0)⟩,⟨some 32,ov (PTR gb13 0)⟩,⟨some 33,ov (PTR gb13 (0 + 0))⟩,⟨some 34,ov (MPV go15)⟩,⟨some 35,ov (S rS a30)⟩,⟨some 36,ov (PTO (Option.map (fun _=>qm16 a30) f33))⟩,⟨some 6,ov (PTO (Option.map (fun _=>qm8 a30) f32))⟩,⟨some 7,ov (PTO (Option.map (fun _=>qm16 a30) f33))⟩])
         (rs:=fun γ=>[⟨cLK L K (.loop { lp with state:=.busy }),none,none,[]⟩,⟨cvar gb17 (rW (PTR gb5 0)) (),none,none,[0]⟩,⟨cvar gb5 (zq1 go7) ((),(qb1,(fuse2,(qh3,(qd4,()))))),none,none,[3]⟩,⟨cqm go7 (S rS) Zaa qm8 (some x6),none,none,[5]⟩,⟨cvar gb18 (rW (PTR gb13 0)) (),none,none,[6]⟩,⟨zq22 gb13 go15 qb9 qg10 qh11 qd12,none,none,[9]⟩,⟨cqm go15 (S rS) Zaa qm16 (some x14),none,none,[11]⟩,⟨cvar gb19 rB false,none,none,[]⟩])
         (afts:=nn 14) (js:=[0,0,0,0,0,0,0,0]) mixed (.cons rfl (.cons rfl (.cons rfl (.cons rfl .nil)))) (fun _=>rfl)
         (by
      refine dR 1 (fun γ ρ B hb hd=>Zag.lk ⟨ρ,(cvar gb17 (rW (PTR gb5 0)) ())::B,_⟩ (Zal (j:=0) lb tS25 (.tmp (hb 2 _ rfl)) rfl (Comp.self (rW (PTR gb5 0)) ())))<|dS 2 (fun γ ρ B hb hd=>Zae lb (tl hd 0 25) (fun e v h=>by subst h; rfl))<|dS 3 (fun γ ρ B hb hd=>Zad (off:=0) lb Zct (tl hd 1 26))<|dR 4 (fun γ ρ B hb hd=>Zag.lk ⟨ρ,(cvar gb5 (zq1 go7) ((),(qb1,(fuse2,(qh3,(qd4,()))))))::B,_⟩ (Zal (j:=0) lb tS62 (tl hd 2 27) rfl (Comp.trans (Comp.self (zq1 go7) ((),(qb1,(fuse2,(qh3,(qd4,())))))) (Comp.at' (Comp.inF (Comp.self (rW (MPV go7)) ()) (lE rfl)) (by rfl : _ = 0)) (lE rfl))))<|db 5 5 ?_
      refine dR 6 (fun γ ρ B hb hd=>Zag.lk ⟨ρ,(cqm go7 (S rS) Zaa qm8 (some x6))::B,_⟩ (Zc5 (j:=0) lb tu62 ky9 tZ69 rfl rfl (tl hd 3 28) (tl hd 4 29) hv_f_32))<|dR 7 (fun γ ρ B hb hd=>Zag.lk ⟨ρ,(cvar gb18 (rW (PTR gb13 0)) ())::B,_⟩ (Zal (j:=0) lb tS25 (.tmp (hb 3 _ rfl)) rfl (Comp.self (rW (PTR gb13 0)) ())))<|dS 8 (fun γ ρ B hb hd=>Zae lb (tl hd 6 31) (fun e v h=>by subst h; rfl))<|dS 9 (fun γ ρ B hb hd=>Zad (off:=0) lb Zct (tl hd 7 32))<|dR 10 (fun γ ρ B hb hd=>Zag.lk ⟨ρ,(zq22 gb13 go15 qb9 qg10 qh11 qd12)::B,_⟩ (Zal (j:=0) lb tS62 (tl hd 8 33) rfl (Comp.trans (Comp.self (zq1 go15) ((),(qb9,(qg10,(qh11,(qd12,())))))) (Comp.at' (Comp.inF (Comp.self (rW (MPV go15)) ()) (lE rfl)) (by rfl : _ = 0)) (lE rfl)))) ?_
      refine db 11 5<|dR 12 (fun γ ρ B hb hd=>Zag.lk ⟨ρ,(cqm go15 (S rS) Zaa qm16 (some x14))::B,_⟩ (Zc5 (j:=0) lb tu62 ky9 tZ69 rfl rfl (tl hd 9 34) (tl hd 10 35) hv_f_33))<|dS 13 (fun γ ρ B hb hd=>Zac lb (tl hd 5 30))<|dS 14 (fun γ ρ B hb hd=>Zac lb (tl hd 11 36)) ?_
      exact Zat.nil)
         (by decide +kernel) (fun _=>rfl) (fun _=>rfl) (fun _=>rfl) rfl
         (ρ':=fun γ=>[(4,ov (PTR gb19 0)),(6,ov (PTO (Option.map (fun _=>qm8 a30) f32))),(7,ov (PTO (Option.map (fun _=>qm16 a30) f33)))])
         (X':=fun γ=>[cLK L K (.loop { lp with state:=.busy }),cvar gb17 (rW (PTR gb5 0)) (),cvar gb5 (zq1 go7) ((),(qb1,(fuse2,(qh3,(qd4,()))))),cqm go7 (S rS) Zaa qm8 (some x6),cvar gb18 (rW (PTR gb13 0)) (),zq22 gb13 go15 qb9 qg10 qh11 qd12,cqm go15 (S rS) Zaa qm16 (some x14),cvar gb19 rB false])
         (fun γ ρ hb hd=>(.cons (hb 4 _ rfl) (.cons (hdq hd 12 6 rfl) (.cons (hdq hd 13 7 rfl) .nil)))) (fun _=>rfl) (fun γ=>?_)
     refine JQ.at ⟨[(4,ov (PTR gb19 0)),(6,ov (PTO (Option.map (fun _=>qm8 a30) f32))),(7,ov (PTO (Option.map (fun _=>qm16 a30) f33)))],[cLK L K (.loop { lp with state:=.busy }),cvar gb17 (rW (PTR gb5 0)) (),cvar gb5 (zq1 go7) ((),(qb1,(fuse2,(qh3,(qd4,()))))),cqm go7 (S rS) Zaa qm8 (some x6),cvar gb18 (rW (PTR gb13 0)) (),zq22 gb13 go15 qb9 qg10 qh11 qd12,cqm go15 (S rS) Zaa qm16 (some x14),cvar gb19 rB false],[]⟩<|JQ.then<|bI hx fun x46 hx4 hq4=>JC.seqJ (γ:=Unit) (stj:=fun _=>⟨[(4,ov (PTR gb19 0)),(61,ov (S rB x46))],[cvar gb19 rB false,cvar gb5 (zq1 go7) ((),(qb1,(fuse2,(qh3,(qd4,()))))),cqm go7 (S rS) Zaa qm8 (some x6),zq22 gb13 go15 qb9 qg10 qh11 qd12,cqm go15 (S rS) Zaa qm16 (some x14),cvar gb17 (rW (PTR gb5 0)) (),cvar gb18 (rW (PTR gb13 0)) (),cLK L K (.loop { lp with state:=.busy })],[]⟩) (fun _=>?_) ?_
     · refine jif tR hq4 (fun hc9 hq4=>?_) (fun hc9 hq4=>?_)
       · exact jr<|jc (ZaL (j:=0) tS4 tR .cB rfl rfl (UpdR.self (by rfl)) rfl)<|jn<|JC.ret<|JQ.outRB<|JQ.rret () (Option.some.inj hq4).symm rfl (Imp.norm (js:=[7,0,0,0,2,2,0,0]) rfl .nil)
       exact JC.skip<|JQ.outNB<|JQ.rnext () (Option.some.inj hq4).symm (Imp.norm (js:=[7,5,1,1,3,1,1,0]) rfl .nil)
     obtain ⟨v34,hv34,hx4⟩:=Za2 hx4
     rcases Zbc hx4 with ⟨hc6,hx4⟩ | ⟨hc6,hx4⟩
     · refine JC.anyF (base:=[(4,ov (PTR gb19 0)),(7,ov (PTO (Option.map (fun _=>qm16 a30) f33)))])
           (fs:=fun γ=>[⟨some 37,ov (PTO (Option.map (fun _=>qm16 a30) f33))⟩,⟨some 38,ov (S rB v34)⟩,⟨some 39,ov (S rB v34)⟩,⟨some 40,.one .und⟩,⟨some 41,.one .und⟩,⟨some 42,.one .und⟩,⟨some 43,.one .und⟩,⟨some 44,.one .und⟩,⟨some 45,.one .und⟩,⟨some 46,.one .und⟩,⟨some 47,.one .und⟩,⟨some 48,.one .und⟩,⟨some 49,.one .und⟩,⟨some 50,ov (S rB true)⟩,⟨some 51,ov (S rB true)⟩,⟨some 52,.one .und⟩,⟨some 53,.one .und⟩,⟨some 54,.one .und⟩,⟨some 55,.one .und⟩,⟨some 56,.one .und⟩,⟨some 57,.one .und⟩,⟨some 58,.one .und⟩,⟨some 59,.one .und⟩,⟨some 60,.one .und⟩,⟨some 61,ov (S rB true)⟩])
           (rs:=fun γ=>[⟨cLK L K (.loop { lp with state:=.busy }),none,none,[]⟩,⟨cvar gb17 (rW (PTR gb5 0)) (),none,none,[]⟩,⟨cvar gb5 (zq1 go7) ((),(qb1,(fuse2,(qh3,(qd4,()))))),none,none,[]⟩,⟨cqm go7 (S rS) Zaa qm8 (some x6),none,none,[]⟩,⟨cvar gb18 (rW (PTR gb13 0)) (),none,none,[]⟩,⟨zq22 gb13 go15 qb9 qg10 qh11 qd12,none,none,[]⟩,⟨cqm go15 (S rS) Zaa qm16 (some x14),none,none,[]⟩,⟨cvar gb19 rB false,none,none,[]⟩])
           (afts:=nn 25) (js:=[0,0,0,0,0,0,0,0]) mixed (.cons rfl (.cons rfl .nil)) (fun _=>rfl)
           (by
      refine db 1 7<|dS 2 (fun γ ρ B hb hd=>Zd7 (neg:=false) lb tu69 (tl hd 0 37) (HasO.const (p:=PTO none) fun _=>rfl) hv34)<|dm 3 1 38<|kn 4 2 39 rfl hc6<|kn 5 2 39 rfl hc6 ?_
      refine kn 6 2 39 rfl hc6<|kn 7 2 39 rfl hc6<|kn 8 2 39 rfl hc6<|kn 9 2 39 rfl hc6<|kn 10 2 39 rfl hc6 ?_
      refine kn 11 2 39 rfl hc6<|kn 12 2 39 rfl hc6<|kn 13 2 39 rfl hc6<|dS 14 (fun γ ρ B hb hd=>Zaw lb (tl hd 2 39) hc6 .cB)<|dm 15 13 50 ?_
      refine kn 16 14 51 rfl rfl<|kn 17 14 51 rfl rfl<|kn 18 14 51 rfl rfl<|kn 19 14 51 rfl rfl<|kn 20 14 51 rfl rfl ?_
      refine kn 21 14 51 rfl rfl<|kn 22 14 51 rfl rfl<|kn 23 14 51 rfl rfl<|kn 24 14 51 rfl rfl<|dS 25 (fun γ ρ B hb hd=>Zaw lb (tl hd 14 51) rfl .cB) ?_
      exact Zat.nil)
           (by decide +kernel) (fun _=>rfl) (fun _=>rfl) (fun _=>rfl) rfl
           (ρ':=fun γ=>[(4,ov (PTR gb19 0)),(61,ov (S rB true))])
           (X':=fun γ=>[cLK L K (.loop { lp with state:=.busy }),cvar gb17 (rW (PTR gb5 0)) (),cvar gb5 (zq1 go7) ((),(qb1,(fuse2,(qh3,(qd4,()))))),cqm go7 (S rS) Zaa qm8 (some x6),cvar gb18 (rW (PTR gb13 0)) (),zq22 gb13 go15 qb9 qg10 qh11 qd12,cqm go15 (S rS) Zaa qm16 (some x14),cvar gb19 rB false])
           (fun γ ρ hb hd=>(.cons (hb 4 _ rfl) (.cons (hdq hd 24 61 rfl) .nil))) (fun _=>rfl) (fun γ=>?_)
       refine JQ.at ⟨[(4,ov (PTR gb19 0)),(61,ov (S rB true))],[cLK L K (.loop { lp with state:=.busy }),cvar gb17 (rW (PTR gb5 0)) (),cvar gb5 (zq1 go7) ((),(qb1,(fuse2,(qh3,(qd4,()))))),cqm go7 (S rS) Zaa qm8 (some x6),cvar gb18 (rW (PTR gb13 0)) (),zq22 gb13 go15 qb9 qg10 qh11 qd12,cqm go15 (S rS) Zaa qm16 (some x14),cvar gb19 rB false],[]⟩ ?_
       try obtain rfl:=so hx4
       exact JQ.join () (Imp.norm (js:=[7,2,2,3,3,1,1,0]) rfl (.cons rfl (.cons rfl .nil)))
     refine bI hx4 fun u35 hv_u_35 hx4=>bI hx4 fun u36 hv_u_36 hx4=>bI hx4 fun u37 hv_u_37 hx4=>bI hx4 fun u38 hv_u_38 hx4=>bI hx4 fun v39 hv39 hx4=>?_
     obtain ⟨v40,hv40,hx4⟩:=Za2 hx4
     rcases Zbc hx4 with ⟨hc8,hx4⟩ | ⟨hc8,hx4⟩
     · refine JC.anyF (base:=[(4,ov (PTR gb19 0)),(6,ov (PTO (Option.map (fun _=>qm8 a30) f32))),(7,ov (PTO (Option.map (fun _=>qm16 a30) f33)))])
           (fs:=fun γ=>[⟨some 37,ov (PTO (Option.map (fun _=>qm16 a30) f33))⟩,⟨some 38,ov (S rB v34)⟩,⟨some 39,ov (S rB v34)⟩,⟨some 40,ov (PTO (Option.map (fun _=>qm8 a30) f32))⟩,⟨some 41,ov (PTR (qm8 a30) 0)⟩,⟨some 42,ov (PTR (qm8 a30) (0 + 0))⟩,⟨some 43,ov (S (rL (rU UInt8)) u36.b)⟩,⟨some 44,ov (PTO (Option.map (fun _=>qm16 a30) f33))⟩,⟨some 45,ov (PTR (qm16 a30) 0)⟩,⟨some 46,ov (PTR (qm16 a30) (0 + 0))⟩,⟨some 47,ov (S (rL (rU UInt8)) u38.b)⟩,⟨some 48,ov (S rB v39)⟩,⟨some 49,ov (S rB v40)⟩,⟨some 50,ov (S rB v40)⟩,⟨some 51,ov (S rB v40)⟩,⟨some 52,.one .und⟩,⟨some 53,.one .und⟩,⟨some 54,.one .und⟩,⟨some 55,.one .und⟩,⟨some 56,.one .und⟩,⟨some 57,.one .und⟩,⟨some 58,.one .und⟩,⟨some 59,.one .und⟩,⟨some 60,.one .und⟩,⟨some 61,ov (S rB true)⟩])
           (rs:=fun γ=>[⟨cLK L K (.loop { lp with state:=.busy }),none,none,[]⟩,⟨cvar gb17 (rW (PTR gb5 0)) (),none,none,[]⟩,⟨cvar gb5 (zq1 go7) ((),(qb1,(fuse2,(qh3,(qd4,()))))),none,none,[]⟩,⟨cqm go7 (S rS) Zaa qm8 (some x6),none,none,[6]⟩,⟨cvar gb18 (rW (PTR gb13 0)) (),none,none,[]⟩,⟨zq22 gb13 go15 qb9 qg10 qh11 qd12,none,none,[]⟩,⟨cqm go15 (S rS) Zaa qm16 (some x14),none,none,[10]⟩,⟨cvar gb19 rB false,none,none,[]⟩])
           (afts:=nn 25) (js:=[0,0,0,0,0,0,0,0]) mixed (.cons rfl (.cons rfl (.cons rfl .nil))) (fun _=>rfl)
           (by
      refine db 1 7<|dS 2 (fun γ ρ B hb hd=>Zd7 (neg:=false) lb tu69 (tl hd 0 37) (HasO.const (p:=PTO none) fun _=>rfl) hv34)<|dm 3 1 38<|dY 4 (fun γ ρ B hb hd=>⟨.yes rfl (ltB rfl) (hl hd 2 39 rfl) hc6,lkB (Zai lb (.tmp (hb 6 _ rfl)))⟩)<|dY 5 (fun γ ρ B hb hd=>⟨.yes rfl (ltB rfl) (hl hd 2 39 rfl) hc6,lkB (Zae lb (HasO.wk (tl hd 3 40) (Zdp hv_u_35)) (fun e v h=>by subst h; rfl))⟩) ?_
      refine dY 6 (fun γ ρ B hb hd=>⟨.yes rfl (ltB rfl) (hl hd 2 39 rfl) hc6,lkB (Zad (off:=0) lb Zdh (tl hd 4 41))⟩)<|dY 7 (fun γ ρ B hb hd=>⟨.yes rfl (ltB rfl) (hl hd 2 39 rfl) hc6,Zag.lk ⟨ρ,(cqm go7 (S rS) Zaa qm8 (some x6))::B,_⟩ (ZbC (j:=0) (m:=(some x6)) lb tS31 (tl hd 5 42) rfl hv_u_36 (cT (Za9 u36) rfl) rfl rfl)⟩)<|dY 8 (fun γ ρ B hb hd=>⟨.yes rfl (ltB rfl) (hl hd 2 39 rfl) hc6,lkB (Zai lb (.tmp (hb 7 _ rfl)))⟩)<|dY 9 (fun γ ρ B hb hd=>⟨.yes rfl (ltB rfl) (hl hd 2 39 rfl) hc6,lkB (Zae lb (HasO.wk (tl hd 7 44) (Zdp hv_u_37)) (fun e v h=>by subst h; rfl))⟩)<|dY 10 (fun γ ρ B hb hd=>⟨.yes rfl (ltB rfl) (hl hd 2 39 rfl) hc6,lkB (Zad (off:=0) lb Zdh (tl hd 8 45))⟩) ?_
      refine dY 11 (fun γ ρ B hb hd=>⟨.yes rfl (ltB rfl) (hl hd 2 39 rfl) hc6,Zag.lk ⟨ρ,(cqm go15 (S rS) Zaa qm16 (some x14))::B,_⟩ (ZbC (j:=0) (m:=(some x14)) lb tS31 (tl hd 9 46) rfl hv_u_38 (cT (Za9 u38) rfl) rfl rfl)⟩)<|dY 12 (fun γ ρ B hb hd=>⟨.yes rfl (ltB rfl) (hl hd 2 39 rfl) hc6,lkB ((Zak (js:=[]) ld cl51 (ZeG k u36.b u38.b v39 hv39) .func (.cons (tl hd 6 43) (.cons (tl hd 10 47) .nil)) rfl).post (fun _=>Imp.refl))⟩)<|dY 13 (fun γ ρ B hb hd=>⟨.yes rfl (ltB rfl) (hl hd 2 39 rfl) hc6,lkB (Zce lb (tl hd 11 48) hv40)⟩)<|dS 14 (fun γ ρ B hb hd=>Zar lb (tl hd 2 39) hc6 (tl hd 12 49))<|dm 15 13 50 ?_
      refine kn 16 14 51 rfl hc8<|kn 17 14 51 rfl hc8<|kn 18 14 51 rfl hc8<|kn 19 14 51 rfl hc8<|kn 20 14 51 rfl hc8 ?_
      refine kn 21 14 51 rfl hc8<|kn 22 14 51 rfl hc8<|kn 23 14 51 rfl hc8<|kn 24 14 51 rfl hc8<|dS 25 (fun γ ρ B hb hd=>Zaw lb (tl hd 14 51) hc8 .cB) ?_
      exact Zat.nil)
           (by decide +kernel) (fun _=>rfl) (fun _=>rfl) (fun _=>rfl) rfl
           (ρ':=fun γ=>[(4,ov (PTR gb19 0)),(61,ov (S rB true))])
           (X':=fun γ=>[cLK L K (.loop { lp with state:=.busy }),cvar gb17 (rW (PTR gb5 0)) (),cvar gb5 (zq1 go7) ((),(qb1,(fuse2,(qh3,(qd4,()))))),cqm go7 (S rS) Zaa qm8 (some x6),cvar gb18 (rW (PTR gb13 0)) (),zq22 gb13 go15 qb9 qg10 qh11 qd12,cqm go15 (S rS) Zaa qm16 (some x14),cvar gb19 rB false])
           (fun γ ρ hb hd=>(.cons (hb 4 _ rfl) (.cons (hdq hd 24 61 rfl) .nil))) (fun _=>rfl) (fun γ=>?_)
       refine JQ.at ⟨[(4,ov (PTR gb19 0)),(61,ov (S rB true))],[cLK L K (.loop { lp with state:=.busy }),cvar gb17 (rW (PTR gb5 0)) (),cvar gb5 (zq1 go7) ((),(qb1,(fuse2,(qh3,(qd4,()))))),cqm go7 (S rS) Zaa qm8 (some x6),cvar gb18 (rW (PTR gb13 0)) (),zq22 gb13 go15 qb9 qg10 qh11 qd12,cqm go15 (S rS) Zaa qm16 (some x14),cvar gb19 rB false],[]⟩ ?_
       try obtain rfl:=so hx4
       exact JQ.join () (Imp.norm (js:=[7,2,2,3,3,1,1,0]) rfl (.cons rfl (.cons rfl .nil)))
     refine bI hx4 fun u41 hv_u_41 hx4=>bI hx4 fun u42 hv_u_42 hx4=>bI hx4 fun u43 hv_u_43 hx4=>bI hx4 fun u44 hv_u_44 hx4=>?_
     obtain ⟨v45,hv45,hx4⟩:=Za2 hx4
     refine JC.anyF (base:=[(4,ov (PTR gb19 0)),(6,ov (PTO (Option.map (fun _=>qm8 a30) f32))),(7,ov (PTO (Option.map (fun _=>qm16 a30) f33)))])
         (fs:=fun γ=>[⟨some 37,ov (PTO (Option.map (fun _=>qm16 a30) f33))⟩,⟨some 38,ov (S rB v34)⟩,⟨some 39,ov (S rB v34)⟩,⟨some 40,ov (PTO (Option.map (fun _=>qm8 a30) f32))⟩,⟨some 41,ov (PTR (qm8 a30) 0)⟩,⟨some 42,ov (PTR (qm8 a30) (0 + 0))⟩,⟨some 43,ov (S (rL (rU UInt8)) u36.b)⟩,⟨some 44,ov (PTO (Option.map (fun _=>qm16 a30) f33))⟩,⟨some 45,ov (PTR (qm16 a30) 0)⟩,⟨some 46,ov (PTR (qm16 a30) (0 + 0))⟩,⟨some 47,ov (S (rL (rU UInt8)) u38.b)⟩,⟨some 48,ov (S rB v39)⟩,⟨some 49,ov (S rB v40)⟩,⟨some 50,ov (S rB v40)⟩,⟨some 51,ov (S rB v40)⟩,⟨some 52,ov (PTO (Option.map (fun _=>qm8 a30) f32))⟩,⟨some 53,ov (PTR (qm8 a30) 0)⟩,⟨some 54,ov (PTR (qm8 a30) (0 + 1))⟩,⟨some 55,ov (S (rI .i64) u42.lasts)⟩,⟨some 56,ov (PTO (Option.map (fun _=>qm16 a30) f33))⟩,⟨some 57,ov (PTR (qm16 a30) 0)⟩,⟨some 58,ov (PTR (qm16 a30) (0 + 1))⟩,⟨some 59,ov (S (rI .i64) u44.lasts)⟩,⟨some 60,ov (S rB v45)⟩,⟨some 61,ov (S rB v45)⟩])
         (rs:=fun γ=>[⟨cLK L K (.loop { lp with state:=.busy }),none,none,[]⟩,⟨cvar gb17 (rW (PTR gb5 0)) (),none,none,[]⟩,⟨cvar gb5 (zq1 go7) ((),(qb1,(fuse2,(qh3,(qd4,()))))),none,none,[]⟩,⟨cqm go7 (S rS) Zaa qm8 (some x6),none,none,[6,18]⟩,⟨cvar gb18 (rW (PTR gb13 0)) (),none,none,[]⟩,⟨zq22 gb13 go15 qb9 qg10 qh11 qd12,none,none,[]⟩,⟨cqm go15 (S rS) Zaa qm16 (some x14),none,none,[10,22]⟩,⟨cvar gb19 rB false,none,none,[]⟩])
         (afts:=nn 25) (js:=[0,0,0,0,0,0,0,0]) mixed (.cons rfl (.cons rfl (.cons rfl .nil))) (fun _=>rfl)
         (by
      refine db 1 7<|dS 2 (fun γ ρ B hb hd=>Zd7 (neg:=false) lb tu69 (tl hd 0 37) (HasO.const (p:=PTO none) fun _=>rfl) hv34)<|dm 3 1 38<|dY 4 (fun γ ρ B hb hd=>⟨.yes rfl (ltB rfl) (hl hd 2 39 rfl) hc6,lkB (Zai lb (.tmp (hb 6 _ rfl)))⟩)<|dY 5 (fun γ ρ B hb hd=>⟨.yes rfl (ltB rfl) (hl hd 2 39 rfl) hc6,lkB (Zae lb (HasO.wk (tl hd 3 40) (Zdp hv_u_35)) (fun e v h=>by subst h; rfl))⟩) ?_
      refine dY 6 (fun γ ρ B hb hd=>⟨.yes rfl (ltB rfl) (hl hd 2 39 rfl) hc6,lkB (Zad (off:=0) lb Zdh (tl hd 4 41))⟩)<|dY 7 (fun γ ρ B hb hd=>⟨.yes rfl (ltB rfl) (hl hd 2 39 rfl) hc6,Zag.lk ⟨ρ,(cqm go7 (S rS) Zaa qm8 (some x6))::B,_⟩ (ZbC (j:=0) (m:=(some x6)) lb tS31 (tl hd 5 42) rfl hv_u_36 (cT (Za9 u36) rfl) rfl rfl)⟩)<|dY 8 (fun γ ρ B hb hd=>⟨.yes rfl (ltB rfl) (hl hd 2 39 rfl) hc6,lkB (Zai lb (.tmp (hb 7 _ rfl)))⟩)<|dY 9 (fun γ ρ B hb hd=>⟨.yes rfl (ltB rfl) (hl hd 2 39 rfl) hc6,lkB (Zae lb (HasO.wk (tl hd 7 44) (Zdp hv_u_37)) (fun e v h=>by subst h; rfl))⟩)<|dY 10 (fun γ ρ B hb hd=>⟨.yes rfl (ltB rfl) (hl hd 2 39 rfl) hc6,lkB (Zad (off:=0) lb Zdh (tl hd 8 45))⟩) ?_
      refine dY 11 (fun γ ρ B hb hd=>⟨.yes rfl (ltB rfl) (hl hd 2 39 rfl) hc6,Zag.lk ⟨ρ,(cqm go15 (S rS) Zaa qm16 (some x14))::B,_⟩ (ZbC (j:=0) (m:=(some x14)) lb tS31 (tl hd 9 46) rfl hv_u_38 (cT (Za9 u38) rfl) rfl rfl)⟩)<|dY 12 (fun γ ρ B hb hd=>⟨.yes rfl (ltB rfl) (hl hd 2 39 rfl) hc6,lkB ((Zak (js:=[]) ld cl51 (ZeG k u36.b u38.b v39 hv39) .func (.cons (tl hd 6 43) (.cons (tl hd 10 47) .nil)) rfl).post (fun _=>Imp.refl))⟩)<|dY 13 (fun γ ρ B hb hd=>⟨.yes rfl (ltB rfl) (hl hd 2 39 rfl) hc6,lkB (Zce lb (tl hd 11 48) hv40)⟩)<|dS 14 (fun γ ρ B hb hd=>Zar lb (tl hd 2 39) hc6 (tl hd 12 49))<|dm 15 13 50 ?_
      refine dY 16 (fun γ ρ B hb hd=>⟨.yes rfl (ltB rfl) (hl hd 14 51 rfl) hc8,lkB (Zai lb (.tmp (hb 6 _ rfl)))⟩)<|dY 17 (fun γ ρ B hb hd=>⟨.yes rfl (ltB rfl) (hl hd 14 51 rfl) hc8,lkB (Zae lb (HasO.wk (tl hd 15 52) (Zdp hv_u_41)) (fun e v h=>by subst h; rfl))⟩)<|dY 18 (fun γ ρ B hb hd=>⟨.yes rfl (ltB rfl) (hl hd 14 51 rfl) hc8,lkB (Zad (off:=1) lb ZeE (tl hd 16 53))⟩)<|dY 19 (fun γ ρ B hb hd=>⟨.yes rfl (ltB rfl) (hl hd 14 51 rfl) hc8,Zag.lk ⟨ρ,(cqm go7 (S rS) Zaa qm8 (some x6))::B,_⟩ (ZbC (j:=0) (m:=(some x6)) lb tS3 (tl hd 17 54) rfl hv_u_42 (cT (Zbv u42) rfl) rfl rfl)⟩)<|dY 20 (fun γ ρ B hb hd=>⟨.yes rfl (ltB rfl) (hl hd 14 51 rfl) hc8,lkB (Zai lb (.tmp (hb 7 _ rfl)))⟩) ?_
      refine dY 21 (fun γ ρ B hb hd=>⟨.yes rfl (ltB rfl) (hl hd 14 51 rfl) hc8,lkB (Zae lb (HasO.wk (tl hd 19 56) (Zdp hv_u_43)) (fun e v h=>by subst h; rfl))⟩)<|dY 22 (fun γ ρ B hb hd=>⟨.yes rfl (ltB rfl) (hl hd 14 51 rfl) hc8,lkB (Zad (off:=1) lb ZeE (tl hd 20 57))⟩)<|dY 23 (fun γ ρ B hb hd=>⟨.yes rfl (ltB rfl) (hl hd 14 51 rfl) hc8,Zag.lk ⟨ρ,(cqm go15 (S rS) Zaa qm16 (some x14))::B,_⟩ (ZbC (j:=0) (m:=(some x14)) lb tS3 (tl hd 21 58) rfl hv_u_44 (cT (Zbv u44) rfl) rfl rfl)⟩)<|dY 24 (fun γ ρ B hb hd=>⟨.yes rfl (ltB rfl) (hl hd 14 51 rfl) hc8,lkB (Zan lb (tl hd 18 55) (tl hd 22 59) (cs hv45))⟩)<|dS 25 (fun γ ρ B hb hd=>Zar lb (tl hd 14 51) hc8 (tl hd 23 60)) ?_
      exact Zat.nil)
         (by decide +kernel) (fun _=>rfl) (fun _=>rfl) (fun _=>rfl) rfl
         (ρ':=fun γ=>[(4,ov (PTR gb19 0)),(61,ov (S rB v45))])
         (X':=fun γ=>[cLK L K (.loop { lp with state:=.busy }),cvar gb17 (rW (PTR gb5 0)) (),cvar gb5 (zq1 go7) ((),(qb1,(fuse2,(qh3,(qd4,()))))),cqm go7 (S rS) Zaa qm8 (some x6),cvar gb18 (rW (PTR gb13 0)) (),zq22 gb13 go15 qb9 qg10 qh11 qd12,cqm go15 (S rS) Zaa qm16 (some x14),cvar gb19 rB false])
         (fun γ ρ hb hd=>(.cons (hb 4 _ rfl) (.cons (hdq hd 24 61 rfl) .nil))) (fun _=>rfl) (fun γ=>?_)
     refine JQ.at ⟨[(4,ov (PTR gb19 0)),(61,ov (S rB v45))],[cLK L K (.loop { lp with state:=.busy }),cvar gb17 (rW (PTR gb5 0)) (),cvar gb5 (zq1 go7) ((),(qb1,(fuse2,(qh3,(qd4,()))))),cqm go7 (S rS) Zaa qm8 (some x6),cvar gb18 (rW (PTR gb13 0)) (),zq22 gb13 go15 qb9 qg10 qh11 qd12,cqm go15 (S rS) Zaa qm16 (some x14),cvar gb19 rB false],[]⟩ ?_
     try obtain rfl:=so hx4
     exact JQ.join () (Imp.norm (js:=[7,2,2,3,3,1,1,0]) rfl (.cons rfl (.cons rfl .nil)))
   · intro s gK47 gq0 hr
     obtain ⟨gq3,hgq⟩ : ∃ z,z = gq0:=⟨_,rfl⟩
     subst hr
     dsimp only at hx2
     simp only [← hgq]
     refine JQ.pre Imp.defs1<|JQ.pre (st':=⟨[(2,ov (PTR gb17 0)),(3,ov (PTR gb18 0)),(4,ov (PTR gb19 0))],[Zcq (gK47::([] : List Nat)),cvar gb17 (rW (PTR gb5 0)) (),cvar gb5 (zq1 go7) ((),(qb1,(fuse2,(qh3,(qd4,()))))),cqm go7 (S rS) Zaa qm8 (some x6),cvar gb18 (rW (PTR gb13 0)) (),zq22 gb13 go15 qb9 qg10 qh11 qd12,cqm go15 (S rS) Zaa qm16 (some x14),cvar gb19 rB false],(gK47::([] : List Nat))⟩) (Imp.norm (js:=[0,0,0,0,0,0,0,0]) rfl (.cons rfl (.cons rfl (.cons rfl .nil))))<|JQ.outNB ?_
     try obtain rfl:=so hx2
     exact JQ.joinK () (gK47::([] : List Nat)) rfl (Imp.norm (js:=[1,1,1,1,1,1,1,0]) rfl (.cons rfl (.cons rfl (.cons rfl .nil))))
   intro u gK47 gq0 hr
   obtain ⟨gq3,hgq⟩ : ∃ z,z = gq0:=⟨_,rfl⟩
   subst hr
   dsimp only at hx2
   simp only [← hgq]
   refine JC.pre Imp.defs1<|JC.pre (st':=⟨[(4,ov (PTR gb19 0))],[Zcq (gK47::([] : List Nat)),cvar gb19 rB false,cvar gb5 (zq1 go7) ((),(qb1,(fuse2,(qh3,(qd4,()))))),cqm go7 (S rS) Zaa qm8 (some x6),cvar gb17 (rW (PTR gb5 0)) (),cvar gb18 (rW (PTR gb13 0)) (),zq22 gb13 go15 qb9 qg10 qh11 qd12,cqm go15 (S rS) Zaa qm16 (some x14)],(gK47::([] : List Nat))⟩) (Imp.norm (js:=[0,0,0,0,0,0,0,0]) rfl (.cons rfl .nil))<|JC.ret<|JQ.outRB ?_
   try obtain rfl:=so hx2
   dsimp only at hq2
   refine JQ.outR ?_
   obtain rfl:=so hq2
   exact JQ.doneL (j:=0) (js:=[1,1,3,3]) (ss:=[.val (S rB false)]) () (.inl rfl) rfl rfl (.cons (.cellS (j:=0) tS4 rfl rfl rfl) .nil) rfl rfl rfl
 refine JC.region<|jc (Zal (j:=4) lb tS25 tR rfl (Comp.self (rW (PTR gb5 0)) ()))<|bI hx1 fun _ hv_u_20 hx1=>jx (Zak (js:=[0,0]) ld cl34 (ZaA k qb1 fuse2 qh3 qd4 x6 gb5 go7 qm8 () hv_u_20) .func (.cons tR .nil) rfl) fun _=>JL.sub ⟨[(2,ov (PTR gb17 0)),(3,ov (PTR gb18 0)),(4,ov (PTR gb19 0)),(9,ov (S rB true))],[cvar gb5 (zq1 go7) ((),(qb1,(fuse2,(qh3,(qd4,()))))),cqm go7 (S rS) Zaa qm8 (some x6),zq22 gb13 go15 qb9 qg10 qh11 qd12,cqm go15 (S rS) Zaa qm16 (some x14),cvar gb17 (rW (PTR gb5 0)) (),cvar gb18 (rW (PTR gb13 0)) (),cvar gb19 rB false],[]⟩ (.cons rfl (.cons rfl (.cons rfl (.cons rfl .nil)))) rfl rfl<|jc (Zce lb tR rfl)<|jmv rfl rfl<|JL.run (.yes rfl (ltB rfl) rfl rfl) (Zal (j:=5) lb tS25 tR rfl (Comp.self (rW (PTR gb13 0)) ()))<|bI hx1 fun _ hv_u_21 hx1=>JL.runX (.yes rfl (ltB rfl) rfl rfl) (Zak (js:=[2,2]) ld cl34 (ZaA k qb9 qg10 qh11 qd12 x14 gb13 go15 qm16 () hv_u_21) .func (.cons tR .nil) rfl) fun _=>JL.run (.yes rfl (ltB rfl) rfl rfl) (Zce lb tR rfl) ?_
 exact jc (Zar lb tR rfl tR)<|JL.nil<|JQ.join () (Imp.norm (js:=[4,2,2,2,0,0,0]) rfl (.cons rfl (.cons rfl (.cons rfl (.cons rfl .nil)))))

theorem Zbm (k : Nat) (qc1 : Int) (ql2 : Int) (qj3 : Bool) (qe4 : Int) (x6 : (List Zah)) (gb5 : Nat) (go7 : Option Nat) (gc8 : Nat) (r : Int) (hm : ref05_Disk_Room_p_sovvvv k qc1 ql2 qj3 qe4 x6 = some r) : Sim Try.prog 42 [PTR gb5 0] [zq16 gb5 go7 x6 gc8 qc1 ql2 qj3 qe4,cown go7 Zab x6 0 gc8] (γ:=Unit) (fun q=>[zq16 gb5 go7 x6 gc8 qc1 ql2 qj3 qe4,cown go7 Zab x6 0 gc8]) (fun q=>.one (.val (S (rI .i64) r))):=by
 unfold ref05_Disk_Room_p_sovvvv at hm
 refine Sim.of Try.func42 rfl rfl (lE rfl) (fun e0 w0=>?_)
 refine JC.at ⟨[(0,ov (PTR gb5 0))],[zq16 gb5 go7 x6 gc8 qc1 ql2 qj3 qe4,cown go7 Zab x6 0 gc8],[]⟩<|jr<|jc (Zac lb .cI)<|jn<|jr<|jmv rfl rfl<|jc (Zae lb tR (fun e v h=>by subst h; rfl))<|jc (Zad (off:=1) lb Zf0 tR)<|jc (Zam (j:=0) lb tS3 tR rfl (Comp.trans (Comp.self (zq10 go7 x6 gc8) ((),(qc1,(ql2,(qj3,(qe4,())))))) (Comp.at' (Comp.inS (Comp.inF (Comp.self (rI .i64) qc1) (lE rfl))) (by rfl : _ = 1)) (lE rfl)) rfl rfl)<|jc (Zac lb tR)<|jn<|bI hm fun n16 hx1 hq1=>JC.seqJ (γ:=Unit) (stj:=fun _=>⟨[(3,ov (S (rI .i64) n16))],[zq16 gb5 go7 x6 gc8 qc1 ql2 qj3 qe4,cown go7 Zab x6 0 gc8],[]⟩) (fun _=>?_) ?_
 · refine jr<|jmv rfl rfl<|jc (Zac lb tR)<|jn<|JC.ret ?_
   obtain rfl:=so hq1
   exact JQ.done (js:=[0,0]) (ss:=[.val (S (rI .i64) n16)]) () (.inl rfl) (.nil rfl) rfl (.cons (.tmp rfl) .nil) rfl rfl rfl
 refine jr<|jc (Zac lb .cI)<|jn<|JC.block<|JC.pre (Imp.var (j:=0) (q:=(zq10 go7 x6 gc8)) (y:=((),(qc1,(ql2,(qj3,(qe4,())))))) rfl Wk.refl) ?_
 refine JC.pre ?_ (JC.loop (γ:=Unit) (stf:=fun s q=>⟨[(0,ov (PTR gb5 0)),(3,ov (S (rI .i64) s.1)),(4,ov (S (rI .i64) s.2))],[zq16 gb5 go7 x6 gc8 qc1 ql2 qj3 qe4,cown go7 Zab x6 0 gc8],[]⟩) (q:=()) hx1 ?_)
 · exact (Imp.norm (js:=[0,0]) rfl (.cons rfl (.cons rfl (.cons rfl .nil))))
 intro s q x hx hr
 obtain ⟨n9,i10⟩:=s
 obtain _:=q
 change ref05_Disk_Room_p_sovvvv.b1 k x6 n9 i10 = some x at hx
 unfold ref05_Disk_Room_p_sovvvv.b1 at hx
 refine JC.at ⟨[(0,ov (PTR gb5 0)),(3,ov (S (rI .i64) n9)),(4,ov (S (rI .i64) i10))],[zq16 gb5 go7 x6 gc8 qc1 ql2 qj3 qe4,cown go7 Zab x6 0 gc8],[]⟩<|JC.seq<|jr<|jmv rfl rfl<|jmv rfl rfl<|jc (Zae lb tR (fun e v h=>by subst h; rfl))<|jc (Zad (off:=0) lb Za6 tR)<|jc (Zal (j:=0) lb tS46 tR rfl (Comp.trans (Comp.self (zq10 go7 x6 gc8) ((),(qc1,(ql2,(qj3,(qe4,())))))) (Comp.at' (Comp.inF (Comp.self (rW (HDR go7 0 (List.length x6) gc8)) ()) (lE rfl)) (by rfl : _ = 0)) (lE rfl)))<|jc (Zb2 lb tu46 tR)<|lI hx fun v11 hv11 hx=>jc (Zan lb tR tR (cs hv11))<|jn<|jif tR hx (fun hc3 hx=>?_) (fun hc3 hx=>?_)
 · refine JC.skip<|JQ.then<|JC.seq<|JC.block<|JC.region<|jmv rfl rfl<|jmv rfl rfl<|jc (Zae lb tR (fun e v h=>by subst h; rfl))<|jc (Zad (off:=0) lb Za6 tR)<|jc (Zal (j:=0) lb tS46 tR rfl (Comp.trans (Comp.self (zq10 go7 x6 gc8) ((),(qc1,(ql2,(qj3,(qe4,())))))) (Comp.at' (Comp.inF (Comp.self (rW (HDR go7 0 (List.length x6) gc8)) ()) (lE rfl)) (by rfl : _ = 0)) (lE rfl)))<|JL.sub ⟨[(0,ov (PTR gb5 0)),(3,ov (S (rI .i64) n9)),(4,ov (S (rI .i64) i10)),(18,ov (S (rI .i64) n9)),(22,ov (HDR go7 0 (List.length x6) gc8))],[zq16 gb5 go7 x6 gc8 qc1 ql2 qj3 qe4,cown go7 Zab x6 0 gc8],[]⟩ (.cons rfl (.cons rfl (.cons rfl (.cons rfl (.cons rfl .nil))))) rfl rfl<|jmv rfl rfl<|bI hx fun i12 hv_i_12 hx=>jc (Zap (r:=Zab) (j:=1) lb tu46 tz84 rfl tR tR hv_i_12)<|jc (ZaB (off:=1) lb Zdn tR)<|bI hx fun u13 hv_u_13 hx=>jc (Zbf (r:=Zab) (i:=i12) (off:=1) (j:=1) lb tS31 rfl rfl tR hv_u_13 (Comp.at' (cT (Za5 u13) rfl) rfl) (by decide))<|jc (Zcc lb tu31 tR) ?_
   refine lI hx fun v14 hv14 hx=>jc (Zbx lb tR tR (cs hv14))<|jc (Zac lb tR)<|JL.nil<|JQ.outNB<|JQ.then<|JC.region<|jmv rfl rfl<|lI hx fun v15 hv15 hx=>jc (Zbx lb tR .cI (cs hv15))<|jc (Zac lb tR)<|JL.nil ?_
   try obtain rfl:=so hx
   exact JQ.next () rfl (Imp.norm (js:=[0,0]) rfl (.cons rfl (.cons rfl (.cons rfl .nil))))
 refine JC.exit<|JQ.outX ?_
 try obtain rfl:=so hx
 have ht:=hr _ rfl
 have hq2:=cs ht
 clear hr ht
 refine JQ.outX<|JQ.here ?_
 try obtain rfl:=so hq2
 exact JQ.join () (Imp.norm (js:=[0,0]) rfl (.cons rfl .nil))

end Go.Proofs.Ytipchpbcjkhnaaa
