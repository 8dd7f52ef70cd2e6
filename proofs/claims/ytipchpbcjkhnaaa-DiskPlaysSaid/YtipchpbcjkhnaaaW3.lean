/- Walks. -/
import Derived.Test.YtipchpbcjkhnaaaT
import Derived.Test.YtipchpbcjkhnaaaW0
import Derived.Test.YtipchpbcjkhnaaaW1
namespace Go.Proofs.Ytipchpbcjkhnaaa
open Go Fw
set_option linter.unusedVariables false
set_option maxRecDepth 100000
set_option maxHeartbeats 4000000

theorem ZcI (k : Nat) (qb2 : Int) (qg3 : Int) (qh4 : Bool) (qd5 : Int) (x7 : (List ((List UInt8) × Zaf))) (x10 : (List UInt8)) (x12 : (Option Zaf)) (x14 : (List UInt8)) (gb1 : Nat) (gb6 : Nat) (go8 : Option Nat) (qm9 : ((List UInt8) → Nat)) (gb11 : Nat) (gb13 : Nat) (gb15 : Nat) (r : (List ((List UInt8) × Zaf))) (hm : Zbg k qb2 qg3 qh4 qd5 x7 x10 x12 x14 = some r) : Sim Try.prog 54 [PTR gb1 0,PTR gb11 0,PTR gb13 0,PTR gb15 0] [cvar gb1 (rW (PTR gb6 0)) (),cvar gb6 (zq1 go8) ((),(qb2,(qg3,(qh4,(qd5,()))))),cqm go8 (S rS) Zaa qm9 (some x7),cvar gb11 rS x10,cvar gb13 (rW (PTO (Option.map (fun _=>qm9 x10) x12))) (),cvar gb15 rS x14] (γ:=Unit) (fun q=>[cvar gb1 (rW (PTR gb6 0)) (),cvar gb6 (zq1 go8) ((),(qb2,(qg3,(qh4,(qd5,()))))),cqm go8 (S rS) Zaa (updF qm9 x14 (qm9 x10)) (some r),cvar gb11 rS x10,cvar gb13 (rW (PTR ((updF qm9 x14 (qm9 x10)) x14) 0)) (),cvar gb15 rS x14]) (fun q=>.tup []):=by
 unfold Zbg at hm
 refine Sim.of Try.func54 rfl rfl (lE rfl) (fun e0 w0=>?_)
 refine JC.at ⟨[(0,ov (PTR gb1 0)),(1,ov (PTR gb11 0)),(2,ov (PTR gb13 0)),(3,ov (PTR gb15 0))],[cvar gb1 (rW (PTR gb6 0)) (),cvar gb6 (zq1 go8) ((),(qb2,(qg3,(qh4,(qd5,()))))),cqm go8 (S rS) Zaa qm9 (some x7),cvar gb11 rS x10,cvar gb13 (rW (PTO (Option.map (fun _=>qm9 x10) x12))) (),cvar gb15 rS x14],[]⟩<|JC.seq ?_
 obtain ⟨u17,hv_u_17,hm⟩:=Zas hm
 refine JC.anyF (base:=[(0,ov (PTR gb1 0)),(1,ov (PTR gb11 0)),(2,ov (PTR gb13 0)),(3,ov (PTR gb15 0))])
     (fs:=fun γ=>[⟨some 4,ov (PTR gb6 0)⟩,⟨some 5,ov (PTR gb6 0)⟩,⟨some 6,ov (PTR gb6 (0 + 0))⟩,⟨some 7,ov (MPV go8)⟩,⟨some 8,ov (S rS x10)⟩,⟨none,.one .any⟩])
     (rs:=fun γ=>[⟨cvar gb1 (rW (PTR gb6 0)) (),none,none,[0]⟩,⟨cvar gb6 (zq1 go8) ((),(qb2,(qg3,(qh4,(qd5,()))))),none,none,[3]⟩,⟨cqm go8 (S rS) Zaa qm9 (some x7),none,(some 5),[]⟩,⟨cvar gb11 rS x10,none,none,[4]⟩,⟨cvar gb13 (rW (PTO (Option.map (fun _=>qm9 x10) x12))) (),none,none,[]⟩,⟨cvar gb15 rS x14,none,none,[]⟩,⟨cqm go8 (S rS) Zaa qm9 (some (mdel x10 x7)),(some 5),none,[]⟩,⟨cvar (qm9 x10) Zaa u17,(some 5),none,[]⟩])
     (afts:=nn 6) (js:=[0,0,0,0,0,0]) mixed (.cons rfl (.cons rfl (.cons rfl (.cons rfl .nil)))) (fun _=>rfl)
     (by
      refine dR 1 (fun γ ρ B hb hd=>Zag.lk ⟨ρ,(cvar gb1 (rW (PTR gb6 0)) ())::B,_⟩ (Zal (j:=0) lb tS25 (.tmp (hb 0 _ rfl)) rfl (Comp.self (rW (PTR gb6 0)) ())))<|dS 2 (fun γ ρ B hb hd=>Zae lb (tl hd 0 4) (fun e v h=>by subst h; rfl))<|dS 3 (fun γ ρ B hb hd=>Zad (off:=0) lb Zct (tl hd 1 5))<|dR 4 (fun γ ρ B hb hd=>Zag.lk ⟨ρ,(cvar gb6 (zq1 go8) ((),(qb2,(qg3,(qh4,(qd5,()))))))::B,_⟩ (Zal (j:=0) lb tS62 (tl hd 2 6) rfl (Comp.trans (Comp.self (zq1 go8) ((),(qb2,(qg3,(qh4,(qd5,())))))) (Comp.at' (Comp.inF (Comp.self (rW (MPV go8)) ()) (lE rfl)) (by rfl : _ = 0)) (lE rfl))))<|dR 5 (fun γ ρ B hb hd=>Zag.lk ⟨ρ,(cvar gb11 rS x10)::B,_⟩ (Zam (j:=0) lb tS9 (.tmp (hb 1 _ rfl)) rfl (Comp.self rS x10) rfl rfl)) ?_
      refine dR 6 (fun γ ρ B hb hd=>Zag.at ⟨ρ,(cqm go8 (S rS) Zaa qm9 (some x7))::B,_⟩ (setO ⟨ρ,(cqm go8 (S rS) Zaa qm9 (some (mdel x10 x7)))::(cvar (qm9 x10) Zaa u17)::B,_⟩ _ _) (ZhK (js:=[0]) rfl tu62 ky9 rfl (tl hd 3 7) (tl hd 4 8) (ZkP hv_u_17) rfl)) ?_
      exact Zat.nil)
     (by decide +kernel) (fun _=>rfl) (fun _=>rfl) (fun _=>rfl) rfl
     (ρ':=fun γ=>[(0,ov (PTR gb1 0)),(2,ov (PTR gb13 0)),(3,ov (PTR gb15 0))])
     (X':=fun γ=>[cvar gb1 (rW (PTR gb6 0)) (),cvar gb6 (zq1 go8) ((),(qb2,(qg3,(qh4,(qd5,()))))),cvar gb11 rS x10,cvar gb13 (rW (PTO (Option.map (fun _=>qm9 x10) x12))) (),cvar gb15 rS x14,cqm go8 (S rS) Zaa qm9 (some (mdel x10 x7)),cvar (qm9 x10) Zaa u17])
     (fun γ ρ hb hd=>(.cons (hb 0 _ rfl) (.cons (hb 2 _ rfl) (.cons (hb 3 _ rfl) .nil)))) (fun _=>rfl) (fun γ=>?_)
 refine JQ.at ⟨[(0,ov (PTR gb1 0)),(2,ov (PTR gb13 0)),(3,ov (PTR gb15 0))],[cvar gb1 (rW (PTR gb6 0)) (),cvar gb6 (zq1 go8) ((),(qb2,(qg3,(qh4,(qd5,()))))),cvar gb11 rS x10,cvar gb13 (rW (PTO (Option.map (fun _=>qm9 x10) x12))) (),cvar gb15 rS x14,cqm go8 (S rS) Zaa qm9 (some (mdel x10 x7)),cvar (qm9 x10) Zaa u17],[]⟩<|JQ.pre (Imp.var (j:=3) (q:=(rW (PTR (qm9 x10) 0))) (y:=()) rfl (Wk.w (Zk0 hv_u_17))) ?_
 refine JQ.then ?_
 obtain ⟨x18,hv_x_18,hm⟩:=Za2 hm
 refine JC.anyF (base:=[(0,ov (PTR gb1 0)),(2,ov (PTR gb13 0)),(3,ov (PTR gb15 0))])
     (fs:=fun γ=>[⟨some 9,ov (PTR gb6 0)⟩,⟨some 10,ov (PTR gb6 0)⟩,⟨some 11,ov (PTR gb6 (0 + 0))⟩,⟨some 12,ov (MPV go8)⟩,⟨some 13,ov (S rS x14)⟩,⟨some 14,ov (PTR (qm9 x10) 0)⟩,⟨none,.one .any⟩])
     (rs:=fun γ=>[⟨cvar gb1 (rW (PTR gb6 0)) (),none,none,[0]⟩,⟨cvar gb6 (zq1 go8) ((),(qb2,(qg3,(qh4,(qd5,()))))),none,none,[3]⟩,⟨cvar gb11 rS x10,none,none,[]⟩,⟨cvar gb13 (rW (PTR (qm9 x10) 0)) (),none,none,[5]⟩,⟨cvar gb15 rS x14,none,none,[4]⟩,⟨cqm go8 (S rS) Zaa qm9 (some (mdel x10 x7)),none,(some 6),[]⟩,⟨cvar (qm9 x10) Zaa u17,none,(some 6),[]⟩,⟨cqm go8 (S rS) Zaa (updF qm9 x14 (qm9 x10)) (some x18),(some 6),none,[]⟩])
     (afts:=nn 7) (js:=[0,0,0,0,0,0,0]) mixed (.cons rfl (.cons rfl (.cons rfl .nil))) (fun _=>rfl)
     (by
      refine dR 1 (fun γ ρ B hb hd=>Zag.lk ⟨ρ,(cvar gb1 (rW (PTR gb6 0)) ())::B,_⟩ (Zal (j:=0) lb tS25 (.tmp (hb 0 _ rfl)) rfl (Comp.self (rW (PTR gb6 0)) ())))<|dS 2 (fun γ ρ B hb hd=>Zae lb (tl hd 0 9) (fun e v h=>by subst h; rfl))<|dS 3 (fun γ ρ B hb hd=>Zad (off:=0) lb Zct (tl hd 1 10))<|dR 4 (fun γ ρ B hb hd=>Zag.lk ⟨ρ,(cvar gb6 (zq1 go8) ((),(qb2,(qg3,(qh4,(qd5,()))))))::B,_⟩ (Zal (j:=0) lb tS62 (tl hd 2 11) rfl (Comp.trans (Comp.self (zq1 go8) ((),(qb2,(qg3,(qh4,(qd5,())))))) (Comp.at' (Comp.inF (Comp.self (rW (MPV go8)) ()) (lE rfl)) (by rfl : _ = 0)) (lE rfl))))<|dR 5 (fun γ ρ B hb hd=>Zag.lk ⟨ρ,(cvar gb15 rS x14)::B,_⟩ (Zam (j:=0) lb tS9 (.tmp (hb 3 _ rfl)) rfl (Comp.self rS x14) rfl rfl)) ?_
      refine dR 6 (fun γ ρ B hb hd=>Zag.lk ⟨ρ,(cvar gb13 (rW (PTR (qm9 x10) 0)) ())::B,_⟩ (Zal (j:=0) lb tS69 (.tmp (hb 2 _ rfl)) rfl (Comp.self (rW (PTR (qm9 x10) 0)) ())))<|dR 7 (fun γ ρ B hb hd=>Zag.at ⟨ρ,(cqm go8 (S rS) Zaa qm9 (some (mdel x10 x7)))::(cvar (qm9 x10) Zaa u17)::B,_⟩ (setO ⟨ρ,(cqm go8 (S rS) Zaa (updF qm9 x14 (qm9 x10)) (some x18))::B,_⟩ _ _) (ZgD (js:=[0,0]) (.inl rfl) tu62 ky9 rfl Wk.refl (tl hd 3 12) (tl hd 4 13) (tl hd 5 14) (congrArg (fun z=>some (some z)) hv_x_18))) ?_
      exact Zat.nil)
     (by decide +kernel) (fun _=>rfl) (fun _=>rfl) (fun _=>rfl) rfl
     (ρ':=fun γ=>[])
     (X':=fun γ=>[cvar gb1 (rW (PTR gb6 0)) (),cvar gb6 (zq1 go8) ((),(qb2,(qg3,(qh4,(qd5,()))))),cvar gb11 rS x10,cvar gb13 (rW (PTR (qm9 x10) 0)) (),cvar gb15 rS x14,cqm go8 (S rS) Zaa (updF qm9 x14 (qm9 x10)) (some x18)])
     (fun γ ρ hb hd=>.nil) (fun _=>rfl) (fun γ=>?_)
 refine JQ.at ⟨[],[cvar gb1 (rW (PTR gb6 0)) (),cvar gb6 (zq1 go8) ((),(qb2,(qg3,(qh4,(qd5,()))))),cvar gb11 rS x10,cvar gb13 (rW (PTR (qm9 x10) 0)) (),cvar gb15 rS x14,cqm go8 (S rS) Zaa (updF qm9 x14 (qm9 x10)) (some x18)],[]⟩<|JQ.pre (Imp.var (j:=3) (q:=(rW (PTR ((updF qm9 x14 (qm9 x10)) x14) 0))) (y:=()) rfl (Wk.w Zkl)) ?_
 obtain rfl:=so hm
 refine JQ.pre (Imp.var (j:=1) (q:=(zq1 go8)) (y:=((),(qb2,(qg3,(qh4,(qd5,())))))) rfl Wk.refl) ?_
 exact JQ.done (js:=[0,0,3,0,0,0]) (ss:=[]) () (.inr rfl) (.nil rfl) rfl .nil rfl rfl rfl

theorem ZcF (k : Nat) (qb1 : Int) (fuse2 : Int) (qh3 : Bool) (qd4 : Int) (x6 : (List ((List UInt8) × Zaf))) (x10 : (List UInt8)) (x12 : (Option Zaf)) (x14 : (List UInt8)) (gb5 : Nat) (go7 : Option Nat) (qm8 : ((List UInt8) → Nat)) (gb9 : Nat) (gb11 : Nat) (gb13 : Nat) (gb15 : Nat) (r : Int × (List ((List UInt8) × Zaf)) × Int × Bool × Int × (List UInt8) × (Option Zaf)) (hm : ZaF k qb1 fuse2 qh3 qd4 x6 x10 x12 x14 = some r) : Sim Try.prog 53 [PTR gb5 0,CLO 54 [PTR gb9 0,PTR gb11 0,PTR gb13 0,PTR gb15 0],CLO 55 []] [cvar gb5 (zq1 go7) ((),(qb1,(fuse2,(qh3,(qd4,()))))),cqm go7 (S rS) Zaa qm8 (some x6),cvar gb9 (rW (PTR gb5 0)) (),cvar gb11 rS x10,cvar gb13 (rW (PTO (Option.map (fun _=>qm8 x10) x12))) (),cvar gb15 rS x14] (γ:=((List UInt8) → Nat)) (fun q=>[cvar gb5 (zq1 go7) ((),(qb1,(r.2.2.1,(r.2.2.2.1,(r.2.2.2.2.1,()))))),cqm go7 (S rS) Zaa q (some r.2.1),cvar gb9 (rW (PTR gb5 0)) (),cvar gb11 rS x10,cvar gb13 (rW (PTO (Option.map (fun _=>q r.2.2.2.2.2.1) r.2.2.2.2.2.2))) (),cvar gb15 rS x14]) (fun q=>.one (.val (S (rI .i64) r.1))):=by
 unfold ZaF at hm
 refine Sim.of Try.func53 rfl rfl (lE rfl) (fun e0 w0=>?_)
 refine JC.at ⟨[(0,ov (PTR gb5 0)),(1,ov (CLO 54 [PTR gb9 0,PTR gb11 0,PTR gb13 0,PTR gb15 0])),(2,ov (CLO 55 []))],[cvar gb5 (zq1 go7) ((),(qb1,(fuse2,(qh3,(qd4,()))))),cqm go7 (S rS) Zaa qm8 (some x6),cvar gb9 (rW (PTR gb5 0)) (),cvar gb11 rS x10,cvar gb13 (rW (PTO (Option.map (fun _=>qm8 x10) x12))) (),cvar gb15 rS x14],[]⟩<|jr<|jc (Zac lb .cI)<|jn<|JC.seq<|jr<|jmv rfl rfl<|jc (Zae lb tR (fun e v h=>by subst h; rfl))<|jc (Zad (off:=3) lb Zd0 tR)<|jc (Zam (j:=0) lb tS4 tR rfl (Comp.trans (Comp.self (zq1 go7) ((),(qb1,(fuse2,(qh3,(qd4,())))))) (Comp.at' (Comp.inS (Comp.inS (Comp.inS (Comp.inF (Comp.self rB qh3) (lE rfl))))) (by rfl : _ = 3)) (lE rfl)) rfl rfl)<|jn<|jif tR hm (fun hc1 hm=>?_) (fun hc1 hm=>?_)
 · refine jr<|jc (Zac lb .cI)<|jn<|JC.ret<|JQ.outR ?_
   obtain rfl:=so hm
   refine JQ.pre (Imp.var (j:=0) (q:=(zq1 go7)) (y:=((),(qb1,(fuse2,(qh3,(qd4,())))))) rfl Wk.refl) ?_
   exact JQ.done (js:=[0,0,0,0,0,0]) (ss:=[.val (S (rI .i64) (8 : Int))]) qm8 (.inl rfl) (.nil rfl) rfl (.cons (.tmp rfl) .nil) rfl rfl rfl
 refine JC.skip<|JQ.then<|jr<|jmv rfl rfl<|jc (Zae lb tR (fun e v h=>by subst h; rfl))<|jc (Zad (off:=4) lb ZdZ tR)<|jc (Zam (j:=0) lb tS3 tR rfl (Comp.trans (Comp.self (zq1 go7) ((),(qb1,(fuse2,(qh3,(qd4,())))))) (Comp.at' (Comp.inS (Comp.inS (Comp.inS (Comp.inS (Comp.inF (Comp.self (rI .i64) qd4) (lE rfl)))))) (by rfl : _ = 4)) (lE rfl)) rfl rfl)<|lI hm fun v16 hv16 hm=>jc (Zbx lb tR .cI (cs hv16))<|jc (Zae lb tR (fun e v h=>by subst h; rfl))<|jc (Zad (off:=4) lb ZdZ tR)<|JL.sub ⟨[(0,ov (PTR gb5 0)),(1,ov (CLO 54 [PTR gb9 0,PTR gb11 0,PTR gb13 0,PTR gb15 0])),(2,ov (CLO 55 [])),(15,ov (S (rI .i64) v16)),(17,ov (PTR gb5 (0 + 4)))],[cvar gb5 (zq1 go7) ((),(qb1,(fuse2,(qh3,(qd4,()))))),cqm go7 (S rS) Zaa qm8 (some x6),cvar gb9 (rW (PTR gb5 0)) (),cvar gb11 rS x10,cvar gb13 (rW (PTO (Option.map (fun _=>qm8 x10) x12))) (),cvar gb15 rS x14],[]⟩ (.cons rfl (.cons rfl (.cons rfl (.cons rfl (.cons rfl .nil))))) rfl rfl<|jc (ZaL (j:=0) tS3 tR tR rfl rfl ((UpdR.snd (UpdR.snd (UpdR.snd (UpdR.snd (UpdR.fst (UpdR.self (by rfl))))))).at (by change (1 + (1 + (1 + (1 + 0)))) = (0 + 4); omega)) rfl)<|jn<|JC.seq<|jr<|jmv rfl rfl<|jc (Zae lb tR (fun e v h=>by subst h; rfl))<|jc (Zad (off:=2) lb Zcs tR)<|jc (Zam (j:=0) lb tS3 tR rfl (Comp.trans (Comp.self (zq1 go7) ((),(qb1,(fuse2,(qh3,(v16,())))))) (Comp.at' (Comp.inS (Comp.inS (Comp.inF (Comp.self (rI .i64) fuse2) (lE rfl)))) (by rfl : _ = 2)) (lE rfl)) rfl rfl) ?_
 obtain ⟨v17,hv17,hm⟩:=Za2 hm
 refine jc (Zan lb tR .cI (cs hv17))<|jn<|jif tR hm (fun hc2 hm=>?_) (fun hc2 hm=>?_)
 · refine jr<|jmv rfl rfl<|jc (Zae lb tR (fun e v h=>by subst h; rfl))<|jc (Zad (off:=3) lb Zd0 tR)<|jc (ZaL (j:=0) tS4 tR .cB rfl rfl ((UpdR.snd (UpdR.snd (UpdR.snd (UpdR.fst (UpdR.self (by rfl)))))).at (by change (1 + (1 + (1 + 0))) = (0 + 3); omega)) rfl)<|JL.sub ⟨[(2,ov (CLO 55 []))],[cvar gb5 (zq1 go7) ((),(qb1,(fuse2,(true,(v16,()))))),cqm go7 (S rS) Zaa qm8 (some x6),cvar gb9 (rW (PTR gb5 0)) (),cvar gb11 rS x10,cvar gb13 (rW (PTO (Option.map (fun _=>qm8 x10) x12))) (),cvar gb15 rS x14],[]⟩ (.cons rfl .nil) rfl rfl<|jn<|jr<|jmv rfl rfl<|bI hm fun _ hv_u_18 hm=>jx (Zak (js:=[]) ld cl55 (ZcU k () hv_u_18) tR .nil rfl) fun _=>jn<|jr<|jc (Zac lb .cI)<|jn<|JC.ret<|JQ.outR ?_
   obtain rfl:=so hm
   refine JQ.pre (Imp.var (j:=0) (q:=(zq1 go7)) (y:=((),(qb1,(fuse2,(true,(v16,())))))) rfl Wk.refl) ?_
   exact JQ.done (js:=[0,0,0,0,0,0]) (ss:=[.val (S (rI .i64) (8 : Int))]) qm8 (.inl rfl) (.nil rfl) rfl (.cons (.tmp rfl) .nil) rfl rfl rfl
 refine JC.skip<|JQ.then<|bI hm fun x21 hx3 hq3=>JC.seqJ (γ:=Unit) (stj:=fun _=>⟨[(1,ov (CLO 54 [PTR gb9 0,PTR gb11 0,PTR gb13 0,PTR gb15 0]))],[cvar gb9 (rW (PTR gb5 0)) (),cvar gb5 (zq1 go7) ((),(qb1,(x21,(qh3,(v16,()))))),cqm go7 (S rS) Zaa qm8 (some x6),cvar gb11 rS x10,cvar gb13 (rW (PTO (Option.map (fun _=>qm8 x10) x12))) (),cvar gb15 rS x14],[]⟩) (fun _=>?_) ?_
 · refine jr<|jmv rfl rfl<|bI hq3 fun x22 hv_x_22 hq3=>jx (Zak (js:=[0,0,0,0,0,0]) ld cl54 (ZcI k qb1 x21 qh3 v16 x6 x10 x12 x14 gb9 gb5 go7 qm8 gb11 gb13 gb15 x22 hv_x_22) tR .nil rfl) fun _=>jn<|jr<|jc (Zac lb .cI)<|jn<|JC.ret ?_
   obtain rfl:=so hq3
   refine JQ.pre (Imp.var (j:=4) (q:=(rW (PTO (Option.map (fun _=>(updF qm8 x14 (qm8 x10)) x14) (some default : Option Zaf))))) (y:=()) rfl (Wk.w Zkt)) ?_
   exact JQ.done (js:=[1,1,0,0,0,0]) (ss:=[.val (S (rI .i64) (0 : Int))]) (updF qm8 x14 (qm8 x10)) (.inl rfl) (.nil rfl) rfl (.cons (.tmp rfl) .nil) rfl rfl rfl
 refine jr<|jmv rfl rfl<|jc (Zae lb tR (fun e v h=>by subst h; rfl))<|jc (Zad (off:=2) lb Zcs tR)<|jc (Zam (j:=0) lb tS3 tR rfl (Comp.trans (Comp.self (zq1 go7) ((),(qb1,(fuse2,(qh3,(v16,())))))) (Comp.at' (Comp.inS (Comp.inS (Comp.inF (Comp.self (rI .i64) fuse2) (lE rfl)))) (by rfl : _ = 2)) (lE rfl)) rfl rfl)<|JL.sub ⟨[(0,ov (PTR gb5 0)),(1,ov (CLO 54 [PTR gb9 0,PTR gb11 0,PTR gb13 0,PTR gb15 0])),(31,ov (S (rI .i64) fuse2))],[cvar gb5 (zq1 go7) ((),(qb1,(fuse2,(qh3,(v16,()))))),cqm go7 (S rS) Zaa qm8 (some x6),cvar gb9 (rW (PTR gb5 0)) (),cvar gb11 rS x10,cvar gb13 (rW (PTO (Option.map (fun _=>qm8 x10) x12))) (),cvar gb15 rS x14],[]⟩ (.cons rfl (.cons rfl (.cons rfl .nil))) rfl rfl<|lI hx3 fun v19 hv19 hx3=>jc (Zan lb tR .cI (cs hv19))<|jn<|jif tR hx3 (fun hc4 hx3=>?_) (fun hc4 hx3=>?_)
 · refine JC.region<|jmv rfl rfl<|jc (Zae lb tR (fun e v h=>by subst h; rfl))<|jc (Zad (off:=2) lb Zcs tR)<|jc (Zam (j:=0) lb tS3 tR rfl (Comp.trans (Comp.self (zq1 go7) ((),(qb1,(fuse2,(qh3,(v16,())))))) (Comp.at' (Comp.inS (Comp.inS (Comp.inF (Comp.self (rI .i64) fuse2) (lE rfl)))) (by rfl : _ = 2)) (lE rfl)) rfl rfl)<|lI hx3 fun v20 hv20 hx3=>jc (Zbx lb tR .cI (cs hv20))<|jc (Zae lb tR (fun e v h=>by subst h; rfl))<|jc (Zad (off:=2) lb Zcs tR)<|jc (ZaL (j:=0) tS3 tR tR rfl rfl ((UpdR.snd (UpdR.snd (UpdR.fst (UpdR.self (by rfl))))).at (by change (1 + (1 + 0)) = (0 + 2); omega)) rfl)<|JL.nil ?_
   try obtain rfl:=so hx3
   refine JQ.pre (Imp.var (j:=0) (q:=(zq1 go7)) (y:=((),(qb1,(v20,(qh3,(v16,())))))) rfl Wk.refl) ?_
   exact JQ.join () (Imp.norm (js:=[2,0,0,0,0,0]) rfl (.cons rfl .nil))
 refine JC.skip ?_
 try obtain rfl:=so hx3
 refine JQ.pre (Imp.var (j:=0) (q:=(zq1 go7)) (y:=((),(qb1,(fuse2,(qh3,(v16,())))))) rfl Wk.refl) ?_
 exact JQ.join () (Imp.norm (js:=[2,0,0,0,0,0]) rfl (.cons rfl .nil))

theorem Zck (k : Nat) (qn1 : (List UInt8)) (to2 : (List UInt8)) (qb3 : Int) (qg4 : Int) (qh5 : Bool) (qd6 : Int) (x8 : (List ((List UInt8) × Zaf))) (gb7 : Nat) (go9 : Option Nat) (qm10 : ((List UInt8) → Nat)) (r : Int × (List ((List UInt8) × Zaf)) × Int × Bool × Int) (hm : ZaV k qn1 to2 qb3 qg4 qh5 qd6 x8 = some r) : Sim Try.prog 29 [PTR gb7 0,S rS qn1,S rS to2] [cvar gb7 (zq1 go9) ((),(qb3,(qg4,(qh5,(qd6,()))))),cqm go9 (S rS) Zaa qm10 (some x8)] (γ:=((List UInt8) → Nat)) (fun q=>[cvar gb7 (zq1 go9) ((),(qb3,(r.2.2.1,(r.2.2.2.1,(r.2.2.2.2,()))))),cqm go9 (S rS) Zaa q (some r.2.1)]) (fun q=>.one (.val (S (rI .i64) r.1))):=by
 unfold ZaV at hm
 refine Sim.of Try.func29 rfl rfl (lE rfl) (fun e0 w0=>?_)
 refine JC.at ⟨[(0,ov (PTR gb7 0)),(1,ov (S rS qn1)),(2,ov (S rS to2))],[cvar gb7 (zq1 go9) ((),(qb3,(qg4,(qh5,(qd6,()))))),cqm go9 (S rS) Zaa qm10 (some x8)],[]⟩<|jr<|jx (Zd6 lb tR) fun gb11=>jx (ZdT lb tR) fun gb12=>jx (ZdT lb tR) fun gb13=>jc (Zac lb .cI)<|jn<|jr<|jc (Zal (j:=2) lb tS25 tR rfl (Comp.self (rW (PTR gb7 0)) ()))<|jc (Zam (j:=3) lb tS9 tR rfl (Comp.self rS qn1) rfl rfl)<|JL.sub ⟨[(3,ov (PTR gb11 0)),(4,ov (PTR gb12 0)),(5,ov (PTR gb13 0)),(10,ov (PTR gb7 0)),(11,ov (S rS qn1))],[cvar gb7 (zq1 go9) ((),(qb3,(qg4,(qh5,(qd6,()))))),cqm go9 (S rS) Zaa qm10 (some x8),cvar gb11 (rW (PTR gb7 0)) (),cvar gb12 rS qn1,cvar gb13 rS to2],[]⟩ (.cons rfl (.cons rfl (.cons rfl (.cons rfl (.cons rfl .nil))))) rfl rfl ?_
 obtain ⟨⟨v14,v15⟩,hv14,hm⟩:=Zas hm
 refine jx (Zak (js:=[0,0]) ld cl35 (Zbj k qn1 qb3 qg4 qh5 qd6 x8 gb7 go9 qm10 (v14,v15) hv14) .func (.cons tR (.cons tR .nil)) rfl) fun _=>jmv rfl rfl<|jc (Zao (i:=0) lb tR rfl)<|jc (Zao (i:=1) lb tR rfl)<|jx (Zcd lb tZ69 zr69) fun gb16=>jc (Zb4 (j:=5) tS69 tR tR rfl (UpdR.self (by rfl)) rfl)<|JL.sub ⟨[(3,ov (PTR gb11 0)),(4,ov (PTR gb12 0)),(5,ov (PTR gb13 0)),(7,ov (PTR gb16 0)),(14,ov (S (rI .i64) v15))],[cqm go9 (S rS) Zaa qm10 (some x8),cvar gb7 (zq1 go9) ((),(qb3,(qg4,(qh5,(qd6,()))))),cvar gb11 (rW (PTR gb7 0)) (),cvar gb12 rS qn1,cvar gb13 rS to2,cvar gb16 (rW (PTO (Option.map (fun _=>qm10 qn1) v14))) ()],[]⟩ (.cons rfl (.cons rfl (.cons rfl (.cons rfl (.cons rfl .nil))))) rfl rfl<|jc (Zac lb tR)<|jn<|JC.seq<|JC.block<|jr<|jmv rfl rfl<|lI hm fun v17 hv17 hm=>jc (Zan lb tR .cI (cs hv17))<|jc (Zac lb tR)<|jn ?_
 refine jif tR hm (fun hc1 hm=>?_) (fun hc1 hm=>?_)
 · refine jr<|jmv rfl rfl<|jc (Zac lb tR)<|jn<|JC.ret<|JQ.outRB<|JQ.outR ?_
   obtain rfl:=so hm
   exact JQ.done (js:=[1,0]) (ss:=[.val (S (rI .i64) v15)]) qm10 (.inl rfl) (.nil rfl) rfl (.cons (.tmp rfl) .nil) rfl rfl rfl
 refine jr<|jc (Zam (j:=4) lb tS9 tR rfl (Comp.self rS to2) rfl rfl)<|bI hm fun v18 hv18 hm=>jx (Zak (js:=[]) ld cl16 (ZcA k to2 v18 hv18) .func (.cons tR .nil) rfl) fun _=>lI hm fun v19 hv19 hm=>jc (Zce lb tR hv19)<|jc (Zac lb tR)<|jn<|jif tR hm (fun hc2 hm=>?_) (fun hc2 hm=>?_)
 · refine jr<|jc (Zac lb .cI)<|jn<|JC.ret<|JQ.outRB<|JQ.outR ?_
   obtain rfl:=so hm
   exact JQ.done (js:=[1,0]) (ss:=[.val (S (rI .i64) (2 : Int))]) qm10 (.inl rfl) (.nil rfl) rfl (.cons (.tmp rfl) .nil) rfl rfl rfl
 refine jr<|jmv rfl rfl<|lI hm fun v20 hv20 hm=>jc (Zan lb tR .cI (cs hv20))<|jc (Zac lb tR)<|jn<|jif tR hm (fun hc3 hm=>?_) (fun hc3 hm=>?_)
 · refine jr<|jmv rfl rfl<|JL.nrm ⟨[(26,ov (S (rI .i64) v15))],[cqm go9 (S rS) Zaa qm10 (some x8),cvar gb7 (zq1 go9) ((),(qb3,(qg4,(qh5,(qd6,())))))],[]⟩ [0,0] rfl (.cons rfl .nil) rfl<|jc (Zac lb tR)<|jn<|JC.ret<|JQ.outRB<|JQ.outR ?_
   obtain rfl:=so hm
   exact JQ.done (js:=[1,0]) (ss:=[.val (S (rI .i64) v15)]) qm10 (.inl rfl) (.nil rfl) rfl (.cons (.tmp rfl) .nil) rfl rfl rfl
 refine JC.skip<|JQ.outNB<|JQ.then<|jr<|jc (Zal (j:=2) lb tS25 tR rfl (Comp.self (rW (PTR gb7 0)) ()))<|JL.sub ⟨[(3,ov (PTR gb11 0)),(4,ov (PTR gb12 0)),(5,ov (PTR gb13 0)),(7,ov (PTR gb16 0)),(27,ov (PTR gb7 0))],[cqm go9 (S rS) Zaa qm10 (some x8),cvar gb7 (zq1 go9) ((),(qb3,(qg4,(qh5,(qd6,()))))),cvar gb11 (rW (PTR gb7 0)) (),cvar gb12 rS qn1,cvar gb13 rS to2,cvar gb16 (rW (PTO (Option.map (fun _=>qm10 qn1) v14))) ()],[]⟩ (.cons rfl (.cons rfl (.cons rfl (.cons rfl (.cons rfl .nil))))) rfl rfl<|jc (ZcH lb (.cons tR (.cons tR (.cons tR (.cons tR .nil))))) ?_
 obtain ⟨⟨v21,x22,x23,x24,x25,x26,x27⟩,hv21,hm⟩:=Zas hm
 refine jx (Zak (js:=[1,0,0,0,1,0]) ld cl53 (ZcF k qb3 qg4 qh5 qd6 x8 qn1 v14 to2 gb7 go9 qm10 gb11 gb12 gb16 gb13 (v21,x22,x23,x24,x25,x26,x27) hv21) .func (.cons tR (.cons tR (.cons .func .nil))) rfl) fun qm28=>jc (Zac lb tR)<|jn<|JC.ret ?_
 obtain rfl:=so hm
 exact JQ.done (js:=[0,0]) (ss:=[.val (S (rI .i64) v21)]) qm28 (.inl rfl) (.nil rfl) rfl (.cons (.tmp rfl) .nil) rfl rfl rfl

theorem ZdY (k : Nat) (qp1 : (List UInt8)) (x2 : (Option Zaf)) (x4 : (List ((List UInt8) × Zaf))) (x7 : Int) (gb3 : Nat) (go5 : Option Nat) (qm6 : ((List UInt8) → Nat)) (gb8 : Nat) (r : (List ((List UInt8) × Zaf))) (hm : ZbU k qp1 x2 x4 x7 = some r) : Sim Try.prog 57 [PTR gb3 0,PTR gb8 0] [cvar gb3 (rW (PTO (Option.map (fun _=>qm6 qp1) x2))) (),cqm go5 (S rS) Zaa qm6 (some x4),cvar gb8 (rI .i64) x7] (γ:=Unit) (fun q=>[cvar gb3 (rW (PTO (Option.map (fun _=>qm6 qp1) x2))) (),cqm go5 (S rS) Zaa qm6 (some r),cvar gb8 (rI .i64) x7]) (fun q=>.tup []):=by
 unfold ZbU at hm
 refine Sim.of Try.func57 rfl rfl (lE rfl) (fun e0 w0=>?_)
 refine JC.at ⟨[(0,ov (PTR gb3 0)),(1,ov (PTR gb8 0))],[cvar gb3 (rW (PTO (Option.map (fun _=>qm6 qp1) x2))) (),cqm go5 (S rS) Zaa qm6 (some x4),cvar gb8 (rI .i64) x7],[]⟩<|bI hm fun u9 hv_u_9 hm=>bI hm fun u10 hv_u_10 hm=>bI hm fun v11 hv11 hm=>bI hm fun u12 hv_u_12 hm=>bI hm fun u13 hv_u_13 hm=>lI hm fun v14 hv14 hm=>bI hm fun u15 hv_u_15 hm=>?_
 obtain ⟨x17,hv_x_17,hm⟩:=Zas hm
 refine bI hm fun u18 hv_u_18 hm=>?_
 obtain ⟨x20,hv_x_20,hm⟩:=Zas hm
 refine JC.anyF (base:=[(0,ov (PTR gb3 0)),(1,ov (PTR gb8 0))])
     (fs:=fun γ=>[⟨some 2,ov (PTO (Option.map (fun _=>qm6 qp1) x2))⟩,⟨some 3,ov (PTO (Option.map (fun _=>qm6 qp1) x2))⟩,⟨some 4,ov (PTO (Option.map (fun _=>qm6 qp1) x2))⟩,⟨some 5,ov (PTR (qm6 qp1) 0)⟩,⟨some 6,ov (PTR (qm6 qp1) (0 + 0))⟩,⟨some 7,ov (S (rL (rU UInt8)) u10.b)⟩,⟨some 8,ov (S (rI .i64) x7)⟩,⟨some 9,ov (S (rI .i64) x7)⟩,⟨some 10,ov (S (rLc (rU UInt8)) v11)⟩,⟨some 11,ov (S (rI .i64) x7)⟩,⟨some 12,ov (PTO (Option.map (fun _=>qm6 qp1) x2))⟩,⟨some 13,ov (PTR (qm6 qp1) 0)⟩,⟨some 14,ov (PTR (qm6 qp1) (0 + 1))⟩,⟨some 15,ov (S (rI .i64) u13.lasts)⟩,⟨some 16,ov (S (rI .i64) v14)⟩,⟨some 17,ov (PTR (qm6 qp1) 0)⟩,⟨some 18,ov (PTR (qm6 qp1) (0 + 0))⟩,⟨none,.one .any⟩,⟨some 19,ov (PTR (qm6 qp1) 0)⟩,⟨some 20,ov (PTR (qm6 qp1) (0 + 1))⟩,⟨none,.one .any⟩])
     (rs:=fun γ=>[⟨cvar gb3 (rW (PTO (Option.map (fun _=>qm6 qp1) x2))) (),none,none,[0,1,2,10]⟩,⟨cqm go5 (S rS) Zaa qm6 (some x4),none,(some 17),[5,13]⟩,⟨cvar gb8 (rI .i64) x7,none,none,[6,7,9]⟩,⟨cqm go5 (S rS) Zaa qm6 (some x17),(some 17),(some 20),[]⟩,⟨cqm go5 (S rS) Zaa qm6 (some x20),(some 20),none,[]⟩])
     (afts:=nn 21) (js:=[0,0,0]) mixed (.cons rfl (.cons rfl .nil)) (fun _=>rfl)
     (by
      refine dR 1 (fun γ ρ B hb hd=>Zag.lk ⟨ρ,(cvar gb3 (rW (PTO (Option.map (fun _=>qm6 qp1) x2))) ())::B,_⟩ (Zal (j:=0) lb tS69 (.tmp (hb 0 _ rfl)) rfl (Comp.self (rW (PTO (Option.map (fun _=>qm6 qp1) x2))) ())))<|dR 2 (fun γ ρ B hb hd=>Zag.lk ⟨ρ,(cvar gb3 (rW (PTO (Option.map (fun _=>qm6 qp1) x2))) ())::B,_⟩ (Zal (j:=0) lb tS69 (.tmp (hb 0 _ rfl)) rfl (Comp.self (rW (PTO (Option.map (fun _=>qm6 qp1) x2))) ())))<|dR 3 (fun γ ρ B hb hd=>Zag.lk ⟨ρ,(cvar gb3 (rW (PTO (Option.map (fun _=>qm6 qp1) x2))) ())::B,_⟩ (Zal (j:=0) lb tS69 (.tmp (hb 0 _ rfl)) rfl (Comp.self (rW (PTO (Option.map (fun _=>qm6 qp1) x2))) ())))<|dS 4 (fun γ ρ B hb hd=>Zae lb (HasO.wk (tl hd 2 4) (Zdp hv_u_9)) (fun e v h=>by subst h; rfl))<|dS 5 (fun γ ρ B hb hd=>Zad (off:=0) lb Zdh (tl hd 3 5)) ?_
      refine dR 6 (fun γ ρ B hb hd=>Zag.lk ⟨ρ,(cqm go5 (S rS) Zaa qm6 (some x4))::B,_⟩ (ZbC (j:=0) (m:=(some x4)) lb tS31 (tl hd 4 6) rfl hv_u_10 (cT (Za9 u10) rfl) rfl rfl))<|dR 7 (fun γ ρ B hb hd=>Zag.lk ⟨ρ,(cvar gb8 (rI .i64) x7)::B,_⟩ (Zam (j:=0) lb tS3 (.tmp (hb 1 _ rfl)) rfl (Comp.self (rI .i64) x7) rfl rfl))<|dR 8 (fun γ ρ B hb hd=>Zag.lk ⟨ρ,(cvar gb8 (rI .i64) x7)::B,_⟩ (Zam (j:=0) lb tS3 (.tmp (hb 1 _ rfl)) rfl (Comp.self (rI .i64) x7) rfl rfl))<|dS 9 (fun γ ρ B hb hd=>Zhz lb tu31 tz5 (tl hd 5 7) .none (.some (tl hd 6 8)) (.some (tl hd 7 9)) hv11)<|dR 10 (fun γ ρ B hb hd=>Zag.lk ⟨ρ,(cvar gb8 (rI .i64) x7)::B,_⟩ (Zam (j:=0) lb tS3 (.tmp (hb 1 _ rfl)) rfl (Comp.self (rI .i64) x7) rfl rfl)) ?_
      refine dR 11 (fun γ ρ B hb hd=>Zag.lk ⟨ρ,(cvar gb3 (rW (PTO (Option.map (fun _=>qm6 qp1) x2))) ())::B,_⟩ (Zal (j:=0) lb tS69 (.tmp (hb 0 _ rfl)) rfl (Comp.self (rW (PTO (Option.map (fun _=>qm6 qp1) x2))) ())))<|dS 12 (fun γ ρ B hb hd=>Zae lb (HasO.wk (tl hd 10 12) (Zdp hv_u_12)) (fun e v h=>by subst h; rfl))<|dS 13 (fun γ ρ B hb hd=>Zad (off:=1) lb ZeE (tl hd 11 13))<|dR 14 (fun γ ρ B hb hd=>Zag.lk ⟨ρ,(cqm go5 (S rS) Zaa qm6 (some x4))::B,_⟩ (ZbC (j:=0) (m:=(some x4)) lb tS3 (tl hd 12 14) rfl hv_u_13 (cT (Zbv u13) rfl) rfl rfl))<|dS 15 (fun γ ρ B hb hd=>ZfC lb (tl hd 9 11) (tl hd 13 15) hv14) ?_
      refine dS 16 (fun γ ρ B hb hd=>Zae lb (HasO.wk (tl hd 0 2) (Zdp hv_u_15)) (fun e v h=>by subst h; rfl))<|dS 17 (fun γ ρ B hb hd=>Zad (off:=0) lb Zdh (tl hd 15 17))<|dR 18 (fun γ ρ B hb hd=>Zag.at ⟨ρ,(cqm go5 (S rS) Zaa qm6 (some x4))::B,_⟩ (setO ⟨ρ,(cqm go5 (S rS) Zaa qm6 (some x17))::B,_⟩ _ _) (ZcV (j:=0) tS31 (tl hd 16 18) (HasO.wk (tl hd 8 10) wkC) rfl rfl (fun u=>(Upd.trans (Comp.self Zaa u) (Upd.self Zaa u _) (Zda u v11)).R) (Zdt hv_x_17)))<|dS 19 (fun γ ρ B hb hd=>Zae lb (HasO.wk (tl hd 1 3) (Zdp hv_u_18)) (fun e v h=>by subst h; rfl))<|dS 20 (fun γ ρ B hb hd=>Zad (off:=1) lb ZeE (tl hd 18 19)) ?_
      refine dR 21 (fun γ ρ B hb hd=>Zag.at ⟨ρ,(cqm go5 (S rS) Zaa qm6 (some x17))::B,_⟩ (setO ⟨ρ,(cqm go5 (S rS) Zaa qm6 (some x20))::B,_⟩ _ _) (ZcV (j:=0) tS3 (tl hd 19 20) (tl hd 14 16) rfl rfl (fun u=>(Upd.trans (Comp.self Zaa u) (Upd.self Zaa u _) (Zc1 u v14)).R) (Zdt hv_x_20))) ?_
      exact Zat.nil)
     (by decide +kernel) (fun _=>rfl) (fun _=>rfl) (fun _=>rfl) rfl
     (ρ':=fun γ=>[])
     (X':=fun γ=>[cvar gb3 (rW (PTO (Option.map (fun _=>qm6 qp1) x2))) (),cvar gb8 (rI .i64) x7,cqm go5 (S rS) Zaa qm6 (some x20)])
     (fun γ ρ hb hd=>.nil) (fun _=>rfl) (fun γ=>?_)
 refine JQ.at ⟨[],[cvar gb3 (rW (PTO (Option.map (fun _=>qm6 qp1) x2))) (),cvar gb8 (rI .i64) x7,cqm go5 (S rS) Zaa qm6 (some x20)],[]⟩ ?_
 obtain rfl:=so hm
 exact JQ.done (js:=[0,1,0]) (ss:=[]) () (.inr rfl) (.nil rfl) rfl .nil rfl rfl rfl

theorem ZcY (k : Nat) (qb1 : Int) (fuse2 : Int) (qh3 : Bool) (qd4 : Int) (x6 : (List ((List UInt8) × Zaf))) (qp9 : (List UInt8)) (x10 : (Option Zaf)) (x12 : Int) (gb5 : Nat) (go7 : Option Nat) (qm8 : ((List UInt8) → Nat)) (gb11 : Nat) (gb13 : Nat) (r : Int × (List ((List UInt8) × Zaf)) × Int × Bool × Int) (hm : ZaT k qb1 fuse2 qh3 qd4 x6 qp9 x10 x12 = some r) : Sim Try.prog 53 [PTR gb5 0,CLO 57 [PTR gb11 0,PTR gb13 0],CLO 55 []] [cvar gb5 (zq1 go7) ((),(qb1,(fuse2,(qh3,(qd4,()))))),cqm go7 (S rS) Zaa qm8 (some x6),cvar gb11 (rW (PTO (Option.map (fun _=>qm8 qp9) x10))) (),cvar gb13 (rI .i64) x12] (γ:=Unit) (fun q=>[cvar gb5 (zq1 go7) ((),(qb1,(r.2.2.1,(r.2.2.2.1,(r.2.2.2.2,()))))),cqm go7 (S rS) Zaa qm8 (some r.2.1),cvar gb11 (rW (PTO (Option.map (fun _=>qm8 qp9) x10))) (),cvar gb13 (rI .i64) x12]) (fun q=>.one (.val (S (rI .i64) r.1))):=by
 unfold ZaT at hm
 refine Sim.of Try.func53 rfl rfl (lE rfl) (fun e0 w0=>?_)
 refine JC.at ⟨[(0,ov (PTR gb5 0)),(1,ov (CLO 57 [PTR gb11 0,PTR gb13 0])),(2,ov (CLO 55 []))],[cvar gb5 (zq1 go7) ((),(qb1,(fuse2,(qh3,(qd4,()))))),cqm go7 (S rS) Zaa qm8 (some x6),cvar gb11 (rW (PTO (Option.map (fun _=>qm8 qp9) x10))) (),cvar gb13 (rI .i64) x12],[]⟩<|jr<|jc (Zac lb .cI)<|jn<|JC.seq<|jr<|jmv rfl rfl<|jc (Zae lb tR (fun e v h=>by subst h; rfl))<|jc (Zad (off:=3) lb Zd0 tR)<|jc (Zam (j:=0) lb tS4 tR rfl (Comp.trans (Comp.self (zq1 go7) ((),(qb1,(fuse2,(qh3,(qd4,())))))) (Comp.at' (Comp.inS (Comp.inS (Comp.inS (Comp.inF (Comp.self rB qh3) (lE rfl))))) (by rfl : _ = 3)) (lE rfl)) rfl rfl)<|jn<|jif tR hm (fun hc1 hm=>?_) (fun hc1 hm=>?_)
 · refine jr<|jc (Zac lb .cI)<|jn<|JC.ret<|JQ.outR ?_
   obtain rfl:=so hm
   refine JQ.pre (Imp.var (j:=0) (q:=(zq1 go7)) (y:=((),(qb1,(fuse2,(qh3,(qd4,())))))) rfl Wk.refl) ?_
   exact JQ.done (js:=[0,0,0,0]) (ss:=[.val (S (rI .i64) (8 : Int))]) () (.inl rfl) (.nil rfl) rfl (.cons (.tmp rfl) .nil) rfl rfl rfl
 refine JC.skip<|JQ.then<|jr<|jmv rfl rfl<|jc (Zae lb tR (fun e v h=>by subst h; rfl))<|jc (Zad (off:=4) lb ZdZ tR)<|jc (Zam (j:=0) lb tS3 tR rfl (Comp.trans (Comp.self (zq1 go7) ((),(qb1,(fuse2,(qh3,(qd4,())))))) (Comp.at' (Comp.inS (Comp.inS (Comp.inS (Comp.inS (Comp.inF (Comp.self (rI .i64) qd4) (lE rfl)))))) (by rfl : _ = 4)) (lE rfl)) rfl rfl)<|lI hm fun v14 hv14 hm=>jc (Zbx lb tR .cI (cs hv14))<|jc (Zae lb tR (fun e v h=>by subst h; rfl))<|jc (Zad (off:=4) lb ZdZ tR)<|JL.sub ⟨[(0,ov (PTR gb5 0)),(1,ov (CLO 57 [PTR gb11 0,PTR gb13 0])),(2,ov (CLO 55 [])),(15,ov (S (rI .i64) v14)),(17,ov (PTR gb5 (0 + 4)))],[cvar gb5 (zq1 go7) ((),(qb1,(fuse2,(qh3,(qd4,()))))),cqm go7 (S rS) Zaa qm8 (some x6),cvar gb11 (rW (PTO (Option.map (fun _=>qm8 qp9) x10))) (),cvar gb13 (rI .i64) x12],[]⟩ (.cons rfl (.cons rfl (.cons rfl (.cons rfl (.cons rfl .nil))))) rfl rfl<|jc (ZaL (j:=0) tS3 tR tR rfl rfl ((UpdR.snd (UpdR.snd (UpdR.snd (UpdR.snd (UpdR.fst (UpdR.self (by rfl))))))).at (by change (1 + (1 + (1 + (1 + 0)))) = (0 + 4); omega)) rfl)<|jn<|JC.seq<|jr<|jmv rfl rfl<|jc (Zae lb tR (fun e v h=>by subst h; rfl))<|jc (Zad (off:=2) lb Zcs tR)<|jc (Zam (j:=0) lb tS3 tR rfl (Comp.trans (Comp.self (zq1 go7) ((),(qb1,(fuse2,(qh3,(v14,())))))) (Comp.at' (Comp.inS (Comp.inS (Comp.inF (Comp.self (rI .i64) fuse2) (lE rfl)))) (by rfl : _ = 2)) (lE rfl)) rfl rfl) ?_
 obtain ⟨v15,hv15,hm⟩:=Za2 hm
 refine jc (Zan lb tR .cI (cs hv15))<|jn<|jif tR hm (fun hc2 hm=>?_) (fun hc2 hm=>?_)
 · refine jr<|jmv rfl rfl<|jc (Zae lb tR (fun e v h=>by subst h; rfl))<|jc (Zad (off:=3) lb Zd0 tR)<|jc (ZaL (j:=0) tS4 tR .cB rfl rfl ((UpdR.snd (UpdR.snd (UpdR.snd (UpdR.fst (UpdR.self (by rfl)))))).at (by change (1 + (1 + (1 + 0))) = (0 + 3); omega)) rfl)<|JL.sub ⟨[(2,ov (CLO 55 []))],[cvar gb5 (zq1 go7) ((),(qb1,(fuse2,(true,(v14,()))))),cqm go7 (S rS) Zaa qm8 (some x6),cvar gb11 (rW (PTO (Option.map (fun _=>qm8 qp9) x10))) (),cvar gb13 (rI .i64) x12],[]⟩ (.cons rfl .nil) rfl rfl<|jn<|jr<|jmv rfl rfl<|bI hm fun _ hv_u_16 hm=>jx (Zak (js:=[]) ld cl55 (ZcU k () hv_u_16) tR .nil rfl) fun _=>jn<|jr<|jc (Zac lb .cI)<|jn<|JC.ret<|JQ.outR ?_
   obtain rfl:=so hm
   refine JQ.pre (Imp.var (j:=0) (q:=(zq1 go7)) (y:=((),(qb1,(fuse2,(true,(v14,())))))) rfl Wk.refl) ?_
   exact JQ.done (js:=[0,0,0,0]) (ss:=[.val (S (rI .i64) (8 : Int))]) () (.inl rfl) (.nil rfl) rfl (.cons (.tmp rfl) .nil) rfl rfl rfl
 refine JC.skip<|JQ.then<|bI hm fun x19 hx3 hq3=>JC.seqJ (γ:=Unit) (stj:=fun _=>⟨[(1,ov (CLO 57 [PTR gb11 0,PTR gb13 0]))],[cvar gb11 (rW (PTO (Option.map (fun _=>qm8 qp9) x10))) (),cqm go7 (S rS) Zaa qm8 (some x6),cvar gb13 (rI .i64) x12,cvar gb5 (zq1 go7) ((),(qb1,(x19,(qh3,(v14,())))))],[]⟩) (fun _=>?_) ?_
 · refine jr<|jmv rfl rfl<|bI hq3 fun x20 hv_x_20 hq3=>jx (Zak (js:=[0,0,0]) ld cl57 (ZdY k qp9 x10 x6 x12 gb11 go7 qm8 gb13 x20 hv_x_20) tR .nil rfl) fun _=>jn<|jr<|jc (Zac lb .cI)<|jn<|JC.ret ?_
   obtain rfl:=so hq3
   exact JQ.done (js:=[3,1,0,0]) (ss:=[.val (S (rI .i64) (0 : Int))]) () (.inl rfl) (.nil rfl) rfl (.cons (.tmp rfl) .nil) rfl rfl rfl
 refine jr<|jmv rfl rfl<|jc (Zae lb tR (fun e v h=>by subst h; rfl))<|jc (Zad (off:=2) lb Zcs tR)<|jc (Zam (j:=0) lb tS3 tR rfl (Comp.trans (Comp.self (zq1 go7) ((),(qb1,(fuse2,(qh3,(v14,())))))) (Comp.at' (Comp.inS (Comp.inS (Comp.inF (Comp.self (rI .i64) fuse2) (lE rfl)))) (by rfl : _ = 2)) (lE rfl)) rfl rfl)<|JL.sub ⟨[(0,ov (PTR gb5 0)),(1,ov (CLO 57 [PTR gb11 0,PTR gb13 0])),(31,ov (S (rI .i64) fuse2))],[cvar gb5 (zq1 go7) ((),(qb1,(fuse2,(qh3,(v14,()))))),cqm go7 (S rS) Zaa qm8 (some x6),cvar gb11 (rW (PTO (Option.map (fun _=>qm8 qp9) x10))) (),cvar gb13 (rI .i64) x12],[]⟩ (.cons rfl (.cons rfl (.cons rfl .nil))) rfl rfl<|lI hx3 fun v17 hv17 hx3=>jc (Zan lb tR .cI (cs hv17))<|jn<|jif tR hx3 (fun hc4 hx3=>?_) (fun hc4 hx3=>?_)
 · refine JC.region<|jmv rfl rfl<|jc (Zae lb tR (fun e v h=>by subst h; rfl))<|jc (Zad (off:=2) lb Zcs tR)<|jc (Zam (j:=0) lb tS3 tR rfl (Comp.trans (Comp.self (zq1 go7) ((),(qb1,(fuse2,(qh3,(v14,())))))) (Comp.at' (Comp.inS (Comp.inS (Comp.inF (Comp.self (rI .i64) fuse2) (lE rfl)))) (by rfl : _ = 2)) (lE rfl)) rfl rfl)<|lI hx3 fun v18 hv18 hx3=>jc (Zbx lb tR .cI (cs hv18))<|jc (Zae lb tR (fun e v h=>by subst h; rfl))<|jc (Zad (off:=2) lb Zcs tR)<|jc (ZaL (j:=0) tS3 tR tR rfl rfl ((UpdR.snd (UpdR.snd (UpdR.fst (UpdR.self (by rfl))))).at (by change (1 + (1 + 0)) = (0 + 2); omega)) rfl)<|JL.nil ?_
   try obtain rfl:=so hx3
   refine JQ.pre (Imp.var (j:=0) (q:=(zq1 go7)) (y:=((),(qb1,(v18,(qh3,(v14,())))))) rfl Wk.refl) ?_
   exact JQ.join () (Imp.norm (js:=[2,1,1,0]) rfl (.cons rfl .nil))
 refine JC.skip ?_
 try obtain rfl:=so hx3
 refine JQ.pre (Imp.var (j:=0) (q:=(zq1 go7)) (y:=((),(qb1,(fuse2,(qh3,(v14,())))))) rfl Wk.refl) ?_
 exact JQ.join () (Imp.norm (js:=[2,1,1,0]) rfl (.cons rfl .nil))

theorem Zcz (k : Nat) (qn1 : (List UInt8)) (n2 : Int) (qb3 : Int) (qg4 : Int) (qh5 : Bool) (qd6 : Int) (x8 : (List ((List UInt8) × Zaf))) (gb7 : Nat) (go9 : Option Nat) (qm10 : ((List UInt8) → Nat)) (r : Int × (List ((List UInt8) × Zaf)) × Int × Bool × Int) (hm : ZaN k qn1 n2 qb3 qg4 qh5 qd6 x8 = some r) : Sim Try.prog 33 [PTR gb7 0,S rS qn1,S (rI .i64) n2] [cvar gb7 (zq1 go9) ((),(qb3,(qg4,(qh5,(qd6,()))))),cqm go9 (S rS) Zaa qm10 (some x8)] (γ:=Unit) (fun q=>[cvar gb7 (zq1 go9) ((),(qb3,(r.2.2.1,(r.2.2.2.1,(r.2.2.2.2,()))))),cqm go9 (S rS) Zaa qm10 (some r.2.1)]) (fun q=>.one (.val (S (rI .i64) r.1))):=by
 unfold ZaN at hm
 refine Sim.of Try.func33 rfl rfl (lE rfl) (fun e0 w0=>?_)
 refine JC.at ⟨[(0,ov (PTR gb7 0)),(1,ov (S rS qn1)),(2,ov (S (rI .i64) n2))],[cvar gb7 (zq1 go9) ((),(qb3,(qg4,(qh5,(qd6,()))))),cqm go9 (S rS) Zaa qm10 (some x8)],[]⟩<|jr<|jx (ZdT lb tR) fun gb11=>jc (Zac lb .cI)<|jn<|jr<|jmv rfl rfl<|jmv rfl rfl ?_
 obtain ⟨⟨v12,v13⟩,hv12,hm⟩:=Zas hm
 refine jx (Zak (js:=[0,0]) ld cl35 (Zbj k qn1 qb3 qg4 qh5 qd6 x8 gb7 go9 qm10 (v12,v13) hv12) .func (.cons tR (.cons tR .nil)) rfl) fun _=>jmv rfl rfl<|jc (Zao (i:=0) lb tR rfl)<|jc (Zao (i:=1) lb tR rfl)<|JL.sub ⟨[(0,ov (PTR gb7 0)),(5,ov (PTR gb11 0)),(13,ov (PTO (Option.map (fun _=>qm10 qn1) v12))),(14,ov (S (rI .i64) v13))],[cqm go9 (S rS) Zaa qm10 (some x8),cvar gb7 (zq1 go9) ((),(qb3,(qg4,(qh5,(qd6,()))))),cvar gb11 (rI .i64) n2],[]⟩ (.cons rfl (.cons rfl (.cons rfl (.cons rfl .nil)))) rfl rfl<|jx (Zcd lb tZ69 zr69) fun gb14=>jc (Zb4 (j:=3) tS69 tR tR rfl (UpdR.self (by rfl)) rfl)<|jc (Zac lb tR)<|jn<|JC.seq<|JC.block<|bI hm fun x18 hx1 hq1=>JC.seqJ (γ:=Unit) (stj:=fun _=>⟨[(0,ov (PTR gb7 0)),(5,ov (PTR gb11 0)),(7,ov (PTR gb14 0)),(8,ov (S (rI .i64) v13)),(15,ov (S rB x18))],[cvar gb7 (zq1 go9) ((),(qb3,(qg4,(qh5,(qd6,()))))),cqm go9 (S rS) Zaa qm10 (some x8),cvar gb11 (rI .i64) n2,cvar gb14 (rW (PTO (Option.map (fun _=>qm10 qn1) v12))) ()],[]⟩) (fun _=>?_) ?_
 · refine jif tR hq1 (fun hc5 hq1=>?_) (fun hc5 hq1=>?_)
   · refine jr<|jc (Zac lb .cI)<|jn<|JC.ret<|JQ.outRB<|JQ.outR ?_
     obtain rfl:=so hq1
     exact JQ.done (js:=[0,0]) (ss:=[.val (S (rI .i64) (2 : Int))]) () (.inl rfl) (.nil rfl) rfl (.cons (.tmp rfl) .nil) rfl rfl rfl
   refine jr<|jmv rfl rfl<|lI hq1 fun v19 hv19 hq1=>jc (Zan lb tR .cI (cs hv19))<|jc (Zac lb tR)<|jn<|jif tR hq1 (fun hc6 hq1=>?_) (fun hc6 hq1=>?_)
   · refine jr<|jmv rfl rfl<|jc (Zac lb tR)<|jn<|JC.ret<|JQ.outRB<|JQ.outR ?_
     obtain rfl:=so hq1
     exact JQ.done (js:=[0,0]) (ss:=[.val (S (rI .i64) v13)]) () (.inl rfl) (.nil rfl) rfl (.cons (.tmp rfl) .nil) rfl rfl rfl
   refine bI hq1 fun x24 hx7 hq7=>JC.seqJ (γ:=Unit) (stj:=fun _=>⟨[(0,ov (PTR gb7 0)),(5,ov (PTR gb11 0)),(7,ov (PTR gb14 0)),(26,ov (S rB x24))],[cvar gb7 (zq1 go9) ((),(qb3,(qg4,(qh5,(qd6,()))))),cqm go9 (S rS) Zaa qm10 (some x8),cvar gb11 (rI .i64) n2,cvar gb14 (rW (PTO (Option.map (fun _=>qm10 qn1) v12))) ()],[]⟩) (fun _=>?_) ?_
   · refine jif tR hq7 (fun hc11 hq7=>?_) (fun hc11 hq7=>?_)
     · refine jr<|jc (Zac lb .cI)<|jn<|JC.ret<|JQ.outRB<|JQ.outR ?_
       obtain rfl:=so hq7
       exact JQ.done (js:=[0,0]) (ss:=[.val (S (rI .i64) (2 : Int))]) () (.inl rfl) (.nil rfl) rfl (.cons (.tmp rfl) .nil) rfl rfl rfl
     refine JC.skip<|JQ.outNB<|JQ.then<|jr<|jmv rfl rfl<|jc (ZcH lb (.cons tR (.cons tR .nil))) ?_
     obtain ⟨⟨v25,x26,x27,x28,x29⟩,hv25,hq7⟩:=Zas hq7
     refine jx (Zak (js:=[0,0,1,0]) ld cl53 (ZcY k qb3 qg4 qh5 qd6 x8 qn1 v12 n2 gb7 go9 qm10 gb14 gb11 (v25,x26,x27,x28,x29) hv25) .func (.cons tR (.cons tR (.cons .func .nil))) rfl) fun _=>jc (Zac lb tR)<|jn<|JC.ret ?_
     obtain rfl:=so hq7
     exact JQ.done (js:=[0,0]) (ss:=[.val (S (rI .i64) v25)]) () (.inl rfl) (.nil rfl) rfl (.cons (.tmp rfl) .nil) rfl rfl rfl
   obtain ⟨v20,hv20,hx7⟩:=Za2 hx7
   rcases Zbc hx7 with ⟨hc10,hx7⟩ | ⟨hc10,hx7⟩
   · refine JC.anyF (base:=[(0,ov (PTR gb7 0)),(5,ov (PTR gb11 0)),(7,ov (PTR gb14 0))])
         (fs:=fun γ=>[⟨some 27,ov (S (rI .i64) n2)⟩,⟨some 28,ov (S rB v20)⟩,⟨some 29,ov (S rB v20)⟩,⟨some 30,bif (!v20) then ov (S (rI .i64) n2) else .one .und⟩,⟨some 31,.one .und⟩,⟨some 32,.one .und⟩,⟨some 33,.one .und⟩,⟨some 34,.one .und⟩,⟨some 35,.one .und⟩,⟨some 36,.one .und⟩,⟨some 37,ov (S rB true)⟩,⟨some 26,ov (S rB true)⟩])
         (rs:=fun γ=>[⟨cvar gb7 (zq1 go9) ((),(qb3,(qg4,(qh5,(qd6,()))))),none,none,[]⟩,⟨cqm go9 (S rS) Zaa qm10 (some x8),none,none,[]⟩,⟨cvar gb11 (rI .i64) n2,none,none,[0,3]⟩,⟨cvar gb14 (rW (PTO (Option.map (fun _=>qm10 qn1) v12))) (),none,none,[]⟩])
         (afts:=nn 12) (js:=[0,0,0,0]) mixed (.cons rfl (.cons rfl (.cons rfl .nil))) (fun _=>rfl)
         (by
      refine dR 1 (fun γ ρ B hb hd=>Zag.lk ⟨ρ,(cvar gb11 (rI .i64) n2)::B,_⟩ (Zam (j:=0) lb tS3 (.tmp (hb 5 _ rfl)) rfl (Comp.self (rI .i64) n2) rfl rfl))<|dS 2 (fun γ ρ B hb hd=>Zan lb (tl hd 0 27) .cI (cs hv20))<|dm 3 1 28 ?_
      refine eF 4 2 29 v20 (fun γ=>ov (S (rI .i64) n2)) (fun γ ρ B hb hd hq8=>Zag.lk ⟨ρ,(cvar gb11 (rI .i64) n2)::B,_⟩ (Zam (j:=0) lb tS3 (.tmp (hb 5 _ rfl)) rfl (Comp.self (rI .i64) n2) rfl rfl)) ?_
      refine kn 5 2 29 rfl hc10<|kn 6 2 29 rfl hc10<|kn 7 2 29 rfl hc10<|kn 8 2 29 rfl hc10<|kn 9 2 29 rfl hc10 ?_
      refine kn 10 2 29 rfl hc10<|dS 11 (fun γ ρ B hb hd=>Zaw lb (tl hd 2 29) hc10 .cB)<|dS 12 (fun γ ρ B hb hd=>Zac lb (tl hd 10 37)) ?_
      exact Zat.nil)
         (by decide +kernel) (fun _=>rfl) (fun _=>rfl) (fun _=>rfl) rfl
         (ρ':=fun γ=>[(0,ov (PTR gb7 0)),(5,ov (PTR gb11 0)),(7,ov (PTR gb14 0)),(26,ov (S rB true))])
         (X':=fun γ=>[cvar gb7 (zq1 go9) ((),(qb3,(qg4,(qh5,(qd6,()))))),cqm go9 (S rS) Zaa qm10 (some x8),cvar gb11 (rI .i64) n2,cvar gb14 (rW (PTO (Option.map (fun _=>qm10 qn1) v12))) ()])
         (fun γ ρ hb hd=>(.cons (hb 0 _ rfl) (.cons (hb 5 _ rfl) (.cons (hb 7 _ rfl) (.cons (hdq hd 11 26 rfl) .nil))))) (fun _=>rfl) (fun γ=>?_)
     refine JQ.at ⟨[(0,ov (PTR gb7 0)),(5,ov (PTR gb11 0)),(7,ov (PTR gb14 0)),(26,ov (S rB true))],[cvar gb7 (zq1 go9) ((),(qb3,(qg4,(qh5,(qd6,()))))),cqm go9 (S rS) Zaa qm10 (some x8),cvar gb11 (rI .i64) n2,cvar gb14 (rW (PTO (Option.map (fun _=>qm10 qn1) v12))) ()],[]⟩ ?_
     try obtain rfl:=so hx7
     exact JQ.join () (Imp.norm (js:=[0,0,0,0]) rfl (.cons rfl (.cons rfl (.cons rfl (.cons rfl .nil)))))
   refine bI hx7 fun u21 hv_u_21 hx7=>bI hx7 fun u22 hv_u_22 hx7=>?_
   obtain ⟨v23,hv23,hx7⟩:=Za2 hx7
   refine JC.anyF (base:=[(0,ov (PTR gb7 0)),(5,ov (PTR gb11 0)),(7,ov (PTR gb14 0))])
       (fs:=fun γ=>[⟨some 27,ov (S (rI .i64) n2)⟩,⟨some 28,ov (S rB v20)⟩,⟨some 29,ov (S rB v20)⟩,⟨some 30,bif (!v20) then ov (S (rI .i64) n2) else .one .und⟩,⟨some 31,ov (PTO (Option.map (fun _=>qm10 qn1) v12))⟩,⟨some 32,ov (PTR (qm10 qn1) 0)⟩,⟨some 33,ov (PTR (qm10 qn1) (0 + 0))⟩,⟨some 34,ov (S (rL (rU UInt8)) u22.b)⟩,⟨some 35,ov (S (rI .i64) (List.length u22.b : Int))⟩,⟨some 36,ov (S rB v23)⟩,⟨some 37,ov (S rB v23)⟩,⟨some 26,ov (S rB v23)⟩])
       (rs:=fun γ=>[⟨cvar gb7 (zq1 go9) ((),(qb3,(qg4,(qh5,(qd6,()))))),none,none,[]⟩,⟨cqm go9 (S rS) Zaa qm10 (some x8),none,none,[7]⟩,⟨cvar gb11 (rI .i64) n2,none,none,[0,3]⟩,⟨cvar gb14 (rW (PTO (Option.map (fun _=>qm10 qn1) v12))) (),none,none,[4]⟩])
       (afts:=nn 12) (js:=[0,0,0,0]) mixed (.cons rfl (.cons rfl (.cons rfl .nil))) (fun _=>rfl)
       (by
      refine dR 1 (fun γ ρ B hb hd=>Zag.lk ⟨ρ,(cvar gb11 (rI .i64) n2)::B,_⟩ (Zam (j:=0) lb tS3 (.tmp (hb 5 _ rfl)) rfl (Comp.self (rI .i64) n2) rfl rfl))<|dS 2 (fun γ ρ B hb hd=>Zan lb (tl hd 0 27) .cI (cs hv20))<|dm 3 1 28 ?_
      refine eF 4 2 29 v20 (fun γ=>ov (S (rI .i64) n2)) (fun γ ρ B hb hd hq8=>Zag.lk ⟨ρ,(cvar gb11 (rI .i64) n2)::B,_⟩ (Zam (j:=0) lb tS3 (.tmp (hb 5 _ rfl)) rfl (Comp.self (rI .i64) n2) rfl rfl)) ?_
      refine dY 5 (fun γ ρ B hb hd=>⟨.yes rfl (ltB rfl) (hl hd 2 29 rfl) hc10,Zag.lk ⟨ρ,(cvar gb14 (rW (PTO (Option.map (fun _=>qm10 qn1) v12))) ())::B,_⟩ (Zal (j:=0) lb tS69 (.tmp (hb 7 _ rfl)) rfl (Comp.self (rW (PTO (Option.map (fun _=>qm10 qn1) v12))) ()))⟩)<|dY 6 (fun γ ρ B hb hd=>⟨.yes rfl (ltB rfl) (hl hd 2 29 rfl) hc10,lkB (Zae lb (HasO.wk (tl hd 4 31) (Zdp hv_u_21)) (fun e v h=>by subst h; rfl))⟩)<|dY 7 (fun γ ρ B hb hd=>⟨.yes rfl (ltB rfl) (hl hd 2 29 rfl) hc10,lkB (Zad (off:=0) lb Zdh (tl hd 5 32))⟩)<|dY 8 (fun γ ρ B hb hd=>⟨.yes rfl (ltB rfl) (hl hd 2 29 rfl) hc10,Zag.lk ⟨ρ,(cqm go9 (S rS) Zaa qm10 (some x8))::B,_⟩ (ZbC (j:=0) (m:=(some x8)) lb tS31 (tl hd 6 33) rfl hv_u_22 (cT (Za9 u22) rfl) rfl rfl)⟩)<|dY 9 (fun γ ρ B hb hd=>⟨.yes rfl (ltB rfl) (hl hd 2 29 rfl) hc10,lkB (Zcc lb tu31 (tl hd 7 34))⟩) ?_
      refine dY 10 (fun γ ρ B hb hd=>⟨.yes rfl (ltB rfl) (hl hd 2 29 rfl) hc10,lkB (Zan lb (HasO.cnd (tl hd 3 30) (notT hc10)) (tl hd 8 35) (cs hv23))⟩)<|dS 11 (fun γ ρ B hb hd=>Zar lb (tl hd 2 29) hc10 (tl hd 9 36))<|dS 12 (fun γ ρ B hb hd=>Zac lb (tl hd 10 37)) ?_
      exact Zat.nil)
       (by decide +kernel) (fun _=>rfl) (fun _=>rfl) (fun _=>rfl) rfl
       (ρ':=fun γ=>[(0,ov (PTR gb7 0)),(5,ov (PTR gb11 0)),(7,ov (PTR gb14 0)),(26,ov (S rB v23))])
       (X':=fun γ=>[cvar gb7 (zq1 go9) ((),(qb3,(qg4,(qh5,(qd6,()))))),cqm go9 (S rS) Zaa qm10 (some x8),cvar gb11 (rI .i64) n2,cvar gb14 (rW (PTO (Option.map (fun _=>qm10 qn1) v12))) ()])
       (fun γ ρ hb hd=>(.cons (hb 0 _ rfl) (.cons (hb 5 _ rfl) (.cons (hb 7 _ rfl) (.cons (hdq hd 11 26 rfl) .nil))))) (fun _=>rfl) (fun γ=>?_)
   refine JQ.at ⟨[(0,ov (PTR gb7 0)),(5,ov (PTR gb11 0)),(7,ov (PTR gb14 0)),(26,ov (S rB v23))],[cvar gb7 (zq1 go9) ((),(qb3,(qg4,(qh5,(qd6,()))))),cqm go9 (S rS) Zaa qm10 (some x8),cvar gb11 (rI .i64) n2,cvar gb14 (rW (PTO (Option.map (fun _=>qm10 qn1) v12))) ()],[]⟩ ?_
   try obtain rfl:=so hx7
   exact JQ.join () (Imp.norm (js:=[0,0,0,0]) rfl (.cons rfl (.cons rfl (.cons rfl (.cons rfl .nil)))))
 refine JC.region<|jmv rfl rfl<|lI hx1 fun v15 hv15 hx1=>jc (Zan lb tR .cI (cs hv15))<|jmv rfl rfl<|jT (ov (S (rI .i64) n2)) rfl rfl rfl rfl (fun hq2=>Zam (j:=2) lb tS3 tR rfl (Comp.self (rI .i64) n2) rfl rfl)<|lI hx1 fun v16 hv16 hx1=>jT (ov (S rB v16)) rfl rfl rfl rfl (fun hq_3=>Zan lb (HasO.cnd tR hq_3) .cI (cs hv16))<|JL.sub ⟨[(0,ov (PTR gb7 0)),(5,ov (PTR gb11 0)),(7,ov (PTR gb14 0)),(8,ov (S (rI .i64) v13)),(18,ov (S rB v15)),(20,bif v15 then ov (S rB v16) else .one .und)],[cqm go9 (S rS) Zaa qm10 (some x8),cvar gb7 (zq1 go9) ((),(qb3,(qg4,(qh5,(qd6,()))))),cvar gb11 (rI .i64) n2,cvar gb14 (rW (PTO (Option.map (fun _=>qm10 qn1) v12))) ()],[]⟩ (.cons rfl (.cons rfl (.cons rfl (.cons rfl (.cons rfl (.cons rfl .nil)))))) rfl rfl<|lI hx1 fun v17 hv17 hx1=>jc (Za8 lb tR (fun hb4=>(HasO.cnd tR hb4)) (fun hb4=>.cB) hv17)<|jc (Zac lb tR)<|JL.nil ?_
 try obtain rfl:=so hx1
 exact JQ.join () (Imp.norm (js:=[1,0,0,0]) rfl (.cons rfl (.cons rfl (.cons rfl (.cons rfl (.cons rfl .nil))))))

end Go.Proofs.Ytipchpbcjkhnaaa
