/- Walks. -/
import Derived.Test.YtipchpbcjkhnaaaT
import Derived.Test.YtipchpbcjkhnaaaW0
namespace Go.Proofs.Ytipchpbcjkhnaaa
open Go Fw
set_option linter.unusedVariables false
set_option maxRecDepth 100000
set_option maxHeartbeats 4000000

theorem Zbn (k : Nat) (qn1 : (List UInt8)) (b2 : (List UInt8)) (qb3 : Int) (qg4 : Int) (qh5 : Bool) (qd6 : Int) (x8 : (List ((List UInt8) × Zaf))) (gb7 : Nat) (go9 : Option Nat) (qm10 : ((List UInt8) → Nat)) (r : Int × (List ((List UInt8) × Zaf)) × Int × Bool × Int) (hm : Zau k qn1 b2 qb3 qg4 qh5 qd6 x8 = some r) : Sim Try.prog 28 [PTR gb7 0,S rS qn1,S (rL (rU UInt8)) b2] [cvar gb7 (zq1 go9) ((),(qb3,(qg4,(qh5,(qd6,()))))),cqm go9 (S rS) Zaa qm10 (some x8)] (γ:=((List UInt8) → Nat)) (fun q=>[cvar gb7 (zq1 go9) ((),(qb3,(r.2.2.1,(r.2.2.2.1,(r.2.2.2.2,()))))),cqm go9 (S rS) Zaa q (some r.2.1)]) (fun q=>.one (.val (S (rI .i64) r.1))):=by
 unfold Zau at hm
 refine Sim.of Try.func28 rfl rfl (lE rfl) (fun e0 w0=>?_)
 refine JC.at ⟨[(0,ov (PTR gb7 0)),(1,ov (S rS qn1)),(2,ov (S (rL (rU UInt8)) b2))],[cvar gb7 (zq1 go9) ((),(qb3,(qg4,(qh5,(qd6,()))))),cqm go9 (S rS) Zaa qm10 (some x8)],[]⟩<|jr<|jx (Zd6 lb tR) fun gb11=>jx (ZdT lb tR) fun gb12=>jx (ZdT lb tR) fun gb13=>jc (Zac lb .cI)<|jn<|JC.seq<|JC.block<|jr<|jc (Zal (j:=2) lb tS25 tR rfl (Comp.self (rW (PTR gb7 0)) ()))<|bI hm fun _ hv_u_14 hm=>jx (Zak (js:=[0,0]) ld cl34 (ZaA k qb3 qg4 qh5 qd6 x8 gb7 go9 qm10 () hv_u_14) .func (.cons tR .nil) rfl) (fun _=>?_)
 refine JL.sub ⟨[(3,ov (PTR gb11 0)),(4,ov (PTR gb12 0)),(5,ov (PTR gb13 0)),(11,ov (S rB true))],[cvar gb7 (zq1 go9) ((),(qb3,(qg4,(qh5,(qd6,()))))),cqm go9 (S rS) Zaa qm10 (some x8),cvar gb11 (rW (PTR gb7 0)) (),cvar gb12 rS qn1,cvar gb13 (rL (rU UInt8)) b2],[]⟩ (.cons rfl (.cons rfl (.cons rfl (.cons rfl .nil)))) rfl rfl<|jc (Zce lb tR rfl)<|jc (Zac lb tR)<|jn<|JC.condF tR rfl<|jr<|jc (Zam (j:=3) lb tS9 tR rfl (Comp.self rS qn1) rfl rfl)<|bI hm fun v15 hv15 hm=>jx (Zak (js:=[]) ld cl16 (ZcA k qn1 v15 hv15) .func (.cons tR .nil) rfl) fun _=>lI hm fun v16 hv16 hm=>jc (Zce lb tR hv16)<|jc (Zac lb tR)<|jn<|jif tR hm (fun hc1 hm=>?_) (fun hc1 hm=>?_)
 · refine jr<|jc (Zac lb .cI)<|jn<|JC.ret<|JQ.outRB<|JQ.outR ?_
   obtain rfl:=so hm
   exact JQ.done (js:=[0,0]) (ss:=[.val (S (rI .i64) (2 : Int))]) qm10 (.inl rfl) (.nil rfl) rfl (.cons (.tmp rfl) .nil) rfl rfl rfl
 refine JC.skip<|JQ.outNB<|JQ.then<|JC.seq ?_
 obtain ⟨f17,hv_f_17,hm⟩:=Za2 hm
 refine JC.anyF (base:=[(3,ov (PTR gb11 0)),(4,ov (PTR gb12 0)),(5,ov (PTR gb13 0))])
     (fs:=fun γ=>[⟨some 17,ov (PTR gb7 0)⟩,⟨some 18,ov (PTR gb7 0)⟩,⟨some 19,ov (PTR gb7 (0 + 0))⟩,⟨some 20,ov (MPV go9)⟩,⟨some 21,ov (S rS qn1)⟩,⟨some 22,ov (PTO (Option.map (fun _=>qm10 qn1) f17))⟩,⟨some 7,ov (PTR (γ 6 0) 0)⟩,⟨none,.one .any⟩])
     (rs:=fun γ=>[⟨cvar gb7 (zq1 go9) ((),(qb3,(qg4,(qh5,(qd6,()))))),none,none,[3]⟩,⟨cqm go9 (S rS) Zaa qm10 (some x8),none,none,[5]⟩,⟨cvar gb11 (rW (PTR gb7 0)) (),none,none,[0]⟩,⟨cvar gb12 rS qn1,none,none,[4]⟩,⟨cvar gb13 (rL (rU UInt8)) b2,none,none,[]⟩,⟨cvar (γ 6 0) (rW (PTO none)) (),(some 6),(some 7),[]⟩,⟨cvar (γ 6 0) (rW (PTO (Option.map (fun _=>qm10 qn1) f17))) (),(some 7),none,[]⟩])
     (afts:=[[],[],[],[],[],[],[6,7],[]]) (js:=[0,0,0,0,0]) mixed (.cons rfl (.cons rfl (.cons rfl .nil))) (fun _=>rfl)
     (by
      refine dR 1 (fun γ ρ B hb hd=>Zag.lk ⟨ρ,(cvar gb11 (rW (PTR gb7 0)) ())::B,_⟩ (Zal (j:=0) lb tS25 (.tmp (hb 3 _ rfl)) rfl (Comp.self (rW (PTR gb7 0)) ())))<|dS 2 (fun γ ρ B hb hd=>Zae lb (tl hd 0 17) (fun e v h=>by subst h; rfl))<|dS 3 (fun γ ρ B hb hd=>Zad (off:=0) lb Zct (tl hd 1 18))<|dR 4 (fun γ ρ B hb hd=>Zag.lk ⟨ρ,(cvar gb7 (zq1 go9) ((),(qb3,(qg4,(qh5,(qd6,()))))))::B,_⟩ (Zal (j:=0) lb tS62 (tl hd 2 19) rfl (Comp.trans (Comp.self (zq1 go9) ((),(qb3,(qg4,(qh5,(qd6,())))))) (Comp.at' (Comp.inF (Comp.self (rW (MPV go9)) ()) (lE rfl)) (by rfl : _ = 0)) (lE rfl))))<|dR 5 (fun γ ρ B hb hd=>Zag.lk ⟨ρ,(cvar gb12 rS qn1)::B,_⟩ (Zam (j:=0) lb tS9 (.tmp (hb 4 _ rfl)) rfl (Comp.self rS qn1) rfl rfl)) ?_
      refine dR 6 (fun γ ρ B hb hd=>Zag.lk ⟨ρ,(cqm go9 (S rS) Zaa qm10 (some x8))::B,_⟩ (Zc5 (j:=0) lb tu62 ky9 tZ69 rfl rfl (tl hd 3 20) (tl hd 4 21) hv_f_17)) ?_
      refine Zat.cons (j:=7) rfl (fun _=>rfl) (.runX (fun _ _=>rfl) (fun γ ρ B hb hd=>⟨.none,OpX.ghost (γ:=Nat) (st':=fun q=>setO ⟨ρ,(cvar q (rW (PTO none)) ())::B,_⟩ (some 7) (ov (PTR q 0))) (fun q c=>q) (OpX.front (Zcd lb tZ69 zr69)) (fun q=>Imp.refl)⟩) (fun _ _=>rfl) (fun _ _=>rfl)) ?_
      refine dR 8 (fun γ ρ B hb hd=>Zag.at ⟨ρ,(cvar (γ 6 0) (rW (PTO none)) ())::B,_⟩ (setO ⟨ρ,(cvar (γ 6 0) (rW (PTO (Option.map (fun _=>qm10 qn1) f17))) ())::B,_⟩ _ _) (Zb4 (j:=0) tS69 (tl hd 6 7) (tl hd 5 22) rfl (UpdR.self (by rfl)) rfl)) ?_
      exact Zat.nil)
     (by decide +kernel) (fun _=>rfl) (fun _=>rfl) (fun _=>rfl) rfl
     (ρ':=fun γ=>[(3,ov (PTR gb11 0)),(4,ov (PTR gb12 0)),(5,ov (PTR gb13 0)),(7,ov (PTR (γ 6 0) 0))])
     (X':=fun γ=>[cvar gb7 (zq1 go9) ((),(qb3,(qg4,(qh5,(qd6,()))))),cqm go9 (S rS) Zaa qm10 (some x8),cvar gb11 (rW (PTR gb7 0)) (),cvar gb12 rS qn1,cvar gb13 (rL (rU UInt8)) b2,cvar (γ 6 0) (rW (PTO (Option.map (fun _=>qm10 qn1) f17))) ()])
     (fun γ ρ hb hd=>(.cons (hb 3 _ rfl) (.cons (hb 4 _ rfl) (.cons (hb 5 _ rfl) (.cons (hdq hd 6 7 rfl) .nil))))) (fun _=>rfl) (fun γ=>?_)
 generalize (γ 6 0) = gb18
 clear γ
 refine JQ.at ⟨[(3,ov (PTR gb11 0)),(4,ov (PTR gb12 0)),(5,ov (PTR gb13 0)),(7,ov (PTR gb18 0))],[cvar gb7 (zq1 go9) ((),(qb3,(qg4,(qh5,(qd6,()))))),cqm go9 (S rS) Zaa qm10 (some x8),cvar gb11 (rW (PTR gb7 0)) (),cvar gb12 rS qn1,cvar gb13 (rL (rU UInt8)) b2,cvar gb18 (rW (PTO (Option.map (fun _=>qm10 qn1) f17))) ()],[]⟩<|JQ.then<|JC.seq<|bI hm fun x23 hx2 hq2=>JC.seqJ (γ:=Unit) (stj:=fun _=>⟨[(3,ov (PTR gb11 0)),(4,ov (PTR gb12 0)),(5,ov (PTR gb13 0)),(7,ov (PTR gb18 0)),(39,ov (S rB x23))],[cvar gb11 (rW (PTR gb7 0)) (),cvar gb7 (zq1 go9) ((),(qb3,(qg4,(qh5,(qd6,()))))),cqm go9 (S rS) Zaa qm10 (some x8),cvar gb12 rS qn1,cvar gb13 (rL (rU UInt8)) b2,cvar gb18 (rW (PTO (Option.map (fun _=>qm10 qn1) f17))) ()],[]⟩) (fun _=>?_) ?_
 · refine jif tR hq2 (fun hc10 hq2=>?_) (fun hc10 hq2=>?_)
   · refine jr<|jc (Zac lb .cI)<|jn<|JC.ret<|JQ.outR ?_
     obtain rfl:=so hq2
     exact JQ.done (js:=[1,1]) (ss:=[.val (S (rI .i64) (5 : Int))]) qm10 (.inl rfl) (.nil rfl) rfl (.cons (.tmp rfl) .nil) rfl rfl rfl
   refine JC.skip<|JQ.then<|jr<|jc (ZcH lb (.cons tR (.cons tR (.cons tR (.cons tR .nil)))))<|jc (Zac lb tR)<|jn<|jr<|jc (Zal (j:=0) lb tS25 tR rfl (Comp.self (rW (PTR gb7 0)) ()))<|jmv rfl rfl<|jmv rfl rfl ?_
   obtain ⟨⟨v24,x25,x26,x27,x28,x29⟩,hv24,hq2⟩:=Zas hq2
   refine jx (Zak (js:=[1,1,3,0,0,0]) ld cl53 (Zcv k qb3 qg4 qh5 qd6 x8 f17 qn1 b2 gb7 go9 qm10 gb18 gb11 gb12 gb13 (v24,x25,x26,x27,x28,x29) hv24) .func (.cons tR (.cons tR (.cons tR .nil))) rfl) fun qm30=>jc (Zac lb tR)<|jn<|JC.ret ?_
   obtain rfl:=so hq2
   exact JQ.done (js:=[0,0]) (ss:=[.val (S (rI .i64) v24)]) qm30 (.inl rfl) (.nil rfl) rfl (.cons (.tmp rfl) .nil) rfl rfl rfl
 refine bI hx2 fun v19 hv19 hx2=>?_
 obtain ⟨v20,hv20,hx2⟩:=Za2 hx2
 rcases Zbc hx2 with ⟨hc4,hx2⟩ | ⟨hc4,hx2⟩
 · refine JC.anyF (base:=[(3,ov (PTR gb11 0)),(4,ov (PTR gb12 0)),(5,ov (PTR gb13 0)),(7,ov (PTR gb18 0))])
       (fs:=fun γ=>[⟨some 23,ov (S (rL (rU UInt8)) b2)⟩,⟨some 24,ov (S (rI .i64) (List.length b2 : Int))⟩,⟨some 25,ov (PTR gb7 0)⟩,⟨some 26,ov (S (rI .i64) v19)⟩,⟨some 27,ov (S rB v20)⟩,⟨some 28,ov (S rB v20)⟩,⟨some 29,.one .und⟩,⟨some 30,.one .und⟩,⟨some 31,.one .und⟩,⟨some 32,.one .und⟩,⟨some 33,.one .und⟩,⟨some 34,.one .und⟩,⟨some 35,.one .und⟩,⟨some 36,.one .und⟩,⟨some 37,.one .und⟩,⟨some 38,.one .und⟩,⟨some 39,ov (S rB true)⟩])
       (rs:=fun γ=>[⟨cvar gb7 (zq1 go9) ((),(qb3,(qg4,(qh5,(qd6,()))))),none,none,[3]⟩,⟨cqm go9 (S rS) Zaa qm10 (some x8),none,none,[3]⟩,⟨cvar gb11 (rW (PTR gb7 0)) (),none,none,[2]⟩,⟨cvar gb12 rS qn1,none,none,[]⟩,⟨cvar gb13 (rL (rU UInt8)) b2,none,none,[0]⟩,⟨cvar gb18 (rW (PTO (Option.map (fun _=>qm10 qn1) f17))) (),none,none,[]⟩])
       (afts:=nn 17) (js:=[0,0,0,0,0,0]) mixed (.cons rfl (.cons rfl (.cons rfl (.cons rfl .nil)))) (fun _=>rfl)
       (by
      refine dR 1 (fun γ ρ B hb hd=>Zag.lk ⟨ρ,(cvar gb13 (rL (rU UInt8)) b2)::B,_⟩ (Zam (j:=0) lb tS31 (.tmp (hb 5 _ rfl)) rfl (Comp.self (rL (rU UInt8)) b2) rfl rfl))<|dS 2 (fun γ ρ B hb hd=>Zcc lb tu31 (tl hd 0 23))<|dR 3 (fun γ ρ B hb hd=>Zag.lk ⟨ρ,(cvar gb11 (rW (PTR gb7 0)) ())::B,_⟩ (Zal (j:=0) lb tS25 (.tmp (hb 3 _ rfl)) rfl (Comp.self (rW (PTR gb7 0)) ())))<|dR 4 (fun γ ρ B hb hd=>Zag.lk ⟨ρ,(cvar gb7 (zq1 go9) ((),(qb3,(qg4,(qh5,(qd6,()))))))::(cqm go9 (S rS) Zaa qm10 (some x8))::B,_⟩ ((Zak (js:=[0,0]) ld cl11 (Zaq k qb3 qg4 qh5 qd6 x8 gb7 go9 qm10 v19 hv19) .func (.cons (tl hd 2 25) .nil) rfl).post (fun _=>Imp.pick (js:=[0,0]) rfl rfl)))<|dS 5 (fun γ ρ B hb hd=>Zan lb (tl hd 1 24) (tl hd 3 26) (cs hv20)) ?_
      refine dm 6 4 27<|kn 7 5 28 rfl hc4<|kn 8 5 28 rfl hc4<|kn 9 5 28 rfl hc4<|ku 10 8 31 rfl ?_
      refine ku 11 8 31 rfl<|ku 12 8 31 rfl<|ku 13 8 31 rfl<|ku 14 8 31 rfl<|ku 15 8 31 rfl ?_
      refine kn 16 5 28 rfl hc4<|dS 17 (fun γ ρ B hb hd=>Zaw lb (tl hd 5 28) hc4 .cB) ?_
      exact Zat.nil)
       (by decide +kernel) (fun _=>rfl) (fun _=>rfl) (fun _=>rfl) rfl
       (ρ':=fun γ=>[(3,ov (PTR gb11 0)),(4,ov (PTR gb12 0)),(5,ov (PTR gb13 0)),(7,ov (PTR gb18 0)),(39,ov (S rB true))])
       (X':=fun γ=>[cvar gb7 (zq1 go9) ((),(qb3,(qg4,(qh5,(qd6,()))))),cqm go9 (S rS) Zaa qm10 (some x8),cvar gb11 (rW (PTR gb7 0)) (),cvar gb12 rS qn1,cvar gb13 (rL (rU UInt8)) b2,cvar gb18 (rW (PTO (Option.map (fun _=>qm10 qn1) f17))) ()])
       (fun γ ρ hb hd=>(.cons (hb 3 _ rfl) (.cons (hb 4 _ rfl) (.cons (hb 5 _ rfl) (.cons (hb 7 _ rfl) (.cons (hdq hd 16 39 rfl) .nil)))))) (fun _=>rfl) (fun γ=>?_)
   refine JQ.at ⟨[(3,ov (PTR gb11 0)),(4,ov (PTR gb12 0)),(5,ov (PTR gb13 0)),(7,ov (PTR gb18 0)),(39,ov (S rB true))],[cvar gb7 (zq1 go9) ((),(qb3,(qg4,(qh5,(qd6,()))))),cqm go9 (S rS) Zaa qm10 (some x8),cvar gb11 (rW (PTR gb7 0)) (),cvar gb12 rS qn1,cvar gb13 (rL (rU UInt8)) b2,cvar gb18 (rW (PTO (Option.map (fun _=>qm10 qn1) f17))) ()],[]⟩ ?_
   try obtain rfl:=so hx2
   exact JQ.join () (Imp.norm (js:=[2,0,0,0,0,0]) rfl (.cons rfl (.cons rfl (.cons rfl (.cons rfl (.cons rfl .nil))))))
 obtain ⟨v21,hv21,hx2⟩:=Za2 hx2
 rcases Zbc hx2 with ⟨hc9,hx2⟩ | ⟨hc9,hx2⟩
 · obtain ⟨v22,hv22,hx2⟩:=Za2 hx2
   refine JC.anyF (base:=[(3,ov (PTR gb11 0)),(4,ov (PTR gb12 0)),(5,ov (PTR gb13 0)),(7,ov (PTR gb18 0))])
       (fs:=fun γ=>[⟨some 23,ov (S (rL (rU UInt8)) b2)⟩,⟨some 24,ov (S (rI .i64) (List.length b2 : Int))⟩,⟨some 25,ov (PTR gb7 0)⟩,⟨some 26,ov (S (rI .i64) v19)⟩,⟨some 27,ov (S rB v20)⟩,⟨some 28,ov (S rB v20)⟩,⟨some 29,ov (PTO (Option.map (fun _=>qm10 qn1) f17))⟩,⟨some 30,ov (S rB v21)⟩,⟨some 31,ov (S rB v21)⟩,⟨some 32,bif v21 then ov (PTR gb7 0) else .one .und⟩,⟨some 33,bif v21 then ov (PTR gb7 0) else .one .und⟩,⟨some 34,bif v21 then ov (PTR gb7 (0 + 0)) else .one .und⟩,⟨some 35,ov (MPV go9)⟩,⟨some 36,ov (S (rI .i64) (List.length (Option.getD (some x8) []) : Int))⟩,⟨some 37,ov (S rB v22)⟩,⟨some 38,ov (S rB v22)⟩,⟨some 39,ov (S rB v22)⟩])
       (rs:=fun γ=>[⟨cvar gb7 (zq1 go9) ((),(qb3,(qg4,(qh5,(qd6,()))))),none,none,[3,12]⟩,⟨cqm go9 (S rS) Zaa qm10 (some x8),none,none,[3,13]⟩,⟨cvar gb11 (rW (PTR gb7 0)) (),none,none,[2,9]⟩,⟨cvar gb12 rS qn1,none,none,[]⟩,⟨cvar gb13 (rL (rU UInt8)) b2,none,none,[0]⟩,⟨cvar gb18 (rW (PTO (Option.map (fun _=>qm10 qn1) f17))) (),none,none,[6]⟩])
       (afts:=nn 17) (js:=[0,0,0,0,0,0]) mixed (.cons rfl (.cons rfl (.cons rfl (.cons rfl .nil)))) (fun _=>rfl)
       (by
      refine dR 1 (fun γ ρ B hb hd=>Zag.lk ⟨ρ,(cvar gb13 (rL (rU UInt8)) b2)::B,_⟩ (Zam (j:=0) lb tS31 (.tmp (hb 5 _ rfl)) rfl (Comp.self (rL (rU UInt8)) b2) rfl rfl))<|dS 2 (fun γ ρ B hb hd=>Zcc lb tu31 (tl hd 0 23))<|dR 3 (fun γ ρ B hb hd=>Zag.lk ⟨ρ,(cvar gb11 (rW (PTR gb7 0)) ())::B,_⟩ (Zal (j:=0) lb tS25 (.tmp (hb 3 _ rfl)) rfl (Comp.self (rW (PTR gb7 0)) ())))<|dR 4 (fun γ ρ B hb hd=>Zag.lk ⟨ρ,(cvar gb7 (zq1 go9) ((),(qb3,(qg4,(qh5,(qd6,()))))))::(cqm go9 (S rS) Zaa qm10 (some x8))::B,_⟩ ((Zak (js:=[0,0]) ld cl11 (Zaq k qb3 qg4 qh5 qd6 x8 gb7 go9 qm10 v19 hv19) .func (.cons (tl hd 2 25) .nil) rfl).post (fun _=>Imp.pick (js:=[0,0]) rfl rfl)))<|dS 5 (fun γ ρ B hb hd=>Zan lb (tl hd 1 24) (tl hd 3 26) (cs hv20)) ?_
      refine dm 6 4 27<|dY 7 (fun γ ρ B hb hd=>⟨.yes rfl (ltB rfl) (hl hd 5 28 rfl) hc4,Zag.lk ⟨ρ,(cvar gb18 (rW (PTO (Option.map (fun _=>qm10 qn1) f17))) ())::B,_⟩ (Zal (j:=0) lb tS69 (.tmp (hb 7 _ rfl)) rfl (Comp.self (rW (PTO (Option.map (fun _=>qm10 qn1) f17))) ()))⟩)<|dY 8 (fun γ ρ B hb hd=>⟨.yes rfl (ltB rfl) (hl hd 5 28 rfl) hc4,lkB (Zd7 (neg:=false) lb tu69 (tl hd 6 29) (HasO.const (p:=PTO none) fun _=>rfl) hv21)⟩)<|dY 9 (fun γ ρ B hb hd=>⟨.yes rfl (ltB rfl) (hl hd 5 28 rfl) hc4,lkB (Zai lb (tl hd 7 30))⟩) ?_
      refine eT 10 8 31 v21 (fun γ=>ov (PTR gb7 0)) (fun γ ρ B hb hd hq5=>Zag.lk ⟨ρ,(cvar gb11 (rW (PTR gb7 0)) ())::B,_⟩ (Zal (j:=0) lb tS25 (.tmp (hb 3 _ rfl)) rfl (Comp.self (rW (PTR gb7 0)) ()))) ?_
      refine dT 11 8 31 v21 (fun γ=>ov (PTR gb7 0)) (fun γ ρ B hb hd hq6=>Zae lb (HasO.cnd (tl hd 9 32) hq6) (fun e v h=>by subst h; rfl)) ?_
      refine dT 12 8 31 v21 (fun γ=>ov (PTR gb7 (0 + 0))) (fun γ ρ B hb hd hq7=>Zad (off:=0) lb Zct (HasO.cnd (tl hd 10 33) hq7)) ?_
      refine dY 13 (fun γ ρ B hb hd=>⟨.yes rfl (ltB rfl) (hl hd 8 31 rfl) hc9,Zag.lk ⟨ρ,(cvar gb7 (zq1 go9) ((),(qb3,(qg4,(qh5,(qd6,()))))))::B,_⟩ (Zal (j:=0) lb tS62 (HasO.cnd (tl hd 11 34) hc9) rfl (Comp.trans (Comp.self (zq1 go9) ((),(qb3,(qg4,(qh5,(qd6,())))))) (Comp.at' (Comp.inF (Comp.self (rW (MPV go9)) ()) (lE rfl)) (by rfl : _ = 0)) (lE rfl)))⟩)<|dY 14 (fun γ ρ B hb hd=>⟨.yes rfl (ltB rfl) (hl hd 8 31 rfl) hc9,Zag.lk ⟨ρ,(cqm go9 (S rS) Zaa qm10 (some x8))::B,_⟩ (Zfz (j:=0) lb tu62 rfl (tl hd 12 35))⟩)<|dY 15 (fun γ ρ B hb hd=>⟨.yes rfl (ltB rfl) (hl hd 8 31 rfl) hc9,lkB (Zan lb (tl hd 13 36) .cI (cs hv22))⟩)<|dY 16 (fun γ ρ B hb hd=>⟨.yes rfl (ltB rfl) (hl hd 5 28 rfl) hc4,lkB (Zaw lb (tl hd 8 31) hc9 (tl hd 14 37))⟩)<|dS 17 (fun γ ρ B hb hd=>Zar lb (tl hd 5 28) hc4 (tl hd 15 38)) ?_
      exact Zat.nil)
       (by decide +kernel) (fun _=>rfl) (fun _=>rfl) (fun _=>rfl) rfl
       (ρ':=fun γ=>[(3,ov (PTR gb11 0)),(4,ov (PTR gb12 0)),(5,ov (PTR gb13 0)),(7,ov (PTR gb18 0)),(39,ov (S rB v22))])
       (X':=fun γ=>[cvar gb7 (zq1 go9) ((),(qb3,(qg4,(qh5,(qd6,()))))),cqm go9 (S rS) Zaa qm10 (some x8),cvar gb11 (rW (PTR gb7 0)) (),cvar gb12 rS qn1,cvar gb13 (rL (rU UInt8)) b2,cvar gb18 (rW (PTO (Option.map (fun _=>qm10 qn1) f17))) ()])
       (fun γ ρ hb hd=>(.cons (hb 3 _ rfl) (.cons (hb 4 _ rfl) (.cons (hb 5 _ rfl) (.cons (hb 7 _ rfl) (.cons (hdq hd 16 39 rfl) .nil)))))) (fun _=>rfl) (fun γ=>?_)
   refine JQ.at ⟨[(3,ov (PTR gb11 0)),(4,ov (PTR gb12 0)),(5,ov (PTR gb13 0)),(7,ov (PTR gb18 0)),(39,ov (S rB v22))],[cvar gb7 (zq1 go9) ((),(qb3,(qg4,(qh5,(qd6,()))))),cqm go9 (S rS) Zaa qm10 (some x8),cvar gb11 (rW (PTR gb7 0)) (),cvar gb12 rS qn1,cvar gb13 (rL (rU UInt8)) b2,cvar gb18 (rW (PTO (Option.map (fun _=>qm10 qn1) f17))) ()],[]⟩ ?_
   try obtain rfl:=so hx2
   exact JQ.join () (Imp.norm (js:=[2,0,0,0,0,0]) rfl (.cons rfl (.cons rfl (.cons rfl (.cons rfl (.cons rfl .nil))))))
 refine JC.anyF (base:=[(3,ov (PTR gb11 0)),(4,ov (PTR gb12 0)),(5,ov (PTR gb13 0)),(7,ov (PTR gb18 0))])
     (fs:=fun γ=>[⟨some 23,ov (S (rL (rU UInt8)) b2)⟩,⟨some 24,ov (S (rI .i64) (List.length b2 : Int))⟩,⟨some 25,ov (PTR gb7 0)⟩,⟨some 26,ov (S (rI .i64) v19)⟩,⟨some 27,ov (S rB v20)⟩,⟨some 28,ov (S rB v20)⟩,⟨some 29,ov (PTO (Option.map (fun _=>qm10 qn1) f17))⟩,⟨some 30,ov (S rB v21)⟩,⟨some 31,ov (S rB v21)⟩,⟨some 32,bif v21 then ov (PTR gb7 0) else .one .und⟩,⟨some 33,bif v21 then ov (PTR gb7 0) else .one .und⟩,⟨some 34,bif v21 then ov (PTR gb7 (0 + 0)) else .one .und⟩,⟨some 35,.one .und⟩,⟨some 36,.one .und⟩,⟨some 37,.one .und⟩,⟨some 38,ov (S rB false)⟩,⟨some 39,ov (S rB false)⟩])
     (rs:=fun γ=>[⟨cvar gb7 (zq1 go9) ((),(qb3,(qg4,(qh5,(qd6,()))))),none,none,[3]⟩,⟨cqm go9 (S rS) Zaa qm10 (some x8),none,none,[3]⟩,⟨cvar gb11 (rW (PTR gb7 0)) (),none,none,[2,9]⟩,⟨cvar gb12 rS qn1,none,none,[]⟩,⟨cvar gb13 (rL (rU UInt8)) b2,none,none,[0]⟩,⟨cvar gb18 (rW (PTO (Option.map (fun _=>qm10 qn1) f17))) (),none,none,[6]⟩])
     (afts:=nn 17) (js:=[0,0,0,0,0,0]) mixed (.cons rfl (.cons rfl (.cons rfl (.cons rfl .nil)))) (fun _=>rfl)
     (by
      refine dR 1 (fun γ ρ B hb hd=>Zag.lk ⟨ρ,(cvar gb13 (rL (rU UInt8)) b2)::B,_⟩ (Zam (j:=0) lb tS31 (.tmp (hb 5 _ rfl)) rfl (Comp.self (rL (rU UInt8)) b2) rfl rfl))<|dS 2 (fun γ ρ B hb hd=>Zcc lb tu31 (tl hd 0 23))<|dR 3 (fun γ ρ B hb hd=>Zag.lk ⟨ρ,(cvar gb11 (rW (PTR gb7 0)) ())::B,_⟩ (Zal (j:=0) lb tS25 (.tmp (hb 3 _ rfl)) rfl (Comp.self (rW (PTR gb7 0)) ())))<|dR 4 (fun γ ρ B hb hd=>Zag.lk ⟨ρ,(cvar gb7 (zq1 go9) ((),(qb3,(qg4,(qh5,(qd6,()))))))::(cqm go9 (S rS) Zaa qm10 (some x8))::B,_⟩ ((Zak (js:=[0,0]) ld cl11 (Zaq k qb3 qg4 qh5 qd6 x8 gb7 go9 qm10 v19 hv19) .func (.cons (tl hd 2 25) .nil) rfl).post (fun _=>Imp.pick (js:=[0,0]) rfl rfl)))<|dS 5 (fun γ ρ B hb hd=>Zan lb (tl hd 1 24) (tl hd 3 26) (cs hv20)) ?_
      refine dm 6 4 27<|dY 7 (fun γ ρ B hb hd=>⟨.yes rfl (ltB rfl) (hl hd 5 28 rfl) hc4,Zag.lk ⟨ρ,(cvar gb18 (rW (PTO (Option.map (fun _=>qm10 qn1) f17))) ())::B,_⟩ (Zal (j:=0) lb tS69 (.tmp (hb 7 _ rfl)) rfl (Comp.self (rW (PTO (Option.map (fun _=>qm10 qn1) f17))) ()))⟩)<|dY 8 (fun γ ρ B hb hd=>⟨.yes rfl (ltB rfl) (hl hd 5 28 rfl) hc4,lkB (Zd7 (neg:=false) lb tu69 (tl hd 6 29) (HasO.const (p:=PTO none) fun _=>rfl) hv21)⟩)<|dY 9 (fun γ ρ B hb hd=>⟨.yes rfl (ltB rfl) (hl hd 5 28 rfl) hc4,lkB (Zai lb (tl hd 7 30))⟩) ?_
      refine eT 10 8 31 v21 (fun γ=>ov (PTR gb7 0)) (fun γ ρ B hb hd hq5=>Zag.lk ⟨ρ,(cvar gb11 (rW (PTR gb7 0)) ())::B,_⟩ (Zal (j:=0) lb tS25 (.tmp (hb 3 _ rfl)) rfl (Comp.self (rW (PTR gb7 0)) ()))) ?_
      refine dT 11 8 31 v21 (fun γ=>ov (PTR gb7 0)) (fun γ ρ B hb hd hq6=>Zae lb (HasO.cnd (tl hd 9 32) hq6) (fun e v h=>by subst h; rfl)) ?_
      refine dT 12 8 31 v21 (fun γ=>ov (PTR gb7 (0 + 0))) (fun γ ρ B hb hd hq7=>Zad (off:=0) lb Zct (HasO.cnd (tl hd 10 33) hq7)) ?_
      refine kn 13 8 31 rfl hc9<|kn 14 8 31 rfl hc9<|kn 15 8 31 rfl hc9<|dY 16 (fun γ ρ B hb hd=>⟨.yes rfl (ltB rfl) (hl hd 5 28 rfl) hc4,lkB (Zar lb (tl hd 8 31) hc9 .cB)⟩)<|dS 17 (fun γ ρ B hb hd=>Zar lb (tl hd 5 28) hc4 (tl hd 15 38)) ?_
      exact Zat.nil)
     (by decide +kernel) (fun _=>rfl) (fun _=>rfl) (fun _=>rfl) rfl
     (ρ':=fun γ=>[(3,ov (PTR gb11 0)),(4,ov (PTR gb12 0)),(5,ov (PTR gb13 0)),(7,ov (PTR gb18 0)),(39,ov (S rB false))])
     (X':=fun γ=>[cvar gb7 (zq1 go9) ((),(qb3,(qg4,(qh5,(qd6,()))))),cqm go9 (S rS) Zaa qm10 (some x8),cvar gb11 (rW (PTR gb7 0)) (),cvar gb12 rS qn1,cvar gb13 (rL (rU UInt8)) b2,cvar gb18 (rW (PTO (Option.map (fun _=>qm10 qn1) f17))) ()])
     (fun γ ρ hb hd=>(.cons (hb 3 _ rfl) (.cons (hb 4 _ rfl) (.cons (hb 5 _ rfl) (.cons (hb 7 _ rfl) (.cons (hdq hd 16 39 rfl) .nil)))))) (fun _=>rfl) (fun γ=>?_)
 refine JQ.at ⟨[(3,ov (PTR gb11 0)),(4,ov (PTR gb12 0)),(5,ov (PTR gb13 0)),(7,ov (PTR gb18 0)),(39,ov (S rB false))],[cvar gb7 (zq1 go9) ((),(qb3,(qg4,(qh5,(qd6,()))))),cqm go9 (S rS) Zaa qm10 (some x8),cvar gb11 (rW (PTR gb7 0)) (),cvar gb12 rS qn1,cvar gb13 (rL (rU UInt8)) b2,cvar gb18 (rW (PTO (Option.map (fun _=>qm10 qn1) f17))) ()],[]⟩ ?_
 try obtain rfl:=so hx2
 exact JQ.join () (Imp.norm (js:=[2,0,0,0,0,0]) rfl (.cons rfl (.cons rfl (.cons rfl (.cons rfl (.cons rfl .nil))))))

theorem Zbj (k : Nat) (qn1 : (List UInt8)) (qb2 : Int) (qg3 : Int) (qh4 : Bool) (qd5 : Int) (x7 : (List ((List UInt8) × Zaf))) (gb6 : Nat) (go8 : Option Nat) (qm9 : ((List UInt8) → Nat)) (r : (Option Zaf) × Int) (hm : ZaJ k qn1 qb2 qg3 qh4 qd5 x7 = some r) : Sim Try.prog 35 [PTR gb6 0,S rS qn1] [cvar gb6 (zq1 go8) ((),(qb2,(qg3,(qh4,(qd5,()))))),cqm go8 (S rS) Zaa qm9 (some x7)] (γ:=Unit) (fun q=>[cqm go8 (S rS) Zaa qm9 (some x7),cvar gb6 (zq1 go8) ((),(qb2,(qg3,(qh4,(qd5,())))))]) (fun q=>.tup [.val (PTO (Option.map (fun _=>qm9 qn1) r.1)),.val (S (rI .i64) r.2)]):=by
 unfold ZaJ at hm
 refine Sim.of Try.func35 rfl rfl (lE rfl) (fun e0 w0=>?_)
 refine JC.at ⟨[(0,ov (PTR gb6 0)),(1,ov (S rS qn1))],[cvar gb6 (zq1 go8) ((),(qb2,(qg3,(qh4,(qd5,()))))),cqm go8 (S rS) Zaa qm9 (some x7)],[]⟩<|jr<|jc (Zac lb (HasO.const (p:=PTO none) fun _=>rfl))<|jc (Zac lb .cI)<|jn<|JC.seq<|JC.block<|jr<|jmv rfl rfl<|bI hm fun _ hv_u_10 hm=>jx (Zak (js:=[0,0]) ld cl34 (ZaA k qb2 qg3 qh4 qd5 x7 gb6 go8 qm9 () hv_u_10) .func (.cons tR .nil) rfl) fun _=>jc (Zce lb tR rfl)<|jc (Zac lb tR)<|jn<|JC.condF tR rfl<|jr<|jmv rfl rfl ?_
 obtain ⟨v11,hv11,hm⟩:=Zas hm
 refine jx (Zak (js:=[]) ld cl16 (ZcA k qn1 v11 hv11) .func (.cons tR .nil) rfl) fun _=>lI hm fun v12 hv12 hm=>jc (Zce lb tR hv12)<|jc (Zac lb tR)<|JL.sub ⟨[(0,ov (PTR gb6 0)),(1,ov (S rS qn1)),(10,ov (S rB v12))],[cvar gb6 (zq1 go8) ((),(qb2,(qg3,(qh4,(qd5,()))))),cqm go8 (S rS) Zaa qm9 (some x7)],[]⟩ (.cons rfl (.cons rfl (.cons rfl .nil))) rfl rfl<|jn<|jif tR hm (fun hc1 hm=>?_) (fun hc1 hm=>?_)
 · refine jr<|jc (Zac lb (HasO.const (p:=PTO none) fun _=>rfl))<|jc (Zac lb .cI)<|jn<|JC.ret<|JQ.outRB<|JQ.outR ?_
   obtain rfl:=so hm
   exact JQ.pre (Imp.slot (s:=4) (q:=PTO (Option.map (fun _=>qm9 qn1) (none : Option Zaf))) rfl ZkJ)<|JQ.done (js:=[1,0]) (ss:=[.val (PTO (Option.map (fun _=>qm9 qn1) (none : Option Zaf))),.val (S (rI .i64) (2 : Int))]) () (.inl rfl) (.nil rfl) rfl (.cons (.tmp rfl) (.cons (.tmp rfl) .nil)) rfl rfl rfl
 refine jr<|jmv rfl rfl<|jc (Zae lb tR (fun e v h=>by subst h; rfl))<|jc (Zad (off:=0) lb Zct tR)<|jc (Zal (j:=0) lb tS62 tR rfl (Comp.trans (Comp.self (zq1 go8) ((),(qb2,(qg3,(qh4,(qd5,())))))) (Comp.at' (Comp.inF (Comp.self (rW (MPV go8)) ()) (lE rfl)) (by rfl : _ = 0)) (lE rfl)))<|jmv rfl rfl<|lI hm fun f13 hv_f_13 hm=>jc (Zc5 (j:=1) lb tu62 ky9 tZ69 rfl rfl tR tR hv_f_13)<|lI hm fun v14 hv14 hm=>jc (Zd7 (neg:=false) lb tu69 tR (HasO.const (p:=PTO none) fun _=>rfl) hv14)<|jc (Zac lb tR)<|jn<|jif tR hm (fun hc2 hm=>?_) (fun hc2 hm=>?_)
 · refine jr<|jc (Zac lb (HasO.const (p:=PTO none) fun _=>rfl))<|jc (Zac lb .cI)<|jn<|JC.ret<|JQ.outRB<|JQ.outR ?_
   obtain rfl:=so hm
   exact JQ.pre (Imp.slot (s:=4) (q:=PTO (Option.map (fun _=>qm9 qn1) (none : Option Zaf))) rfl ZkJ)<|JQ.done (js:=[1,0]) (ss:=[.val (PTO (Option.map (fun _=>qm9 qn1) (none : Option Zaf))),.val (S (rI .i64) (6 : Int))]) () (.inl rfl) (.nil rfl) rfl (.cons (.tmp rfl) (.cons (.tmp rfl) .nil)) rfl rfl rfl
 refine JC.skip<|JQ.outNB<|JQ.then<|jr<|jmv rfl rfl<|jc (Zae lb tR (fun e v h=>by subst h; rfl))<|jc (Zad (off:=0) lb Zct tR)<|jc (Zal (j:=0) lb tS62 tR rfl (Comp.trans (Comp.self (zq1 go8) ((),(qb2,(qg3,(qh4,(qd5,())))))) (Comp.at' (Comp.inF (Comp.self (rW (MPV go8)) ()) (lE rfl)) (by rfl : _ = 0)) (lE rfl)))<|JL.sub ⟨[(1,ov (S rS qn1)),(25,ov (MPV go8))],[cvar gb6 (zq1 go8) ((),(qb2,(qg3,(qh4,(qd5,()))))),cqm go8 (S rS) Zaa qm9 (some x7)],[]⟩ (.cons rfl (.cons rfl .nil)) rfl rfl<|jmv rfl rfl<|lI hm fun f15 hv_f_15 hm=>jc (Zc5 (j:=1) lb tu62 ky9 tZ69 rfl rfl tR tR hv_f_15)<|jc (Zac lb tR)<|jc (Zac lb .cI)<|jn<|JC.ret ?_
 obtain rfl:=so hm
 exact JQ.done (js:=[1,0]) (ss:=[.val (PTO (Option.map (fun _=>qm9 qn1) f15)),.val (S (rI .i64) (0 : Int))]) () (.inl rfl) (.nil rfl) rfl (.cons (.tmp rfl) (.cons (.tmp rfl) .nil)) rfl rfl rfl

theorem ZcU (k : Nat) (r : Unit) (hm : Zb6 k = some r) : Sim Try.prog 55 [] [] (γ:=Unit) (fun q=>[]) (fun q=>.tup []):=by
 unfold Zb6 at hm
 refine Sim.of Try.func55 rfl rfl (lE rfl) (fun e0 w0=>?_)
 exact JC.at ⟨[],[],[]⟩<|JC.skip<|JQ.done (js:=[]) (ss:=[]) () (.inr rfl) (.nil rfl) rfl .nil rfl rfl rfl

theorem Zd1 (k : Nat) (qp1 : (List UInt8)) (x2 : (Option Zaf)) (x4 : (List ((List UInt8) × Zaf))) (gb3 : Nat) (go5 : Option Nat) (qm6 : ((List UInt8) → Nat)) (r : (List ((List UInt8) × Zaf))) (hm : ZbW k qp1 x2 x4 = some r) : Sim Try.prog 56 [PTR gb3 0] [cvar gb3 (rW (PTO (Option.map (fun _=>qm6 qp1) x2))) (),cqm go5 (S rS) Zaa qm6 (some x4)] (γ:=Unit) (fun q=>[cvar gb3 (rW (PTO (Option.map (fun _=>qm6 qp1) x2))) (),cqm go5 (S rS) Zaa qm6 (some r)]) (fun q=>.tup []):=by
 unfold ZbW at hm
 refine Sim.of Try.func56 rfl rfl (lE rfl) (fun e0 w0=>?_)
 refine JC.at ⟨[(0,ov (PTR gb3 0))],[cvar gb3 (rW (PTO (Option.map (fun _=>qm6 qp1) x2))) (),cqm go5 (S rS) Zaa qm6 (some x4)],[]⟩<|bI hm fun u7 hv_u_7 hm=>bI hm fun u8 hv_u_8 hm=>bI hm fun u9 hv_u_9 hm=>?_
 obtain ⟨x11,hv_x_11,hm⟩:=Zas hm
 refine JC.anyF (base:=[(0,ov (PTR gb3 0))])
     (fs:=fun γ=>[⟨some 1,ov (PTO (Option.map (fun _=>qm6 qp1) x2))⟩,⟨some 2,ov (PTO (Option.map (fun _=>qm6 qp1) x2))⟩,⟨some 3,ov (PTR (qm6 qp1) 0)⟩,⟨some 4,ov (PTR (qm6 qp1) (0 + 0))⟩,⟨some 5,ov (S (rL (rU UInt8)) u8.b)⟩,⟨some 6,ov (S (rI .i64) (List.length u8.b : Int))⟩,⟨some 7,ov (PTR (qm6 qp1) 0)⟩,⟨some 8,ov (PTR (qm6 qp1) (0 + 1))⟩,⟨none,.one .any⟩])
     (rs:=fun γ=>[⟨cvar gb3 (rW (PTO (Option.map (fun _=>qm6 qp1) x2))) (),none,none,[0,1]⟩,⟨cqm go5 (S rS) Zaa qm6 (some x4),none,(some 8),[4]⟩,⟨cqm go5 (S rS) Zaa qm6 (some x11),(some 8),none,[]⟩])
     (afts:=nn 9) (js:=[0,0]) mixed (.cons rfl .nil) (fun _=>rfl)
     (by
      refine dR 1 (fun γ ρ B hb hd=>Zag.lk ⟨ρ,(cvar gb3 (rW (PTO (Option.map (fun _=>qm6 qp1) x2))) ())::B,_⟩ (Zal (j:=0) lb tS69 (.tmp (hb 0 _ rfl)) rfl (Comp.self (rW (PTO (Option.map (fun _=>qm6 qp1) x2))) ())))<|dR 2 (fun γ ρ B hb hd=>Zag.lk ⟨ρ,(cvar gb3 (rW (PTO (Option.map (fun _=>qm6 qp1) x2))) ())::B,_⟩ (Zal (j:=0) lb tS69 (.tmp (hb 0 _ rfl)) rfl (Comp.self (rW (PTO (Option.map (fun _=>qm6 qp1) x2))) ())))<|dS 3 (fun γ ρ B hb hd=>Zae lb (HasO.wk (tl hd 1 2) (Zdp hv_u_7)) (fun e v h=>by subst h; rfl))<|dS 4 (fun γ ρ B hb hd=>Zad (off:=0) lb Zdh (tl hd 2 3))<|dR 5 (fun γ ρ B hb hd=>Zag.lk ⟨ρ,(cqm go5 (S rS) Zaa qm6 (some x4))::B,_⟩ (ZbC (j:=0) (m:=(some x4)) lb tS31 (tl hd 3 4) rfl hv_u_8 (cT (Za9 u8) rfl) rfl rfl)) ?_
      refine dS 6 (fun γ ρ B hb hd=>Zcc lb tu31 (tl hd 4 5))<|dS 7 (fun γ ρ B hb hd=>Zae lb (HasO.wk (tl hd 0 1) (Zdp hv_u_9)) (fun e v h=>by subst h; rfl))<|dS 8 (fun γ ρ B hb hd=>Zad (off:=1) lb ZeE (tl hd 6 7))<|dR 9 (fun γ ρ B hb hd=>Zag.at ⟨ρ,(cqm go5 (S rS) Zaa qm6 (some x4))::B,_⟩ (setO ⟨ρ,(cqm go5 (S rS) Zaa qm6 (some x11))::B,_⟩ _ _) (ZcV (j:=0) tS3 (tl hd 7 8) (tl hd 5 6) rfl rfl (fun u=>(Upd.trans (Comp.self Zaa u) (Upd.self Zaa u _) (Zc1 u (List.length u8.b : Int))).R) (Zdt hv_x_11))) ?_
      exact Zat.nil)
     (by decide +kernel) (fun _=>rfl) (fun _=>rfl) (fun _=>rfl) rfl
     (ρ':=fun γ=>[])
     (X':=fun γ=>[cvar gb3 (rW (PTO (Option.map (fun _=>qm6 qp1) x2))) (),cqm go5 (S rS) Zaa qm6 (some x11)])
     (fun γ ρ hb hd=>.nil) (fun _=>rfl) (fun γ=>?_)
 refine JQ.at ⟨[],[cvar gb3 (rW (PTO (Option.map (fun _=>qm6 qp1) x2))) (),cqm go5 (S rS) Zaa qm6 (some x11)],[]⟩ ?_
 obtain rfl:=so hm
 exact JQ.done (js:=[0,0]) (ss:=[]) () (.inr rfl) (.nil rfl) rfl .nil rfl rfl rfl

theorem Zde (k : Nat) (qb1 : Int) (fuse2 : Int) (qh3 : Bool) (qd4 : Int) (x6 : (List ((List UInt8) × Zaf))) (qp9 : (List UInt8)) (x10 : (Option Zaf)) (gb5 : Nat) (go7 : Option Nat) (qm8 : ((List UInt8) → Nat)) (gb11 : Nat) (r : Int × (List ((List UInt8) × Zaf)) × Int × Bool × Int) (hm : Za0 k qb1 fuse2 qh3 qd4 x6 qp9 x10 = some r) : Sim Try.prog 53 [PTR gb5 0,CLO 56 [PTR gb11 0],CLO 55 []] [cvar gb5 (zq1 go7) ((),(qb1,(fuse2,(qh3,(qd4,()))))),cqm go7 (S rS) Zaa qm8 (some x6),cvar gb11 (rW (PTO (Option.map (fun _=>qm8 qp9) x10))) ()] (γ:=Unit) (fun q=>[cvar gb5 (zq1 go7) ((),(qb1,(r.2.2.1,(r.2.2.2.1,(r.2.2.2.2,()))))),cqm go7 (S rS) Zaa qm8 (some r.2.1),cvar gb11 (rW (PTO (Option.map (fun _=>qm8 qp9) x10))) ()]) (fun q=>.one (.val (S (rI .i64) r.1))):=by
 unfold Za0 at hm
 refine Sim.of Try.func53 rfl rfl (lE rfl) (fun e0 w0=>?_)
 refine JC.at ⟨[(0,ov (PTR gb5 0)),(1,ov (CLO 56 [PTR gb11 0])),(2,ov (CLO 55 []))],[cvar gb5 (zq1 go7) ((),(qb1,(fuse2,(qh3,(qd4,()))))),cqm go7 (S rS) Zaa qm8 (some x6),cvar gb11 (rW (PTO (Option.map (fun _=>qm8 qp9) x10))) ()],[]⟩<|jr<|jc (Zac lb .cI)<|jn<|JC.seq<|jr<|jmv rfl rfl<|jc (Zae lb tR (fun e v h=>by subst h; rfl))<|jc (Zad (off:=3) lb Zd0 tR)<|jc (Zam (j:=0) lb tS4 tR rfl (Comp.trans (Comp.self (zq1 go7) ((),(qb1,(fuse2,(qh3,(qd4,())))))) (Comp.at' (Comp.inS (Comp.inS (Comp.inS (Comp.inF (Comp.self rB qh3) (lE rfl))))) (by rfl : _ = 3)) (lE rfl)) rfl rfl)<|jn<|jif tR hm (fun hc1 hm=>?_) (fun hc1 hm=>?_)
 · refine jr<|jc (Zac lb .cI)<|jn<|JC.ret<|JQ.outR ?_
   obtain rfl:=so hm
   refine JQ.pre (Imp.var (j:=0) (q:=(zq1 go7)) (y:=((),(qb1,(fuse2,(qh3,(qd4,())))))) rfl Wk.refl) ?_
   exact JQ.done (js:=[0,0,0]) (ss:=[.val (S (rI .i64) (8 : Int))]) () (.inl rfl) (.nil rfl) rfl (.cons (.tmp rfl) .nil) rfl rfl rfl
 refine JC.skip<|JQ.then<|jr<|jmv rfl rfl<|jc (Zae lb tR (fun e v h=>by subst h; rfl))<|jc (Zad (off:=4) lb ZdZ tR)<|jc (Zam (j:=0) lb tS3 tR rfl (Comp.trans (Comp.self (zq1 go7) ((),(qb1,(fuse2,(qh3,(qd4,())))))) (Comp.at' (Comp.inS (Comp.inS (Comp.inS (Comp.inS (Comp.inF (Comp.self (rI .i64) qd4) (lE rfl)))))) (by rfl : _ = 4)) (lE rfl)) rfl rfl)<|lI hm fun v12 hv12 hm=>jc (Zbx lb tR .cI (cs hv12))<|jc (Zae lb tR (fun e v h=>by subst h; rfl))<|jc (Zad (off:=4) lb ZdZ tR)<|JL.sub ⟨[(0,ov (PTR gb5 0)),(1,ov (CLO 56 [PTR gb11 0])),(2,ov (CLO 55 [])),(15,ov (S (rI .i64) v12)),(17,ov (PTR gb5 (0 + 4)))],[cvar gb5 (zq1 go7) ((),(qb1,(fuse2,(qh3,(qd4,()))))),cqm go7 (S rS) Zaa qm8 (some x6),cvar gb11 (rW (PTO (Option.map (fun _=>qm8 qp9) x10))) ()],[]⟩ (.cons rfl (.cons rfl (.cons rfl (.cons rfl (.cons rfl .nil))))) rfl rfl<|jc (ZaL (j:=0) tS3 tR tR rfl rfl ((UpdR.snd (UpdR.snd (UpdR.snd (UpdR.snd (UpdR.fst (UpdR.self (by rfl))))))).at (by change (1 + (1 + (1 + (1 + 0)))) = (0 + 4); omega)) rfl)<|jn<|JC.seq<|jr<|jmv rfl rfl<|jc (Zae lb tR (fun e v h=>by subst h; rfl))<|jc (Zad (off:=2) lb Zcs tR)<|jc (Zam (j:=0) lb tS3 tR rfl (Comp.trans (Comp.self (zq1 go7) ((),(qb1,(fuse2,(qh3,(v12,())))))) (Comp.at' (Comp.inS (Comp.inS (Comp.inF (Comp.self (rI .i64) fuse2) (lE rfl)))) (by rfl : _ = 2)) (lE rfl)) rfl rfl) ?_
 obtain ⟨v13,hv13,hm⟩:=Za2 hm
 refine jc (Zan lb tR .cI (cs hv13))<|jn<|jif tR hm (fun hc2 hm=>?_) (fun hc2 hm=>?_)
 · refine jr<|jmv rfl rfl<|jc (Zae lb tR (fun e v h=>by subst h; rfl))<|jc (Zad (off:=3) lb Zd0 tR)<|jc (ZaL (j:=0) tS4 tR .cB rfl rfl ((UpdR.snd (UpdR.snd (UpdR.snd (UpdR.fst (UpdR.self (by rfl)))))).at (by change (1 + (1 + (1 + 0))) = (0 + 3); omega)) rfl)<|JL.sub ⟨[(2,ov (CLO 55 []))],[cvar gb5 (zq1 go7) ((),(qb1,(fuse2,(true,(v12,()))))),cqm go7 (S rS) Zaa qm8 (some x6),cvar gb11 (rW (PTO (Option.map (fun _=>qm8 qp9) x10))) ()],[]⟩ (.cons rfl .nil) rfl rfl<|jn<|jr<|jmv rfl rfl<|bI hm fun _ hv_u_14 hm=>jx (Zak (js:=[]) ld cl55 (ZcU k () hv_u_14) tR .nil rfl) fun _=>jn<|jr<|jc (Zac lb .cI)<|jn<|JC.ret<|JQ.outR ?_
   obtain rfl:=so hm
   refine JQ.pre (Imp.var (j:=0) (q:=(zq1 go7)) (y:=((),(qb1,(fuse2,(true,(v12,())))))) rfl Wk.refl) ?_
   exact JQ.done (js:=[0,0,0]) (ss:=[.val (S (rI .i64) (8 : Int))]) () (.inl rfl) (.nil rfl) rfl (.cons (.tmp rfl) .nil) rfl rfl rfl
 refine JC.skip<|JQ.then<|bI hm fun x17 hx3 hq3=>JC.seqJ (γ:=Unit) (stj:=fun _=>⟨[(1,ov (CLO 56 [PTR gb11 0]))],[cvar gb11 (rW (PTO (Option.map (fun _=>qm8 qp9) x10))) (),cqm go7 (S rS) Zaa qm8 (some x6),cvar gb5 (zq1 go7) ((),(qb1,(x17,(qh3,(v12,())))))],[]⟩) (fun _=>?_) ?_
 · refine jr<|jmv rfl rfl<|bI hq3 fun x18 hv_x_18 hq3=>jx (Zak (js:=[0,0]) ld cl56 (Zd1 k qp9 x10 x6 gb11 go7 qm8 x18 hv_x_18) tR .nil rfl) fun _=>jn<|jr<|jc (Zac lb .cI)<|jn<|JC.ret ?_
   obtain rfl:=so hq3
   exact JQ.done (js:=[2,1,0]) (ss:=[.val (S (rI .i64) (0 : Int))]) () (.inl rfl) (.nil rfl) rfl (.cons (.tmp rfl) .nil) rfl rfl rfl
 refine jr<|jmv rfl rfl<|jc (Zae lb tR (fun e v h=>by subst h; rfl))<|jc (Zad (off:=2) lb Zcs tR)<|jc (Zam (j:=0) lb tS3 tR rfl (Comp.trans (Comp.self (zq1 go7) ((),(qb1,(fuse2,(qh3,(v12,())))))) (Comp.at' (Comp.inS (Comp.inS (Comp.inF (Comp.self (rI .i64) fuse2) (lE rfl)))) (by rfl : _ = 2)) (lE rfl)) rfl rfl)<|JL.sub ⟨[(0,ov (PTR gb5 0)),(1,ov (CLO 56 [PTR gb11 0])),(31,ov (S (rI .i64) fuse2))],[cvar gb5 (zq1 go7) ((),(qb1,(fuse2,(qh3,(v12,()))))),cqm go7 (S rS) Zaa qm8 (some x6),cvar gb11 (rW (PTO (Option.map (fun _=>qm8 qp9) x10))) ()],[]⟩ (.cons rfl (.cons rfl (.cons rfl .nil))) rfl rfl<|lI hx3 fun v15 hv15 hx3=>jc (Zan lb tR .cI (cs hv15))<|jn<|jif tR hx3 (fun hc4 hx3=>?_) (fun hc4 hx3=>?_)
 · refine JC.region<|jmv rfl rfl<|jc (Zae lb tR (fun e v h=>by subst h; rfl))<|jc (Zad (off:=2) lb Zcs tR)<|jc (Zam (j:=0) lb tS3 tR rfl (Comp.trans (Comp.self (zq1 go7) ((),(qb1,(fuse2,(qh3,(v12,())))))) (Comp.at' (Comp.inS (Comp.inS (Comp.inF (Comp.self (rI .i64) fuse2) (lE rfl)))) (by rfl : _ = 2)) (lE rfl)) rfl rfl)<|lI hx3 fun v16 hv16 hx3=>jc (Zbx lb tR .cI (cs hv16))<|jc (Zae lb tR (fun e v h=>by subst h; rfl))<|jc (Zad (off:=2) lb Zcs tR)<|jc (ZaL (j:=0) tS3 tR tR rfl rfl ((UpdR.snd (UpdR.snd (UpdR.fst (UpdR.self (by rfl))))).at (by change (1 + (1 + 0)) = (0 + 2); omega)) rfl)<|JL.nil ?_
   try obtain rfl:=so hx3
   refine JQ.pre (Imp.var (j:=0) (q:=(zq1 go7)) (y:=((),(qb1,(v16,(qh3,(v12,())))))) rfl Wk.refl) ?_
   exact JQ.join () (Imp.norm (js:=[2,1,0]) rfl (.cons rfl .nil))
 refine JC.skip ?_
 try obtain rfl:=so hx3
 refine JQ.pre (Imp.var (j:=0) (q:=(zq1 go7)) (y:=((),(qb1,(fuse2,(qh3,(v12,())))))) rfl Wk.refl) ?_
 exact JQ.join () (Imp.norm (js:=[2,1,0]) rfl (.cons rfl .nil))

theorem Zcy (k : Nat) (qn1 : (List UInt8)) (qb2 : Int) (qg3 : Int) (qh4 : Bool) (qd5 : Int) (x7 : (List ((List UInt8) × Zaf))) (gb6 : Nat) (go8 : Option Nat) (qm9 : ((List UInt8) → Nat)) (r : Int × (List ((List UInt8) × Zaf)) × Int × Bool × Int) (hm : Zbb k qn1 qb2 qg3 qh4 qd5 x7 = some r) : Sim Try.prog 31 [PTR gb6 0,S rS qn1] [cvar gb6 (zq1 go8) ((),(qb2,(qg3,(qh4,(qd5,()))))),cqm go8 (S rS) Zaa qm9 (some x7)] (γ:=Unit) (fun q=>[cvar gb6 (zq1 go8) ((),(qb2,(r.2.2.1,(r.2.2.2.1,(r.2.2.2.2,()))))),cqm go8 (S rS) Zaa qm9 (some r.2.1)]) (fun q=>.one (.val (S (rI .i64) r.1))):=by
 unfold Zbb at hm
 refine Sim.of Try.func31 rfl rfl (lE rfl) (fun e0 w0=>?_)
 refine JC.at ⟨[(0,ov (PTR gb6 0)),(1,ov (S rS qn1))],[cvar gb6 (zq1 go8) ((),(qb2,(qg3,(qh4,(qd5,()))))),cqm go8 (S rS) Zaa qm9 (some x7)],[]⟩<|jr<|jc (Zac lb .cI)<|jn<|jr<|jmv rfl rfl<|jmv rfl rfl ?_
 obtain ⟨⟨v10,v11⟩,hv10,hm⟩:=Zas hm
 refine jx (Zak (js:=[0,0]) ld cl35 (Zbj k qn1 qb2 qg3 qh4 qd5 x7 gb6 go8 qm9 (v10,v11) hv10) .func (.cons tR (.cons tR .nil)) rfl) fun _=>jmv rfl rfl<|jc (Zao (i:=0) lb tR rfl)<|jc (Zao (i:=1) lb tR rfl)<|jx (Zcd lb tZ69 zr69) fun gb12=>JL.sub ⟨[(0,ov (PTR gb6 0)),(5,ov (PTR gb12 0)),(11,ov (PTO (Option.map (fun _=>qm9 qn1) v10))),(12,ov (S (rI .i64) v11))],[cqm go8 (S rS) Zaa qm9 (some x7),cvar gb6 (zq1 go8) ((),(qb2,(qg3,(qh4,(qd5,()))))),cvar gb12 (rW (PTO none)) ()],[]⟩ (.cons rfl (.cons rfl (.cons rfl (.cons rfl .nil)))) rfl rfl<|jc (Zb4 (j:=2) tS69 tR tR rfl (UpdR.self (by rfl)) rfl)<|jc (Zac lb tR)<|jn<|JC.seq<|jr<|jmv rfl rfl<|lI hm fun v13 hv13 hm=>jc (Zan lb tR .cI (cs hv13))<|jn<|jif tR hm (fun hc1 hm=>?_) (fun hc1 hm=>?_)
 · refine jr<|jmv rfl rfl<|jc (Zac lb tR)<|jn<|JC.ret<|JQ.outR ?_
   obtain rfl:=so hm
   exact JQ.done (js:=[1,0]) (ss:=[.val (S (rI .i64) v11)]) () (.inl rfl) (.nil rfl) rfl (.cons (.tmp rfl) .nil) rfl rfl rfl
 refine JC.skip<|JQ.then<|jr<|jmv rfl rfl<|jc (ZcH lb (.cons tR .nil)) ?_
 obtain ⟨⟨v14,x15,x16,x17,x18⟩,hv14,hm⟩:=Zas hm
 refine jx (Zak (js:=[1,0,0]) ld cl53 (Zde k qb2 qg3 qh4 qd5 x7 qn1 v10 gb6 go8 qm9 gb12 (v14,x15,x16,x17,x18) hv14) .func (.cons tR (.cons tR (.cons .func .nil))) rfl) fun _=>jc (Zac lb tR)<|JL.nrm ⟨[(4,ov (S (rI .i64) v14))],[cvar gb6 (zq1 go8) ((),(qb2,(x16,(x17,(x18,()))))),cqm go8 (S rS) Zaa qm9 (some (x15))],[]⟩ [0,0] rfl (.cons rfl .nil) rfl<|jn<|JC.ret ?_
 obtain rfl:=so hm
 exact JQ.done (js:=[0,0]) (ss:=[.val (S (rI .i64) v14)]) () (.inl rfl) (.nil rfl) rfl (.cons (.tmp rfl) .nil) rfl rfl rfl

theorem ZcC (k : Nat) (qb1 : Int) (fuse2 : Int) (qh3 : Bool) (qd4 : Int) (x6 : (List ((List UInt8) × Zaf))) (gb5 : Nat) (go7 : Option Nat) (qm8 : ((List UInt8) → Nat)) (r : (List ((List UInt8) × Zaf))) (hm : disk_Disk_Copy_p_smvvvvm k qb1 fuse2 qh3 qd4 x6 = some r) : Sim Try.prog 18 [PTR gb5 0] [cvar gb5 (zq1 go7) ((),(qb1,(fuse2,(qh3,(qd4,()))))),cqm go7 (S rS) Zaa qm8 (some x6)] (γ:=Nat × Option Nat × ((List UInt8) → Nat)) (fun q=>[cvar q.1 (rP (rW (MPV q.2.1)) (rP (rI .i64) (rP (rI .i64) (rP rB (rP (rI .i64) r0))))) ((),(qb1,(fuse2,(qh3,(qd4,()))))),cqm q.2.1 (S rS) Zaa q.2.2 (some r),cvar gb5 (zq1 go7) ((),(qb1,(fuse2,(qh3,(qd4,()))))),cqm go7 (S rS) Zaa qm8 (some x6)]) (fun q=>.one (.val (PTR q.1 0))):=by
 unfold disk_Disk_Copy_p_smvvvvm at hm
 refine Sim.of Try.func18 rfl rfl (lE rfl) (fun e0 w0=>?_)
 refine JC.at ⟨[(0,ov (PTR gb5 0))],[cvar gb5 (zq1 go7) ((),(qb1,(fuse2,(qh3,(qd4,()))))),cqm go7 (S rS) Zaa qm8 (some x6)],[]⟩<|jr<|jc (Zac lb (HasO.const (p:=PTO none) fun _=>rfl))<|jn<|JC.seq<|jr<|jmv rfl rfl<|bI hm fun _ hv_u_9 hm=>jx (Zak (js:=[0,0]) ld cl34 (ZaA k qb1 fuse2 qh3 qd4 x6 gb5 go7 qm8 () hv_u_9) .func (.cons tR .nil) rfl) fun _=>jc (Zce lb tR rfl)<|jn<|JC.condF tR rfl<|JC.skip<|JQ.then<|jr<|jmv rfl rfl<|jc (Zae lb tR (fun e v h=>by subst h; rfl))<|jc (Zfy (j:=0) lb tA64 tR rfl (Comp.self (zq1 go7) ((),(qb1,(fuse2,(qh3,(qd4,())))))) rfl) ?_
 refine jx (Zcd lb tZ64 zr64) fun gb10=>JL.sub ⟨[(0,ov (PTR gb5 0)),(3,ov (PTR gb10 0)),(11,ov (A (zq1 go7) ((),(qb1,(fuse2,(qh3,(qd4,())))))))],[cvar gb5 (zq1 go7) ((),(qb1,(fuse2,(qh3,(qd4,()))))),cqm go7 (S rS) Zaa qm8 (some x6),cvar gb10 zq0 ((),((0 : Int),((0 : Int),(false,((0 : Int),())))))],[]⟩ (.cons rfl (.cons rfl (.cons rfl .nil))) rfl rfl<|jc (Zfe (j:=2) tA64 tR tR rfl (UpdR.self (by rfl)) rfl)<|jn<|jr<|jx (Ze1 lb (S rS) Zaa (fun _ : (List UInt8)=>0)) fun gb11=>jc (Zad (off:=0) lb Zct tR)<|jc (Zb4 (j:=2) tS62 tR tR rfl ((UpdR.fst (UpdR.self (by rfl))).at (by change 0 = (0 + 0); omega)) rfl)<|jn<|bI hm fun x26 hx1 hq1=>JC.seqJ (γ:=((List UInt8) → Nat)) (stj:=fun q=>⟨[(3,ov (PTR gb10 0))],[cvar gb10 (zq4 gb11) ((),(qb1,(fuse2,(qh3,(qd4,()))))),cqm (some gb11) (S rS) Zaa q (some x26),cvar gb5 (zq1 go7) ((),(qb1,(fuse2,(qh3,(qd4,()))))),cqm go7 (S rS) Zaa qm8 (some x6)],[]⟩) (fun q=>?_) ?_
 · obtain ⟨qm27,hqq⟩ : ∃ z,z = q:=⟨_,rfl⟩
   subst hqq
   refine JC.at ⟨[(3,ov (PTR gb10 0))],[cvar gb10 (zq4 gb11) ((),(qb1,(fuse2,(qh3,(qd4,()))))),cqm (some gb11) (S rS) Zaa qm27 (some x26),cvar gb5 (zq1 go7) ((),(qb1,(fuse2,(qh3,(qd4,()))))),cqm go7 (S rS) Zaa qm8 (some x6)],[]⟩<|jr<|jc (Zac lb tR)<|jn<|JC.ret ?_
   obtain rfl:=so hq1
   exact JQ.done (js:=[0,0,0,0]) (ss:=[.val (PTR gb10 0)]) (gb10,(some gb11),qm27) (.inl rfl) (.nil rfl) rfl (.cons (.tmp rfl) .nil) rfl rfl rfl
 refine jr<|jmv rfl rfl<|jc (Zae lb tR (fun e v h=>by subst h; rfl))<|JL.sub ⟨[(3,ov (PTR gb10 0)),(15,ov (PTR gb5 0))],[cvar gb5 (zq1 go7) ((),(qb1,(fuse2,(qh3,(qd4,()))))),cqm go7 (S rS) Zaa qm8 (some x6),cvar gb10 (zq4 gb11) ((),(qb1,(fuse2,(qh3,(qd4,()))))),cqm (some gb11) (S rS) Zaa (fun _ : (List UInt8)=>0) (some ([] : (List ((List UInt8) × Zaf))))],[]⟩ (.cons rfl (.cons rfl .nil)) rfl rfl<|jc (Zad (off:=0) lb Zct tR)<|jc (Zal (j:=0) lb tS62 tR rfl (Comp.trans (Comp.self (zq1 go7) ((),(qb1,(fuse2,(qh3,(qd4,())))))) (Comp.at' (Comp.inF (Comp.self (rW (MPV go7)) ()) (lE rfl)) (by rfl : _ = 0)) (lE rfl)))<|jx (ZgX (j:=1) lb tu62 rfl tR) fun gr12=>jn<|JC.block<|JC.pre ?_ (JC.mloop (γ:=((List UInt8) → Nat)) (stf:=fun s rem q=>⟨[(3,ov (PTR gb10 0)),(18,ov (PTR gr12 0))],[cvar gb10 (zq4 gb11) ((),(qb1,(fuse2,(qh3,(qd4,()))))),cqm (some gb11) (S rS) Zaa q (some s),cqmI go7 gr12 (S rS) Zaa qm8 (some x6) rem none,cvar gb5 (zq1 go7) ((),(qb1,(fuse2,(qh3,(qd4,())))))],[]⟩) (q:=(fun _ : (List UInt8)=>0)) hx1 ?_)
 · exact (Imp.norm (js:=[2,2,1,0]) rfl (.cons rfl (.cons rfl .nil)))
 intro x14 rem13 q hf
 obtain ⟨qm15,hqq⟩ : ∃ z,z = q:=⟨_,rfl⟩
 subst hqq
 refine JC.at ⟨[(3,ov (PTR gb10 0)),(18,ov (PTR gr12 0))],[cvar gb10 (zq4 gb11) ((),(qb1,(fuse2,(qh3,(qd4,()))))),cqm (some gb11) (S rS) Zaa qm15 (some x14),cqmI go7 gr12 (S rS) Zaa qm8 (some x6) rem13 none,cvar gb5 (zq1 go7) ((),(qb1,(fuse2,(qh3,(qd4,())))))],[]⟩<|jr<|JL.nextQ (j:=2) lb rfl tR (fun h0=>?_) (fun e16 rem17 hp=>?_)
 · subst h0
   replace hf:=Zhf hf
   change disk_Disk_Copy_p_smvvvvm.f1 k x14 = some _ at hf
   unfold disk_Disk_Copy_p_smvvvvm.f1 at hf
   refine lI hf fun x18 hv_x_18 hf=>JL.pre (Imp.mpermCQ (j:=1) rfl hv_x_18)<|jc (Zao (i:=0) lb tR rfl)<|jn<|JC.seq<|JC.condF tR rfl<|JC.exit<|JQ.outX ?_
   have ht:=Option.some.inj hf
   have hr:=ht
   have hq2:=cs ht
   clear hr ht
   refine JQ.outX<|JQ.pre (Imp.endItQ (j:=2) rfl)<|JQ.here ?_
   try obtain rfl:=so hq2
   exact JQ.join qm15 (Imp.norm (js:=[0,0,1,0]) rfl (.cons rfl .nil))
 obtain ⟨x,hx,hr,hn⟩:=Zgq hf hp
 change disk_Disk_Copy_p_smvvvvm.b1 k x6 x14 e16 = some x at hx
 unfold disk_Disk_Copy_p_smvvvvm.b1 at hx
 refine jc (Zao (i:=0) lb tR rfl)<|jn<|JC.seq<|JC.condT tR rfl<|JC.skip<|JQ.then<|JC.block<|jr<|jc (ZgT (j:=2) lb rfl tR)<|jc (Zao (i:=0) lb tR rfl)<|jc (Zao (i:=1) lb tR rfl)<|jc (Zac lb tR)<|jc (Zac lb tR)<|jn<|bI hx fun u19 hv_u_19 hx=>bI hx fun v20 hv20 hx=>bI hx fun u23 hv_u_23 hx=>?_
 obtain ⟨x25,hv_x_25,hx⟩:=Za2 hx
 refine JC.anyF (base:=[(3,ov (PTR gb10 0)),(4,ov (S rS e16.1)),(5,ov (PTR (qm8 e16.1) 0)),(18,ov (PTR gr12 0))])
     (fs:=fun γ=>[⟨some 24,ov (PTR gb10 (0 + 0))⟩,⟨some 25,ov (MPV (some gb11))⟩,⟨some 26,ov (S rS e16.1)⟩,⟨some 27,ov (PTR (qm8 e16.1) 0)⟩,⟨some 28,ov (PTR (qm8 e16.1) 0)⟩,⟨some 29,ov (PTR (qm8 e16.1) (0 + 0))⟩,⟨some 30,ov (S (rL (rU UInt8)) u19.b)⟩,⟨some 31,ov (S (rL (rU UInt8)) v20)⟩,⟨some 32,ov (PTR (qm8 e16.1) 0)⟩,⟨some 33,ov (PTR (qm8 e16.1) 0)⟩,⟨some 34,ov (PTR (qm8 e16.1) (0 + 1))⟩,⟨some 35,ov (S (rI .i64) u23.lasts)⟩,⟨some 36,ov (A (rP (rL (rU UInt8)) (rP (rI .i64) r0)) (v20,(u23.lasts,())))⟩,⟨some 37,ov (PTR (γ 13 0) 0)⟩,⟨none,.one .any⟩])
     (rs:=fun γ=>[⟨cvar gb10 (zq4 gb11) ((),(qb1,(fuse2,(qh3,(qd4,()))))),none,none,[1]⟩,⟨cqm (some gb11) (S rS) Zaa qm15 (some x14),none,(some 14),[]⟩,⟨cqmI go7 gr12 (S rS) Zaa qm8 (some x6) rem17 (some e16),none,none,[6,11]⟩,⟨cvar gb5 (zq1 go7) ((),(qb1,(fuse2,(qh3,(qd4,()))))),none,none,[]⟩,⟨cvar (γ 13 0) (rP (rL (rU UInt8)) (rP (rI .i64) r0)) (v20,(u23.lasts,())),(some 13),(some 14),[]⟩,⟨cqm (some gb11) (S rS) Zaa (updF qm15 e16.1 (γ 13 0)) (some x25),(some 14),none,[]⟩])
     (afts:=[[],[],[],[],[],[],[],[],[],[],[],[],[],[13,14],[]]) (js:=[0,0,0,0]) mixed (.cons rfl (.cons rfl (.cons rfl (.cons rfl .nil)))) (fun _=>rfl)
     (by
      refine dS 1 (fun γ ρ B hb hd=>Zad (off:=0) lb Zct (.tmp (hb 3 _ rfl)))<|dR 2 (fun γ ρ B hb hd=>Zag.lk ⟨ρ,(cvar gb10 (zq4 gb11) ((),(qb1,(fuse2,(qh3,(qd4,()))))))::B,_⟩ (Zal (j:=0) lb tS62 (tl hd 0 24) rfl (Comp.trans (Comp.self (zq4 gb11) ((),(qb1,(fuse2,(qh3,(qd4,())))))) (Comp.at' (Comp.inF (Comp.self (rW (MPV (some gb11))) ()) (lE rfl)) (by rfl : _ = 0)) (lE rfl))))<|db 3 4<|db 4 5<|dS 5 (fun γ ρ B hb hd=>Zae lb (tl hd 3 27) (fun e v h=>by subst h; rfl)) ?_
      refine dS 6 (fun γ ρ B hb hd=>Zad (off:=0) lb Zdh (tl hd 4 28))<|dR 7 (fun γ ρ B hb hd=>Zag.lk ⟨ρ,(cqmI go7 gr12 (S rS) Zaa qm8 (some x6) rem17 (some e16))::B,_⟩ (ZbC (j:=0) (m:=(some x6)) lb tS31 (tl hd 5 29) rfl hv_u_19 (cT (Za9 u19) rfl) rfl rfl))<|dS 8 (fun γ ρ B hb hd=>(Zak (js:=[]) ld cl36 (ZbV k u19.b v20 hv20) .func (.cons (tl hd 6 30) .nil) rfl).post (fun q=>Imp.dropF (j:=0) rfl))<|db 9 5<|dS 10 (fun γ ρ B hb hd=>Zae lb (tl hd 8 32) (fun e v h=>by subst h; rfl)) ?_
      refine dS 11 (fun γ ρ B hb hd=>Zad (off:=1) lb ZeE (tl hd 9 33))<|dR 12 (fun γ ρ B hb hd=>Zag.lk ⟨ρ,(cqmI go7 gr12 (S rS) Zaa qm8 (some x6) rem17 (some e16))::B,_⟩ (ZbC (j:=0) (m:=(some x6)) lb tS3 (tl hd 10 34) rfl hv_u_23 (cT (Zbv u23) rfl) rfl rfl))<|dS 13 (fun γ ρ B hb hd=>ZdI lb tZ71 zr71 tp71 (.S (off:=0) rfl (tl hd 7 31) rfl ((UpdR.fst (UpdR.self (by rfl))).at (by rfl)) (.S (off:=1) rfl (tl hd 11 35) rfl ((UpdR.snd (UpdR.fst (UpdR.self (by rfl)))).at (by rfl)) .nil)) rfl) ?_
      refine Zat.cons (j:=14) rfl (fun _=>rfl) (.runX (fun _ _=>rfl) (fun γ ρ B hb hd=>⟨.none,OpX.ghost (γ:=Nat) (st':=fun q=>setO ⟨ρ,(cvar q (rP (rL (rU UInt8)) (rP (rI .i64) r0)) (v20,(u23.lasts,())))::B,_⟩ (some 37) (ov (PTR q 0))) (fun q c=>q) (OpX.front (Zd4 lb (tl hd 12 36))) (fun q=>Imp.refl)⟩) (fun _ _=>rfl) (fun _ _=>rfl)) ?_
      refine dR 15 (fun γ ρ B hb hd=>Zag.at ⟨ρ,(cqm (some gb11) (S rS) Zaa qm15 (some x14))::(cvar (γ 13 0) (rP (rL (rU UInt8)) (rP (rI .i64) r0)) (v20,(u23.lasts,())))::B,_⟩ (setO ⟨ρ,(cqm (some gb11) (S rS) Zaa (updF qm15 e16.1 (γ 13 0)) (some x25))::B,_⟩ _ _) (ZgD (js:=[0,0]) (.inl rfl) tu62 ky9 rfl (Wk.st Wk.refl) (tl hd 1 25) (tl hd 2 26) (tl hd 13 37) (congrArg (fun z=>some (some z)) hv_x_25))) ?_
      exact Zat.nil)
     (by decide +kernel) (fun _=>rfl) (fun _=>rfl) (fun _=>rfl) rfl
     (ρ':=fun γ=>[(3,ov (PTR gb10 0)),(18,ov (PTR gr12 0))])
     (X':=fun γ=>[cvar gb10 (zq4 gb11) ((),(qb1,(fuse2,(qh3,(qd4,()))))),cqmI go7 gr12 (S rS) Zaa qm8 (some x6) rem17 (some e16),cvar gb5 (zq1 go7) ((),(qb1,(fuse2,(qh3,(qd4,()))))),cqm (some gb11) (S rS) Zaa (updF qm15 e16.1 (γ 13 0)) (some x25)])
     (fun γ ρ hb hd=>(.cons (hb 3 _ rfl) (.cons (hb 18 _ rfl) .nil))) (fun _=>rfl) (fun γ=>?_)
 generalize (γ 13 0) = gb24
 clear γ
 refine JQ.at ⟨[(3,ov (PTR gb10 0)),(18,ov (PTR gr12 0))],[cvar gb10 (zq4 gb11) ((),(qb1,(fuse2,(qh3,(qd4,()))))),cqmI go7 gr12 (S rS) Zaa qm8 (some x6) rem17 (some e16),cvar gb5 (zq1 go7) ((),(qb1,(fuse2,(qh3,(qd4,()))))),cqm (some gb11) (S rS) Zaa (updF qm15 e16.1 gb24) (some x25)],[]⟩<|JQ.outNB ?_
 try obtain rfl:=so hx
 exact JQ.pre (Imp.forgetQ (j:=1) rfl)<|JQ.mnext (updF qm15 e16.1 gb24) hp (hn _ rfl) (Imp.norm (js:=[0,2,0,0]) rfl (.cons rfl (.cons rfl .nil)))

theorem Zb8 (k : Nat) (x1 : (List ((List UInt8) × Zaf))) (go2 : Option Nat) (qm3 : ((List UInt8) → Nat)) (r : Unit) (hm : Za3 k x1 = some r) : Sim Try.prog 39 [MPV go2] [cqm go2 (S rS) Zaa qm3 (some x1)] (γ:=Nat) (fun q=>[cvar q (rW (MPV go2)) (),cqm go2 (S rS) Zaa qm3 (some x1)]) (fun q=>.one (.val (CLO 61 [PTR q 0]))):=by
 unfold Za3 at hm
 refine Sim.of Try.func39 rfl rfl (lE rfl) (fun e0 w0=>?_)
 exact JC.at ⟨[(0,ov (MPV go2))],[cqm go2 (S rS) Zaa qm3 (some x1)],[]⟩<|jr<|jx (Zd6 lb tR) fun gb4=>jc (Zac lb (HasO.const (p:=NILF) fun _=>rfl))<|jn<|jr<|jc (ZcH lb (.cons tR .nil))<|jc (Zac lb tR)<|jn<|JC.ret<|JQ.done (js:=[1,0]) (ss:=[.val (CLO 61 [PTR gb4 0])]) gb4 (.inl rfl) (.nil rfl) rfl (.cons (.tmp rfl) .nil) rfl rfl rfl

end Go.Proofs.Ytipchpbcjkhnaaa
