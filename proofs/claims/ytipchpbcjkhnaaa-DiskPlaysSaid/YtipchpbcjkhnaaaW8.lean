/- Walks. -/
import Derived.Test.YtipchpbcjkhnaaaT
import Derived.Test.YtipchpbcjkhnaaaW0
import Derived.Test.YtipchpbcjkhnaaaW1
import Derived.Test.YtipchpbcjkhnaaaW2
import Derived.Test.YtipchpbcjkhnaaaW3
import Derived.Test.YtipchpbcjkhnaaaW4
import Derived.Test.YtipchpbcjkhnaaaW7
namespace Go.Proofs.Ytipchpbcjkhnaaa
open Go Fw
set_option linter.unusedVariables false
set_option maxRecDepth 100000
set_option maxHeartbeats 4000000

theorem Zdu (k : Nat) (qn1 : (List UInt8)) (qb2 : Int) (qg3 : Int) (qh4 : Bool) (qd5 : Int) (x7 : (List ((List UInt8) × Zaf))) (gb6 : Nat) (go8 : Option Nat) (qm9 : ((List UInt8) → Nat)) (r : Int × (List ((List UInt8) × Zaf)) × Int × Bool × Int) (hm : Zbe k qn1 qb2 qg3 qh4 qd5 x7 = some r) : Sim Try.prog 37 [PTR gb6 0,S rS qn1] [cvar gb6 (zq1 go8) ((),(qb2,(qg3,(qh4,(qd5,()))))),cqm go8 (S rS) Zaa qm9 (some x7)] (γ:=Unit) (fun q=>[cvar gb6 (zq1 go8) ((),(qb2,(r.2.2.1,(r.2.2.2.1,(r.2.2.2.2,()))))),cqm go8 (S rS) Zaa qm9 (some r.2.1)]) (fun q=>.one (.val (S (rI .i64) r.1))):=by
 unfold Zbe at hm
 refine Sim.of Try.func37 rfl rfl (lE rfl) (fun e0 w0=>?_)
 refine JC.at ⟨[(0,ov (PTR gb6 0)),(1,ov (S rS qn1))],[cvar gb6 (zq1 go8) ((),(qb2,(qg3,(qh4,(qd5,()))))),cqm go8 (S rS) Zaa qm9 (some x7)],[]⟩<|jr<|jx (Zd6 lb tR) fun gb10=>jx (ZdT lb tR) fun gb11=>jc (Zac lb .cI)<|jn<|JC.seq<|jr<|jc (Zal (j:=2) lb tS25 tR rfl (Comp.self (rW (PTR gb6 0)) ()))<|jc (Zam (j:=3) lb tS9 tR rfl (Comp.self rS qn1) rfl rfl) ?_
 obtain ⟨⟨v12,v13⟩,hv12,hm⟩:=Zas hm
 refine jx (Zak (js:=[0,0]) ld cl35 (Zbj k qn1 qb2 qg3 qh4 qd5 x7 gb6 go8 qm9 (v12,v13) hv12) .func (.cons tR (.cons tR .nil)) rfl) fun _=>JL.sub ⟨[(2,ov (PTR gb10 0)),(3,ov (PTR gb11 0)),(10,.tup [.val (PTO (Option.map (fun _=>qm9 qn1) v12)),.val (S (rI .i64) v13)])],[cqm go8 (S rS) Zaa qm9 (some x7),cvar gb6 (zq1 go8) ((),(qb2,(qg3,(qh4,(qd5,()))))),cvar gb10 (rW (PTR gb6 0)) (),cvar gb11 rS qn1],[]⟩ (.cons rfl (.cons rfl (.cons rfl .nil))) rfl rfl<|jmv rfl rfl<|jc (Zao (i:=0) lb tR rfl)<|jc (Zao (i:=1) lb tR rfl)<|jc (Zac lb tR)<|jc (Zac lb tR)<|jn<|jr<|jmv rfl rfl<|lI hm fun v14 hv14 hm=>jc (Zan lb tR .cI (cs hv14))<|jn<|jif tR hm (fun hc1 hm=>?_) (fun hc1 hm=>?_)
 · refine jr<|jmv rfl rfl<|jc (Zac lb tR)<|jn<|JC.ret<|JQ.outR ?_
   obtain rfl:=so hm
   exact JQ.done (js:=[1,0]) (ss:=[.val (S (rI .i64) v13)]) () (.inl rfl) (.nil rfl) rfl (.cons (.tmp rfl) .nil) rfl rfl rfl
 refine JC.skip<|JQ.then<|jr<|jc (Zal (j:=2) lb tS25 tR rfl (Comp.self (rW (PTR gb6 0)) ()))<|jc (ZcH lb (.cons tR (.cons tR .nil))) ?_
 obtain ⟨⟨v15,x16,x17,x18,x19⟩,hv15,hm⟩:=Zas hm
 refine jx (Zak (js:=[1,0,0,0]) ld cl53 (ZcW k qb2 qg3 qh4 qd5 x7 qn1 gb6 go8 qm9 gb10 gb11 (v15,x16,x17,x18,x19) hv15) .func (.cons tR (.cons tR (.cons .func .nil))) rfl) fun _=>JL.nrm ⟨[(18,ov (S (rI .i64) v15))],[cvar gb6 (zq1 go8) ((),(qb2,(x17,(x18,(x19,()))))),cqm go8 (S rS) Zaa qm9 (some (x16))],[]⟩ [0,0] rfl (.cons rfl .nil) rfl<|jc (Zac lb tR)<|jn<|JC.ret ?_
 obtain rfl:=so hm
 exact JQ.done (js:=[0,0]) (ss:=[.val (S (rI .i64) v15)]) () (.inl rfl) (.nil rfl) rfl (.cons (.tmp rfl) .nil) rfl rfl rfl

theorem Zen (k : Nat) (a1 : Za7) (qb2 : Int) (qg3 : Int) (qh4 : Bool) (qd5 : Int) (x7 : (List ((List UInt8) × Zaf))) (gb6 : Nat) (go8 : Option Nat) (qm9 : ((List UInt8) → Nat)) (r : Int × (List ((List UInt8) × Zaf)) × Int × Bool × Int) (hm : law05_do_pv_smvvvvm k a1 qb2 qg3 qh4 qd5 x7 = some r) : Sim Try.prog 13 [PTR gb6 0,A Zaj a1] [cvar gb6 (zq1 go8) ((),(qb2,(qg3,(qh4,(qd5,()))))),cqm go8 (S rS) Zaa qm9 (some x7)] (γ:=Nat × Option Nat × ((List UInt8) → Nat)) (fun q=>[cvar q.1 (rP (rW (MPV q.2.1)) (rP (rI .i64) (rP (rI .i64) (rP rB (rP (rI .i64) r0))))) ((),(qb2,(r.2.2.1,(r.2.2.2.1,(r.2.2.2.2,()))))),cqm q.2.1 (S rS) Zaa q.2.2 (some r.2.1)]) (fun q=>.tup [.val (S (rI .i64) r.1),.val (PTR q.1 0)]):=by
 unfold law05_do_pv_smvvvvm at hm
 refine Sim.of Try.func13 rfl rfl (lE rfl) (fun e0 w0=>?_)
 refine JC.at ⟨[(0,ov (PTR gb6 0)),(1,ov (A Zaj a1))],[cvar gb6 (zq1 go8) ((),(qb2,(qg3,(qh4,(qd5,()))))),cqm go8 (S rS) Zaa qm9 (some x7)],[]⟩<|jr<|jx (Zd4 lb tR) fun gb10=>jc (Zac lb .cI)<|jc (Zac lb (HasO.const (p:=PTO none) fun _=>rfl))<|jn<|bI hm fun tv1 hx1 hq1=>JC.seqK (α:=Int) (γ:=Unit) (stj:=fun v q=>⟨[(0,ov (PTR gb6 0))],[cvar gb6 (zq1 go8) ((),(qb2,(v,(qh4,(qd5,()))))),cqm go8 (S rS) Zaa qm9 (some x7)],[]⟩) (p:=fun v=>tv1 = (.inl v)) (fun v q hv=>?_) ?_
 · subst hv
   obtain ⟨qg69,hvv⟩ : ∃ z,z = v:=⟨_,rfl⟩
   subst hvv
   obtain _:=q
   dsimp only at hq1
   refine JC.at ⟨[(0,ov (PTR gb6 0))],[cvar gb6 (zq1 go8) ((),(qb2,(qg69,(qh4,(qd5,()))))),cqm go8 (S rS) Zaa qm9 (some x7)],[]⟩<|jr<|jmv rfl rfl<|jc (Zac lb .cI)<|jc (Zac lb tR)<|jn<|JC.ret ?_
   obtain rfl:=so hq1
   exact JQ.done (js:=[0,0]) (ss:=[.val (S (rI .i64) (0 : Int)),.val (PTR gb6 0)]) (gb6,go8,qm9) (.inl rfl) (.nil rfl) rfl (.cons (.tmp rfl) (.cons (.tmp rfl) .nil)) rfl rfl rfl
 refine jr<|jc (Zad (off:=0) lb Zkc tR)<|jc (Zam (j:=2) lb tS3 tR rfl (cT (ZdH a1) rfl) rfl rfl)<|jn<|JC.block<|jr<|lI hx1 fun v11 hv11 hx1=>jc (Zan lb tR .cI (cs hv11))<|jc (Zac lb tR)<|jn<|jif tR hx1 (fun hc2 hx1=>?_) (fun hc2 hx1=>?_)
 · refine jr<|jc (Zad (off:=4) lb Zig tR)<|jc (Zam (j:=2) lb tS31 tR rfl (cT (ZcL a1) rfl) rfl rfl)<|bI hx1 fun v12 hv12 hx1=>JL.pre (Imp.nilown (rU UInt8))<|jx (Zcg (j:=3) lb tu31 tu31 rfl tB5 rfl (Nat.lt_of_lt_of_le Nat.zero_lt_one (lE rfl)) (Nat.lt_of_lt_of_le Nat.zero_lt_one (lE rfl))  rfl HasO.nilH tR hv12) (fun q=>?_)
   obtain ⟨go13,gc14⟩:=q
   refine JL.sub ⟨[(0,ov (PTR gb6 0)),(3,ov (PTR gb10 0)),(15,ov (HDR go13 0 (List.length v12) gc14))],[cvar gb6 (zq1 go8) ((),(qb2,(qg3,(qh4,(qd5,()))))),cqm go8 (S rS) Zaa qm9 (some x7),cvar gb10 Zaj a1,cown go13 (rU UInt8) v12 0 gc14],[]⟩ (.cons rfl (.cons rfl (.cons rfl .nil))) rfl rfl<|jc (Zd8 (r:=(rU UInt8)) lb tu31 tz5 tZ5 rfl (lE rfl) (.S rfl (HasO.cU (x:=(7 : UInt8)) rfl (by decide)) .nil) rfl)<|bI hx1 fun x15 hv_x_15 hx1=>jx (Zcg (j:=3) lb tu31 tu31 rfl tB5 rfl (Nat.lt_of_lt_of_le Nat.zero_lt_one (lE rfl)) (Nat.lt_of_lt_of_le Nat.zero_lt_one (lE rfl))  rfl tR tR hv_x_15) (fun q=>?_)
   obtain ⟨go16,gc17⟩:=q
   refine jc (Zac lb tR)<|jn<|JC.seq ?_
   obtain ⟨⟨o18,n19⟩,hv_o_18,hx1⟩:=Zas hx1
   obtain ⟨⟨v20,x21,x22,x23,x24⟩,hv20,hx1⟩:=Zas hx1
   refine JC.anyF (base:=[(0,ov (PTR gb6 0)),(3,ov (PTR gb10 0)),(6,ov (HDR go16 0 (List.length x15) gc17))])
       (fs:=fun γ=>[⟨some 18,ov (PTR gb6 0)⟩,⟨some 19,ov (PTR gb10 (0 + 2))⟩,⟨some 20,ov (S rS a1.Name)⟩,⟨some 21,ov (HDR go16 0 (List.length x15) gc17)⟩,⟨some 22,ov (PTR gb10 (0 + 4))⟩,⟨some 23,ov (S (rL (rU UInt8)) a1.B)⟩,⟨some 24,ov (S (rI .i64) (List.length a1.B : Int))⟩,⟨some 25,ov (HDX go16 (o18 * 1) n19)⟩,⟨some 26,ov (S (rI .i64) v20)⟩,⟨some 7,ov (S (rI .i64) v20)⟩])
       (rs:=fun γ=>[⟨cvar gb6 (zq1 go8) ((),(qb2,(qg3,(qh4,(qd5,()))))),none,(some 8),[]⟩,⟨cqm go8 (S rS) Zaa qm9 (some x7),none,(some 8),[]⟩,⟨cvar gb10 Zaj a1,none,none,[2,5]⟩,⟨cown go16 (rU UInt8) x15 0 gc17,none,none,[7,8]⟩,⟨cvar gb6 (zq1 go8) ((),(qb2,(x22,(x23,(x24,()))))),(some 8),none,[]⟩,⟨cqm go8 (S rS) Zaa (deF (γ 8)) (some (x21)),(some 8),none,[]⟩])
       (afts:=[[],[],[],[],[],[],[],[],[8,9],[]]) (js:=[0,0,0,0]) mixed (.cons rfl (.cons rfl (.cons rfl .nil))) (fun _=>rfl)
       (by
      refine db 1 0<|dS 2 (fun γ ρ B hb hd=>Zad (off:=2) lb Zdj (.tmp (hb 3 _ rfl)))<|dR 3 (fun γ ρ B hb hd=>Zag.lk ⟨ρ,(cvar gb10 Zaj a1)::B,_⟩ (Zam (j:=0) lb tS9 (tl hd 1 19) rfl (cT (Zav a1) rfl) rfl rfl))<|db 4 6<|dS 5 (fun γ ρ B hb hd=>Zad (off:=4) lb Zig (.tmp (hb 3 _ rfl))) ?_
      refine dR 6 (fun γ ρ B hb hd=>Zag.lk ⟨ρ,(cvar gb10 Zaj a1)::B,_⟩ (Zam (j:=0) lb tS31 (tl hd 4 22) rfl (cT (ZcL a1) rfl) rfl rfl))<|dS 7 (fun γ ρ B hb hd=>Zcc lb tu31 (tl hd 5 23))<|dR 8 (fun γ ρ B hb hd=>Zag.lk ⟨ρ,(cown go16 (rU UInt8) x15 0 gc17)::B,_⟩ (Zjn (r:=(rU UInt8)) (j:=0) lb tu31 tz5 rfl (HasO.wk (q:=HDE go16 (List.length x15) gc17) (tl hd 3 21) wkTE) .none (.some (tl hd 6 24)) hv_o_18)) ?_
      refine Zat.cons (j:=9) rfl (fun _=>rfl) (.runX (fun _ _=>rfl) (fun γ ρ B hb hd=>⟨.none,OpX.ghost (γ:=((List UInt8) → Nat)) (st':=fun q=>setO ⟨ρ,(cvar gb6 (zq1 go8) ((),(qb2,(x22,(x23,(x24,()))))))::(cqm go8 (S rS) Zaa q (some (x21)))::(cown go16 (rU UInt8) x15 0 gc17)::B,_⟩ (some 26) (ov (S (rI .i64) v20))) (fun q=>enF (fun c=>0) q) (Zak (js:=[0,0,0]) ld cl28 (Zdm k a1.Name o18 n19 qb2 qg3 qh4 qd5 x7 x15 gb6 go8 qm9 go16 gc17 (v20,x21,x22,x23,x24) hv20) .func (.cons (tl hd 0 18) (.cons (tl hd 2 20) (.cons (tl hd 7 25) .nil))) rfl) (fun q=>by simp only [ZkD]; exact Imp.pick (js:=[0,0,0]) rfl rfl)⟩) (fun _ _=>rfl) (fun _ _=>rfl)) ?_
      refine dS 10 (fun γ ρ B hb hd=>Zac lb (tl hd 8 26)) ?_
      exact Zat.nil)
       (by decide +kernel) (fun _=>rfl) (fun _=>rfl) (fun _=>rfl) rfl
       (ρ':=fun γ=>[(0,ov (PTR gb6 0)),(6,ov (HDR go16 0 (List.length x15) gc17)),(7,ov (S (rI .i64) v20))])
       (X':=fun γ=>[cvar gb10 Zaj a1,cown go16 (rU UInt8) x15 0 gc17,cvar gb6 (zq1 go8) ((),(qb2,(x22,(x23,(x24,()))))),cqm go8 (S rS) Zaa (deF (γ 8)) (some (x21))])
       (fun γ ρ hb hd=>(.cons (hb 0 _ rfl) (.cons (hb 6 _ rfl) (.cons (hdq hd 9 7 rfl) .nil)))) (fun _=>rfl) (fun γ=>?_)
   generalize (deF (γ 8)) = qm25
   clear γ
   refine JQ.at ⟨[(0,ov (PTR gb6 0)),(6,ov (HDR go16 0 (List.length x15) gc17)),(7,ov (S (rI .i64) v20))],[cvar gb10 Zaj a1,cown go16 (rU UInt8) x15 0 gc17,cvar gb6 (zq1 go8) ((),(qb2,(x22,(x23,(x24,()))))),cqm go8 (S rS) Zaa qm25 (some (x21))],[]⟩<|JQ.then<|bI hx1 fun _ hx3 hq3=>JC.seqJ (γ:=Unit) (stj:=fun _=>⟨[(0,ov (PTR gb6 0)),(7,ov (S (rI .i64) v20))],[cvar gb6 (zq1 go8) ((),(qb2,(x22,(x23,(x24,()))))),cqm go8 (S rS) Zaa qm25 (some (x21))],[]⟩) (fun _=>?_) ?_
   · refine jr<|jmv rfl rfl<|bI hq3 fun _ hv_u_32 hq3=>jx (Zak (js:=[]) ld cl10 (ZaW k v20 () hv_u_32) .func (.cons tR .nil) rfl) fun _=>jmv rfl rfl<|jc (Zac lb tR)<|jc (Zac lb tR)<|jn<|JC.ret<|JQ.outRB ?_
     try obtain rfl:=so hq3
     dsimp only at hq1
     refine JQ.outR ?_
     obtain rfl:=so hq1
     exact JQ.done (js:=[0,0]) (ss:=[.val (S (rI .i64) v20),.val (PTR gb6 0)]) (gb6,go8,qm25) (.inl rfl) (.nil rfl) rfl (.cons (.tmp rfl) (.cons (.tmp rfl) .nil)) rfl rfl rfl
   refine jr<|jc (Zac lb .cI)<|jn<|JC.block<|JC.pre ?_ (JC.loop (γ:=Unit) (stf:=fun s q=>⟨[(0,ov (PTR gb6 0)),(6,ov (HDR go16 0 (List.length s.1) gc17)),(7,ov (S (rI .i64) v20)),(8,ov (S (rI .i64) s.2))],[cvar gb6 (zq1 go8) ((),(qb2,(x22,(x23,(x24,()))))),cqm go8 (S rS) Zaa qm25 (some (x21)),cown go16 (rU UInt8) s.1 0 gc17],[]⟩) (q:=()) hx3 ?_)
   · exact (Imp.norm (js:=[2,2,1]) rfl (.cons rfl (.cons rfl (.cons rfl (.cons rfl .nil)))))
   intro s q x hx hr
   obtain ⟨x26,x27⟩:=s
   obtain _:=q
   change law05_do_pv_smvvvvm.b1 k x26 x27 = some x at hx
   unfold law05_do_pv_smvvvvm.b1 at hx
   refine JC.at ⟨[(0,ov (PTR gb6 0)),(6,ov (HDR go16 0 (List.length x26) gc17)),(7,ov (S (rI .i64) v20)),(8,ov (S (rI .i64) x27))],[cvar gb6 (zq1 go8) ((),(qb2,(x22,(x23,(x24,()))))),cqm go8 (S rS) Zaa qm25 (some (x21)),cown go16 (rU UInt8) x26 0 gc17],[]⟩<|JC.seq<|jr<|jmv rfl rfl<|jmv rfl rfl<|jc (Zb2 lb tu31 tR)<|lI hx fun v28 hv28 hx=>jc (Zan lb tR tR (cs hv28))<|jn<|jif tR hx (fun hc5 hx=>?_) (fun hc5 hx=>?_)
   · refine JC.skip<|JQ.then<|JC.seq<|JC.block<|JC.region<|jmv rfl rfl<|jmv rfl rfl<|bI hx fun i29 hv_i_29 hx=>jc (Zap (r:=(rU UInt8)) (j:=2) lb tu31 tz5 rfl tR tR hv_i_29)<|bI hx fun x30 hv_x_30 hx=>jc (Ze0 (r:=(rU UInt8)) (j:=2) tS5 rfl rfl tR (HasO.cU (x:=(9 : UInt8)) rfl (by decide)) hv_x_30)<|JL.pre (Imp.slot (s:=6) (q:=HDR go16 0 (List.length x30) gc17) rfl (ZgA (ZeF hv_x_30)))<|JL.pre (Imp.slot (s:=28) (q:=HDR go16 0 (List.length x30) gc17) rfl (ZgA (ZeF hv_x_30))) ?_
     refine JL.pre (Imp.slot (s:=33) (q:=HDR go16 0 (List.length x30) gc17) rfl (ZgA (ZeF hv_x_30)))<|JL.nil<|JQ.outNB<|JQ.then<|JC.region<|jmv rfl rfl<|lI hx fun v31 hv31 hx=>jc (Zbx lb tR .cI (cs hv31))<|JL.sub ⟨[(0,ov (PTR gb6 0)),(6,ov (HDR go16 0 (List.length x30) gc17)),(7,ov (S (rI .i64) v20)),(8,ov (S (rI .i64) x27)),(32,ov (S (rI .i64) v31))],[cvar gb6 (zq1 go8) ((),(qb2,(x22,(x23,(x24,()))))),cqm go8 (S rS) Zaa qm25 (some (x21)),cown go16 (rU UInt8) x30 0 gc17],[]⟩ (.cons rfl (.cons rfl (.cons rfl (.cons rfl (.cons rfl .nil))))) rfl rfl<|jc (Zac lb tR)<|JL.nil ?_
     try obtain rfl:=so hx
     exact JQ.next () rfl (Imp.norm (js:=[0,0,0]) rfl (.cons rfl (.cons rfl (.cons rfl (.cons rfl .nil)))))
   refine JC.exit<|JQ.outX ?_
   try obtain rfl:=so hx
   have ht:=hr _ rfl
   have hq4:=cs ht
   clear hr ht
   exact JQ.outX<|JQ.here<|JQ.join () (Imp.norm (js:=[0,0]) rfl (.cons rfl (.cons rfl .nil)))
 refine jr<|lI hx1 fun v33 hv33 hx1=>jc (Zan lb tR .cI (cs hv33))<|jc (Zac lb tR)<|jn<|jif tR hx1 (fun hc6 hx1=>?_) (fun hc6 hx1=>?_)
 · refine jr<|jmv rfl rfl<|JL.sub ⟨[(0,ov (PTR gb6 0)),(3,ov (PTR gb10 0)),(4,ov (S (rI .i64) (0 : Int))),(5,ov (PTO none)),(41,ov (PTR gb6 0))],[cvar gb6 (zq1 go8) ((),(qb2,(qg3,(qh4,(qd5,()))))),cqm go8 (S rS) Zaa qm9 (some x7),cvar gb10 Zaj a1],[]⟩ (.cons rfl (.cons rfl (.cons rfl (.cons rfl (.cons rfl .nil))))) rfl rfl<|jc (Zad (off:=2) lb Zdj tR)<|jc (Zam (j:=2) lb tS9 tR rfl (cT (Zav a1) rfl) rfl rfl) ?_
   obtain ⟨⟨v34,x35,x36,x37,x38⟩,hv34,hx1⟩:=Zas hx1
   refine jx (Zak (js:=[0,0]) ld cl31 (Zcy k a1.Name qb2 qg3 qh4 qd5 x7 gb6 go8 qm9 (v34,x35,x36,x37,x38) hv34) .func (.cons tR (.cons tR .nil)) rfl) fun _=>bI hx1 fun _ hv_u_39 hx1=>jx (Zak (js:=[]) ld cl10 (ZaW k v34 () hv_u_39) .func (.cons tR .nil) rfl) fun _=>jmv rfl rfl<|jc (Zac lb tR)<|jc (Zac lb tR)<|jn<|JC.ret<|JQ.outRB ?_
   try obtain rfl:=so hx1
   dsimp only at hq1
   refine JQ.outR ?_
   obtain rfl:=so hq1
   exact JQ.done (js:=[0,0]) (ss:=[.val (S (rI .i64) v34),.val (PTR gb6 0)]) (gb6,go8,qm9) (.inl rfl) (.nil rfl) rfl (.cons (.tmp rfl) (.cons (.tmp rfl) .nil)) rfl rfl rfl
 refine jr<|lI hx1 fun v40 hv40 hx1=>jc (Zan lb tR .cI (cs hv40))<|JL.sub ⟨[(0,ov (PTR gb6 0)),(3,ov (PTR gb10 0)),(10,ov (S (rI .i64) a1.Kind)),(48,ov (S rB v40))],[cvar gb6 (zq1 go8) ((),(qb2,(qg3,(qh4,(qd5,()))))),cqm go8 (S rS) Zaa qm9 (some x7),cvar gb10 Zaj a1],[]⟩ (.cons rfl (.cons rfl (.cons rfl (.cons rfl .nil)))) rfl rfl<|jc (Zac lb tR)<|jn<|jif tR hx1 (fun hc7 hx1=>?_) (fun hc7 hx1=>?_)
 · refine jr<|jmv rfl rfl<|jc (Zad (off:=2) lb Zdj tR)<|jc (Zam (j:=2) lb tS9 tR rfl (cT (Zav a1) rfl) rfl rfl)<|jc (Zad (off:=1) lb ZhT tR)<|jc (Zam (j:=2) lb tS3 tR rfl (cT (ZcN a1) rfl) rfl rfl) ?_
   obtain ⟨⟨v41,x42,x43,x44,x45⟩,hv41,hx1⟩:=Zas hx1
   refine jx (Zak (js:=[0,0]) ld cl33 (Zcz k a1.Name a1.N qb2 qg3 qh4 qd5 x7 gb6 go8 qm9 (v41,x42,x43,x44,x45) hv41) .func (.cons tR (.cons tR (.cons tR .nil))) rfl) fun _=>bI hx1 fun _ hv_u_46 hx1=>jx (Zak (js:=[]) ld cl10 (ZaW k v41 () hv_u_46) .func (.cons tR .nil) rfl) fun _=>jmv rfl rfl<|jc (Zac lb tR)<|JL.nrm ⟨[(4,ov (S (rI .i64) v41)),(56,ov (PTR gb6 0))],[cvar gb6 (zq1 go8) ((),(qb2,(x43,(x44,(x45,()))))),cqm go8 (S rS) Zaa qm9 (some (x42))],[]⟩ [0,0] rfl (.cons rfl (.cons rfl .nil)) rfl<|jc (Zac lb tR)<|jn<|JC.ret<|JQ.outRB ?_
   try obtain rfl:=so hx1
   dsimp only at hq1
   refine JQ.outR ?_
   obtain rfl:=so hq1
   exact JQ.done (js:=[0,0]) (ss:=[.val (S (rI .i64) v41),.val (PTR gb6 0)]) (gb6,go8,qm9) (.inl rfl) (.nil rfl) rfl (.cons (.tmp rfl) (.cons (.tmp rfl) .nil)) rfl rfl rfl
 refine jr<|lI hx1 fun v47 hv47 hx1=>jc (Zan lb tR .cI (cs hv47))<|jc (Zac lb tR)<|jn<|jif tR hx1 (fun hc8 hx1=>?_) (fun hc8 hx1=>?_)
 · refine jr<|jmv rfl rfl<|jc (Zad (off:=2) lb Zdj tR)<|jc (Zam (j:=2) lb tS9 tR rfl (cT (Zav a1) rfl) rfl rfl)<|jc (Zad (off:=3) lb Zi9 tR)<|jc (Zam (j:=2) lb tS9 tR rfl (cT (Zdi a1) rfl) rfl rfl) ?_
   obtain ⟨⟨v48,x49,x50,x51,x52⟩,hv48,hx1⟩:=Zas hx1
   refine jx (Zak (js:=[0,0]) ld cl29 (Zck k a1.Name a1.To qb2 qg3 qh4 qd5 x7 gb6 go8 qm9 (v48,x49,x50,x51,x52) hv48) .func (.cons tR (.cons tR (.cons tR .nil))) rfl) fun qm53=>bI hx1 fun _ hv_u_54 hx1=>jx (Zak (js:=[]) ld cl10 (ZaW k v48 () hv_u_54) .func (.cons tR .nil) rfl) fun _=>JL.nrm ⟨[(0,ov (PTR gb6 0)),(65,ov (S (rI .i64) v48))],[cvar gb6 (zq1 go8) ((),(qb2,(x50,(x51,(x52,()))))),cqm go8 (S rS) Zaa qm53 (some (x49))],[]⟩ [0,0] rfl (.cons rfl (.cons rfl .nil)) rfl<|jmv rfl rfl<|jc (Zac lb tR)<|jc (Zac lb tR)<|jn<|JC.ret<|JQ.outRB ?_
   try obtain rfl:=so hx1
   dsimp only at hq1
   refine JQ.outR ?_
   obtain rfl:=so hq1
   exact JQ.done (js:=[0,0]) (ss:=[.val (S (rI .i64) v48),.val (PTR gb6 0)]) (gb6,go8,qm53) (.inl rfl) (.nil rfl) rfl (.cons (.tmp rfl) (.cons (.tmp rfl) .nil)) rfl rfl rfl
 refine jr<|lI hx1 fun v55 hv55 hx1=>jc (Zan lb tR .cI (cs hv55))<|jc (Zac lb tR)<|jn<|jif tR hx1 (fun hc9 hx1=>?_) (fun hc9 hx1=>?_)
 · refine jr<|jmv rfl rfl<|jc (Zad (off:=2) lb Zdj tR)<|jc (Zam (j:=2) lb tS9 tR rfl (cT (Zav a1) rfl) rfl rfl) ?_
   obtain ⟨⟨v56,x57,x58,x59,x60⟩,hv56,hx1⟩:=Zas hx1
   refine jx (Zak (js:=[0,0]) ld cl37 (Zdu k a1.Name qb2 qg3 qh4 qd5 x7 gb6 go8 qm9 (v56,x57,x58,x59,x60) hv56) .func (.cons tR (.cons tR .nil)) rfl) fun _=>bI hx1 fun _ hv_u_61 hx1=>jx (Zak (js:=[]) ld cl10 (ZaW k v56 () hv_u_61) .func (.cons tR .nil) rfl) fun _=>JL.nrm ⟨[(0,ov (PTR gb6 0)),(73,ov (S (rI .i64) v56))],[cvar gb6 (zq1 go8) ((),(qb2,(x58,(x59,(x60,()))))),cqm go8 (S rS) Zaa qm9 (some (x57))],[]⟩ [0,0] rfl (.cons rfl (.cons rfl .nil)) rfl<|jmv rfl rfl<|jc (Zac lb tR)<|jc (Zac lb tR)<|jn<|JC.ret<|JQ.outRB ?_
   try obtain rfl:=so hx1
   dsimp only at hq1
   refine JQ.outR ?_
   obtain rfl:=so hq1
   exact JQ.done (js:=[0,0]) (ss:=[.val (S (rI .i64) v56),.val (PTR gb6 0)]) (gb6,go8,qm9) (.inl rfl) (.nil rfl) rfl (.cons (.tmp rfl) (.cons (.tmp rfl) .nil)) rfl rfl rfl
 refine jr<|lI hx1 fun v62 hv62 hx1=>jc (Zan lb tR .cI (cs hv62))<|jc (Zac lb tR)<|jn<|jif tR hx1 (fun hc10 hx1=>?_) (fun hc10 hx1=>?_)
 · refine JC.region<|jmv rfl rfl<|jc (Zad (off:=1) lb ZhT tR)<|jc (Zam (j:=2) lb tS3 tR rfl (cT (ZcN a1) rfl) rfl rfl)<|bI hx1 fun x63 hv_x_63 hx1=>jx (Zak (js:=[0,0]) ld cl32 (Zcx k a1.N qb2 qg3 qh4 qd5 x7 gb6 go8 qm9 x63 hv_x_63) .func (.cons tR (.cons tR .nil)) rfl) fun _=>JL.nrm ⟨[(0,ov (PTR gb6 0))],[cvar gb6 (zq1 go8) ((),(qb2,(x63,(qh4,(qd5,()))))),cqm go8 (S rS) Zaa qm9 (some x7)],[]⟩ [0,0] rfl (.cons rfl .nil) rfl<|JL.nil<|JQ.outNB ?_
   try obtain rfl:=so hx1
   exact JQ.joinK x63 () rfl (Imp.norm (js:=[0,0]) rfl (.cons rfl .nil))
 refine jr<|lI hx1 fun v64 hv64 hx1=>jc (Zan lb tR .cI (cs hv64))<|jc (Zac lb tR)<|jn<|jif tR hx1 (fun hc11 hx1=>?_) (fun hc11 hx1=>?_)
 · refine jr<|jmv rfl rfl<|jc (Zad (off:=5) lb Zjl tR)<|jc (Zam (j:=2) lb tS34 tR rfl (cT (ZcO a1) rfl) rfl rfl)<|JL.nrm ⟨[(83,ov (PTR gb6 0)),(85,ov (S (rL (rI .i64)) a1.Keep))],[cvar gb6 (zq1 go8) ((),(qb2,(qg3,(qh4,(qd5,()))))),cqm go8 (S rS) Zaa qm9 (some x7)],[]⟩ [0,0] rfl (.cons rfl (.cons rfl .nil)) rfl<|bI hx1 fun v65 hv65 hx1=>jx (Zak (js:=[0,0]) ld cl24 (Zcr k a1.Keep qb2 qg3 qh4 qd5 x7 gb6 go8 qm9 v65 hv65) .func (.cons tR (.cons tR .nil)) rfl) (fun q=>?_)
   obtain ⟨gb66,go67,qm68⟩:=q
   refine jc (Zac lb .cI)<|jc (Zac lb tR)<|jn<|JC.ret<|JQ.outRB ?_
   try obtain rfl:=so hx1
   dsimp only at hq1
   refine JQ.outR ?_
   obtain rfl:=so hq1
   exact JQ.done (js:=[0,0]) (ss:=[.val (S (rI .i64) (0 : Int)),.val (PTR gb66 0)]) (gb66,go67,qm68) (.inl rfl) (.nil rfl) rfl (.cons (.tmp rfl) (.cons (.tmp rfl) .nil)) rfl rfl rfl
 refine JC.skip<|JQ.outNB ?_
 try obtain rfl:=so hx1
 refine JQ.pre (Imp.var (j:=0) (q:=(zq1 go8)) (y:=((),(qb2,(qg3,(qh4,(qd5,())))))) rfl Wk.refl) ?_
 exact JQ.joinK qg3 () rfl (Imp.norm (js:=[0,0]) rfl (.cons rfl .nil))

theorem ZcS (k : Nat) (ok1 : Bool) (r : Int) (hm : Zc3 k ok1 = some r) : Sim Try.prog 64 [S rB ok1] [] (γ:=Unit) (fun q=>[]) (fun q=>.one (.val (S (rI .i64) r))):=by
 unfold Zc3 at hm
 refine Sim.of Try.func64 rfl rfl (lE rfl) (fun e0 w0=>?_)
 refine JC.at ⟨[(0,ov (S rB ok1))],[],[]⟩<|jr<|jc (Zac lb .cI)<|jn<|JC.seq<|jr<|jmv rfl rfl<|jn<|jif tR hm (fun hc1 hm=>?_) (fun hc1 hm=>?_)
 · refine jr<|jc (Zac lb .cI)<|jn<|JC.ret<|JQ.outR ?_
   obtain rfl:=so hm
   exact jd (.val (S (rI .i64) (0 : Int))) rfl rfl rfl rfl rfl rfl
 refine JC.skip<|JQ.then<|jr<|jc (Zac lb .cI)<|jn<|JC.ret ?_
 obtain rfl:=so hm
 exact jd (.val (S (rI .i64) (8 : Int))) rfl rfl rfl rfl rfl rfl

theorem Zcb (k : Nat) (qn1 : (List UInt8)) (qc2 : Int) (ql3 : Int) (qj4 : Bool) (qe5 : Int) (x7 : (List Zah)) (gb6 : Nat) (go8 : Option Nat) (gc9 : Nat) (r : Int × Bool) (hm : ref05_Disk_at_pv_sovvvv k qn1 qc2 ql3 qj4 qe5 x7 = some r) : Sim Try.prog 62 [PTR gb6 0,S rS qn1] [zq16 gb6 go8 x7 gc9 qc2 ql3 qj4 qe5,cown go8 Zab x7 0 gc9] (γ:=Unit) (fun q=>[zq16 gb6 go8 x7 gc9 qc2 ql3 qj4 qe5,cown go8 Zab x7 0 gc9]) (fun q=>.tup [.val (S (rI .i64) r.1),.val (S rB r.2)]):=by
 unfold ref05_Disk_at_pv_sovvvv at hm
 refine Sim.of Try.func62 rfl rfl (lE rfl) (fun e0 w0=>?_)
 refine JC.at ⟨[(0,ov (PTR gb6 0)),(1,ov (S rS qn1))],[zq16 gb6 go8 x7 gc9 qc2 ql3 qj4 qe5,cown go8 Zab x7 0 gc9],[]⟩<|jr<|jc (Zac lb .cI)<|jc (Zac lb .cB)<|jn<|jr<|jc (Zac lb .cI)<|jn<|bI hm fun i17 hx1 hq1=>JC.seqJ (γ:=Unit) (stj:=fun _=>⟨[(0,ov (PTR gb6 0)),(1,ov (S rS qn1)),(6,ov (S (rI .i64) i17))],[zq16 gb6 go8 x7 gc9 qc2 ql3 qj4 qe5,cown go8 Zab x7 0 gc9],[]⟩) (fun _=>?_) ?_
 · refine bI hq1 fun x22 hx10 hq10=>JC.seqJ (γ:=Unit) (stj:=fun _=>⟨[(4,ov (S (rI .i64) i17)),(5,ov (S rB x22))],[zq16 gb6 go8 x7 gc9 qc2 ql3 qj4 qe5,cown go8 Zab x7 0 gc9],[]⟩) (fun _=>?_) ?_
   · refine JC.ret ?_
     obtain rfl:=so hq10
     exact JQ.done (js:=[0,0]) (ss:=[.val (S (rI .i64) i17),.val (S rB x22)]) () (.inl rfl) (.nil rfl) rfl (.cons (.tmp rfl) (.cons (.tmp rfl) .nil)) rfl rfl rfl
   obtain ⟨v18,hv18,hx10⟩:=Za2 hx10
   rcases Zbc hx10 with ⟨hc15,hx10⟩ | ⟨hc15,hx10⟩
   · refine bI hx10 fun i19 hv_i_19 hx10=>bI hx10 fun u20 hv_u_20 hx10=>?_
     obtain ⟨v21,hv21,hx10⟩:=Za2 hx10
     refine JC.anyF (base:=[(0,ov (PTR gb6 0)),(1,ov (S rS qn1)),(6,ov (S (rI .i64) i17))])
         (fs:=fun γ=>[⟨some 28,ov (S (rI .i64) i17)⟩,⟨some 29,ov (S (rI .i64) i17)⟩,⟨some 30,ov (PTR gb6 0)⟩,⟨some 31,ov (PTR gb6 0)⟩,⟨some 32,ov (PTR gb6 (0 + 0))⟩,⟨some 33,ov (HDR go8 0 (List.length x7) gc9)⟩,⟨some 34,ov (S (rI .i64) (List.length x7 : Int))⟩,⟨some 35,ov (S rB v18)⟩,⟨some 36,ov (S rB v18)⟩,⟨some 37,bif v18 then ov (PTR gb6 0) else .one .und⟩,⟨some 38,bif v18 then ov (PTR gb6 0) else .one .und⟩,⟨some 39,bif v18 then ov (PTR gb6 (0 + 0)) else .one .und⟩,⟨some 40,ov (HDR go8 0 (List.length x7) gc9)⟩,⟨some 41,ov (S (rI .i64) i17)⟩,⟨some 42,ov (EPT go8 (i19 * 3))⟩,⟨some 43,ov (EPT go8 ((i19 * 3) + 0))⟩,⟨some 44,ov (S rS u20.Name)⟩,⟨some 45,ov (S rS qn1)⟩,⟨some 46,ov (S rB v21)⟩,⟨some 47,ov (S rB v21)⟩,⟨some 4,ov (S (rI .i64) i17)⟩,⟨some 5,ov (S rB v21)⟩])
         (rs:=fun γ=>[⟨zq16 gb6 go8 x7 gc9 qc2 ql3 qj4 qe5,none,none,[5,12]⟩,⟨cown go8 Zab x7 0 gc9,none,none,[14,16]⟩])
         (afts:=nn 22) (js:=[0,0]) mixed (.cons rfl (.cons rfl (.cons rfl .nil))) (fun _=>rfl)
         (by
      refine db 1 6<|db 2 6<|db 3 0<|dS 4 (fun γ ρ B hb hd=>Zae lb (tl hd 2 30) (fun e v h=>by subst h; rfl))<|dS 5 (fun γ ρ B hb hd=>Zad (off:=0) lb Za6 (tl hd 3 31)) ?_
      refine dR 6 (fun γ ρ B hb hd=>Zag.lk ⟨ρ,(zq16 gb6 go8 x7 gc9 qc2 ql3 qj4 qe5)::B,_⟩ (Zal (j:=0) lb tS46 (tl hd 4 32) rfl (Comp.trans (Comp.self (zq10 go8 x7 gc9) ((),(qc2,(ql3,(qj4,(qe5,())))))) (Comp.at' (Comp.inF (Comp.self (rW (HDR go8 0 (List.length x7) gc9)) ()) (lE rfl)) (by rfl : _ = 0)) (lE rfl))))<|dS 7 (fun γ ρ B hb hd=>Zb2 lb tu46 (tl hd 5 33))<|dS 8 (fun γ ρ B hb hd=>Zan lb (tl hd 1 29) (tl hd 6 34) (cs hv18))<|dm 9 7 35 ?_
      refine dT 10 8 36 v18 (fun γ=>ov (PTR gb6 0)) (fun γ ρ B hb hd hq11=>Zai lb (.tmp (hb 0 _ rfl))) ?_
      refine dT 11 8 36 v18 (fun γ=>ov (PTR gb6 0)) (fun γ ρ B hb hd hq12=>Zae lb (HasO.cnd (tl hd 9 37) hq12) (fun e v h=>by subst h; rfl)) ?_
      refine dT 12 8 36 v18 (fun γ=>ov (PTR gb6 (0 + 0))) (fun γ ρ B hb hd hq13=>Zad (off:=0) lb Za6 (HasO.cnd (tl hd 10 38) hq13)) ?_
      refine dY 13 (fun γ ρ B hb hd=>⟨.yes rfl (ltB rfl) (hl hd 8 36 rfl) hc15,Zag.lk ⟨ρ,(zq16 gb6 go8 x7 gc9 qc2 ql3 qj4 qe5)::B,_⟩ (Zal (j:=0) lb tS46 (HasO.cnd (tl hd 11 39) hc15) rfl (Comp.trans (Comp.self (zq10 go8 x7 gc9) ((),(qc2,(ql3,(qj4,(qe5,())))))) (Comp.at' (Comp.inF (Comp.self (rW (HDR go8 0 (List.length x7) gc9)) ()) (lE rfl)) (by rfl : _ = 0)) (lE rfl)))⟩)<|dY 14 (fun γ ρ B hb hd=>⟨.yes rfl (ltB rfl) (hl hd 8 36 rfl) hc15,lkB (Zai lb (.tmp (hb 6 _ rfl)))⟩)<|dY 15 (fun γ ρ B hb hd=>⟨.yes rfl (ltB rfl) (hl hd 8 36 rfl) hc15,Zag.lk ⟨ρ,(cown go8 Zab x7 0 gc9)::B,_⟩ (Zap (r:=Zab) (j:=0) lb tu46 tz84 rfl (tl hd 12 40) (tl hd 13 41) hv_i_19)⟩)<|dY 16 (fun γ ρ B hb hd=>⟨.yes rfl (ltB rfl) (hl hd 8 36 rfl) hc15,lkB (ZaB (off:=0) lb Zey (tl hd 14 42))⟩)<|dY 17 (fun γ ρ B hb hd=>⟨.yes rfl (ltB rfl) (hl hd 8 36 rfl) hc15,Zag.lk ⟨ρ,(cown go8 Zab x7 0 gc9)::B,_⟩ (Zbf (r:=Zab) (i:=i19) (off:=0) (j:=0) lb tS9 rfl rfl (tl hd 15 43) hv_u_20 (Comp.at' (cT (Zbi u20) rfl) rfl) (by decide))⟩) ?_
      refine dY 18 (fun γ ρ B hb hd=>⟨.yes rfl (ltB rfl) (hl hd 8 36 rfl) hc15,lkB (Zai lb (.tmp (hb 1 _ rfl)))⟩)<|dY 19 (fun γ ρ B hb hd=>⟨.yes rfl (ltB rfl) (hl hd 8 36 rfl) hc15,lkB (ZcP lb (tl hd 16 44) (tl hd 17 45) (cs hv21))⟩)<|dS 20 (fun γ ρ B hb hd=>Zaw lb (tl hd 8 36) hc15 (tl hd 18 46))<|dS 21 (fun γ ρ B hb hd=>Zac lb (tl hd 0 28))<|dS 22 (fun γ ρ B hb hd=>Zac lb (tl hd 19 47)) ?_
      exact Zat.nil)
         (by decide +kernel) (fun _=>rfl) (fun _=>rfl) (fun _=>rfl) rfl
         (ρ':=fun γ=>[(4,ov (S (rI .i64) i17)),(5,ov (S rB v21))])
         (X':=fun γ=>[zq16 gb6 go8 x7 gc9 qc2 ql3 qj4 qe5,cown go8 Zab x7 0 gc9])
         (fun γ ρ hb hd=>(.cons (hdq hd 20 4 rfl) (.cons (hdq hd 21 5 rfl) .nil))) (fun _=>rfl) (fun γ=>?_)
     refine JQ.at ⟨[(4,ov (S (rI .i64) i17)),(5,ov (S rB v21))],[zq16 gb6 go8 x7 gc9 qc2 ql3 qj4 qe5,cown go8 Zab x7 0 gc9],[]⟩ ?_
     try obtain rfl:=so hx10
     exact JQ.join () (Imp.norm (js:=[0,0]) rfl (.cons rfl (.cons rfl .nil)))
   refine JC.anyF (base:=[(0,ov (PTR gb6 0)),(6,ov (S (rI .i64) i17))])
       (fs:=fun γ=>[⟨some 28,ov (S (rI .i64) i17)⟩,⟨some 29,ov (S (rI .i64) i17)⟩,⟨some 30,ov (PTR gb6 0)⟩,⟨some 31,ov (PTR gb6 0)⟩,⟨some 32,ov (PTR gb6 (0 + 0))⟩,⟨some 33,ov (HDR go8 0 (List.length x7) gc9)⟩,⟨some 34,ov (S (rI .i64) (List.length x7 : Int))⟩,⟨some 35,ov (S rB v18)⟩,⟨some 36,ov (S rB v18)⟩,⟨some 37,bif v18 then ov (PTR gb6 0) else .one .und⟩,⟨some 38,bif v18 then ov (PTR gb6 0) else .one .und⟩,⟨some 39,bif v18 then ov (PTR gb6 (0 + 0)) else .one .und⟩,⟨some 40,.one .und⟩,⟨some 41,.one .und⟩,⟨some 42,.one .und⟩,⟨some 43,.one .und⟩,⟨some 44,.one .und⟩,⟨some 45,.one .und⟩,⟨some 46,.one .und⟩,⟨some 47,ov (S rB false)⟩,⟨some 4,ov (S (rI .i64) i17)⟩,⟨some 5,ov (S rB false)⟩])
       (rs:=fun γ=>[⟨zq16 gb6 go8 x7 gc9 qc2 ql3 qj4 qe5,none,none,[5]⟩,⟨cown go8 Zab x7 0 gc9,none,none,[]⟩])
       (afts:=nn 22) (js:=[0,0]) mixed (.cons rfl (.cons rfl .nil)) (fun _=>rfl)
       (by
      refine db 1 6<|db 2 6<|db 3 0<|dS 4 (fun γ ρ B hb hd=>Zae lb (tl hd 2 30) (fun e v h=>by subst h; rfl))<|dS 5 (fun γ ρ B hb hd=>Zad (off:=0) lb Za6 (tl hd 3 31)) ?_
      refine dR 6 (fun γ ρ B hb hd=>Zag.lk ⟨ρ,(zq16 gb6 go8 x7 gc9 qc2 ql3 qj4 qe5)::B,_⟩ (Zal (j:=0) lb tS46 (tl hd 4 32) rfl (Comp.trans (Comp.self (zq10 go8 x7 gc9) ((),(qc2,(ql3,(qj4,(qe5,())))))) (Comp.at' (Comp.inF (Comp.self (rW (HDR go8 0 (List.length x7) gc9)) ()) (lE rfl)) (by rfl : _ = 0)) (lE rfl))))<|dS 7 (fun γ ρ B hb hd=>Zb2 lb tu46 (tl hd 5 33))<|dS 8 (fun γ ρ B hb hd=>Zan lb (tl hd 1 29) (tl hd 6 34) (cs hv18))<|dm 9 7 35 ?_
      refine dT 10 8 36 v18 (fun γ=>ov (PTR gb6 0)) (fun γ ρ B hb hd hq11=>Zai lb (.tmp (hb 0 _ rfl))) ?_
      refine dT 11 8 36 v18 (fun γ=>ov (PTR gb6 0)) (fun γ ρ B hb hd hq12=>Zae lb (HasO.cnd (tl hd 9 37) hq12) (fun e v h=>by subst h; rfl)) ?_
      refine dT 12 8 36 v18 (fun γ=>ov (PTR gb6 (0 + 0))) (fun γ ρ B hb hd hq13=>Zad (off:=0) lb Za6 (HasO.cnd (tl hd 10 38) hq13)) ?_
      refine kn 13 8 36 rfl hc15<|kn 14 8 36 rfl hc15<|kn 15 8 36 rfl hc15<|kn 16 8 36 rfl hc15<|kn 17 8 36 rfl hc15 ?_
      refine kn 18 8 36 rfl hc15<|kn 19 8 36 rfl hc15<|dS 20 (fun γ ρ B hb hd=>Zar lb (tl hd 8 36) hc15 .cB)<|dS 21 (fun γ ρ B hb hd=>Zac lb (tl hd 0 28))<|dS 22 (fun γ ρ B hb hd=>Zac lb (tl hd 19 47)) ?_
      exact Zat.nil)
       (by decide +kernel) (fun _=>rfl) (fun _=>rfl) (fun _=>rfl) rfl
       (ρ':=fun γ=>[(4,ov (S (rI .i64) i17)),(5,ov (S rB false))])
       (X':=fun γ=>[zq16 gb6 go8 x7 gc9 qc2 ql3 qj4 qe5,cown go8 Zab x7 0 gc9])
       (fun γ ρ hb hd=>(.cons (hdq hd 20 4 rfl) (.cons (hdq hd 21 5 rfl) .nil))) (fun _=>rfl) (fun γ=>?_)
   refine JQ.at ⟨[(4,ov (S (rI .i64) i17)),(5,ov (S rB false))],[zq16 gb6 go8 x7 gc9 qc2 ql3 qj4 qe5,cown go8 Zab x7 0 gc9],[]⟩ ?_
   try obtain rfl:=so hx10
   exact JQ.join () (Imp.norm (js:=[0,0]) rfl (.cons rfl (.cons rfl .nil)))
 refine JC.block<|JC.pre (Imp.var (j:=0) (q:=(zq10 go8 x7 gc9)) (y:=((),(qc2,(ql3,(qj4,(qe5,())))))) rfl Wk.refl) ?_
 refine JC.pre ?_ (JC.loop (γ:=Unit) (stf:=fun s q=>⟨[(0,ov (PTR gb6 0)),(1,ov (S rS qn1)),(6,ov (S (rI .i64) s))],[zq16 gb6 go8 x7 gc9 qc2 ql3 qj4 qe5,cown go8 Zab x7 0 gc9],[]⟩) (q:=()) hx1 ?_)
 · exact (Imp.norm (js:=[0,0]) rfl (.cons rfl (.cons rfl (.cons rfl .nil))))
 intro i10 q x hx hr
 obtain _:=q
 change ref05_Disk_at_pv_sovvvv.b1 k x7 qn1 i10 = some x at hx
 unfold ref05_Disk_at_pv_sovvvv.b1 at hx
 refine JC.at ⟨[(0,ov (PTR gb6 0)),(1,ov (S rS qn1)),(6,ov (S (rI .i64) i10))],[zq16 gb6 go8 x7 gc9 qc2 ql3 qj4 qe5,cown go8 Zab x7 0 gc9],[]⟩<|JC.seq<|bI hx fun x15 hx3 hq3=>JC.seqJ (γ:=Unit) (stj:=fun _=>⟨[(0,ov (PTR gb6 0)),(1,ov (S rS qn1)),(6,ov (S (rI .i64) i10)),(25,ov (S rB x15))],[zq16 gb6 go8 x7 gc9 qc2 ql3 qj4 qe5,cown go8 Zab x7 0 gc9],[]⟩) (fun _=>?_) ?_
 · refine jif tR hq3 (fun hc9 hq3=>?_) (fun hc9 hq3=>?_)
   · refine JC.skip<|JQ.then<|JC.block<|JC.region<|jmv rfl rfl<|lI hq3 fun v16 hv16 hq3=>jc (Zbx lb tR .cI (cs hv16))<|jc (Zac lb tR)<|JL.nil<|JQ.outNB ?_
     try obtain rfl:=so hq3
     exact JQ.next () rfl (Imp.norm (js:=[0,0]) rfl (.cons rfl (.cons rfl (.cons rfl .nil))))
   refine JC.exit<|JQ.outX ?_
   try obtain rfl:=so hq3
   have ht:=hr _ rfl
   have hq2:=cs ht
   clear hr ht
   refine JQ.outX<|JQ.here ?_
   try obtain rfl:=so hq2
   exact JQ.join () (Imp.norm (js:=[0,0]) rfl (.cons rfl (.cons rfl (.cons rfl .nil))))
 refine JC.region<|jmv rfl rfl<|jmv rfl rfl<|jc (Zae lb tR (fun e v h=>by subst h; rfl))<|jc (Zad (off:=0) lb Za6 tR)<|jc (Zal (j:=0) lb tS46 tR rfl (Comp.trans (Comp.self (zq10 go8 x7 gc9) ((),(qc2,(ql3,(qj4,(qe5,())))))) (Comp.at' (Comp.inF (Comp.self (rW (HDR go8 0 (List.length x7) gc9)) ()) (lE rfl)) (by rfl : _ = 0)) (lE rfl)))<|jc (Zb2 lb tu46 tR)<|lI hx3 fun v11 hv11 hx3=>jc (Zan lb tR tR (cs hv11))<|jmv rfl rfl<|jT (ov (PTR gb6 0)) rfl rfl rfl rfl (fun hq_4=>Zai lb tR)<|jT (ov (PTR gb6 0)) rfl rfl rfl rfl (fun hq5=>Zae lb (HasO.cnd tR hq5) (fun e v h=>by subst h; rfl))<|jT (ov (PTR gb6 (0 + 0))) rfl rfl rfl rfl (fun hq6=>Zad (off:=0) lb Za6 (HasO.cnd tR hq6)) ?_
 rcases Zbc hx3 with ⟨hc8,hx3⟩ | ⟨hc8,hx3⟩
 · refine JL.run (.yes rfl (ltB rfl) rfl hc8) (Zal (j:=0) lb tS46 (HasO.cnd tR hc8) rfl (Comp.trans (Comp.self (zq10 go8 x7 gc9) ((),(qc2,(ql3,(qj4,(qe5,())))))) (Comp.at' (Comp.inF (Comp.self (rW (HDR go8 0 (List.length x7) gc9)) ()) (lE rfl)) (by rfl : _ = 0)) (lE rfl)))<|JL.sub ⟨[(0,ov (PTR gb6 0)),(1,ov (S rS qn1)),(6,ov (S (rI .i64) i10)),(14,ov (S rB v11)),(18,ov (HDR go8 0 (List.length x7) gc9))],[zq16 gb6 go8 x7 gc9 qc2 ql3 qj4 qe5,cown go8 Zab x7 0 gc9],[]⟩ (.cons rfl (.cons rfl (.cons rfl (.cons rfl (.cons rfl .nil))))) rfl rfl<|JL.run (.yes rfl (ltB rfl) rfl hc8) (Zai lb tR)<|bI hx3 fun i12 hv_i_12 hx3=>JL.run (.yes rfl (ltB rfl) rfl hc8) (Zap (r:=Zab) (j:=1) lb tu46 tz84 rfl tR tR hv_i_12)<|JL.run (.yes rfl (ltB rfl) rfl hc8) (ZaB (off:=0) lb Zey tR)<|bI hx3 fun u13 hv_u_13 hx3=>JL.run (.yes rfl (ltB rfl) rfl hc8) (Zbf (r:=Zab) (i:=i12) (off:=0) (j:=1) lb tS9 rfl rfl tR hv_u_13 (Comp.at' (cT (Zbi u13) rfl) rfl) (by decide))<|JL.run (.yes rfl (ltB rfl) rfl hc8) (Zai lb tR) ?_
   refine lI hx3 fun v14 hv14 hx3=>JL.run (.yes rfl (ltB rfl) rfl hc8) (Zkn lb tR tR hv14)<|jc (Zaw lb tR hc8 tR)<|JL.nil ?_
   try obtain rfl:=so hx3
   exact JQ.join () (Imp.norm (js:=[0,0]) rfl (.cons rfl (.cons rfl (.cons rfl (.cons rfl .nil)))))
 refine jk rfl hc8<|jk rfl hc8<|jk rfl hc8<|jk rfl hc8<|jk rfl hc8<|jk rfl hc8<|jk rfl hc8<|jc (Zar lb tR hc8 .cB)<|JL.sub ⟨[(0,ov (PTR gb6 0)),(1,ov (S rS qn1)),(6,ov (S (rI .i64) i10)),(25,ov (S rB false))],[zq16 gb6 go8 x7 gc9 qc2 ql3 qj4 qe5,cown go8 Zab x7 0 gc9],[]⟩ (.cons rfl (.cons rfl (.cons rfl (.cons rfl .nil)))) rfl rfl<|JL.nil ?_
 try obtain rfl:=so hx3
 exact JQ.join () (Imp.norm (js:=[0,0]) rfl (.cons rfl (.cons rfl (.cons rfl (.cons rfl .nil)))))

theorem Zbr (k : Nat) (qn1 : (List UInt8)) (qc2 : Int) (ql3 : Int) (qj4 : Bool) (qe5 : Int) (x7 : (List Zah)) (gb6 : Nat) (go8 : Option Nat) (gc9 : Nat) (r : Int × Int) (hm : ZaO k qn1 qc2 ql3 qj4 qe5 x7 = some r) : Sim Try.prog 41 [PTR gb6 0,S rS qn1] [zq16 gb6 go8 x7 gc9 qc2 ql3 qj4 qe5,cown go8 Zab x7 0 gc9] (γ:=Unit) (fun q=>[zq16 gb6 go8 x7 gc9 qc2 ql3 qj4 qe5,cown go8 Zab x7 0 gc9]) (fun q=>.tup [.val (S (rI .i64) r.1),.val (S (rI .i64) r.2)]):=by
 unfold ZaO at hm
 refine Sim.of Try.func41 rfl rfl (lE rfl) (fun e0 w0=>?_)
 refine JC.at ⟨[(0,ov (PTR gb6 0)),(1,ov (S rS qn1))],[zq16 gb6 go8 x7 gc9 qc2 ql3 qj4 qe5,cown go8 Zab x7 0 gc9],[]⟩<|jr<|jc (Zac lb .cI)<|jc (Zac lb .cI)<|jn<|JC.seq<|jr<|jmv rfl rfl<|bI hm fun v10 hv10 hm=>jx (Zak (js:=[]) ld cl23 (Zco k qn1 v10 hv10) .func (.cons tR .nil) rfl) fun _=>lI hm fun v11 hv11 hm=>jc (Zce lb tR hv11)<|jn<|jif tR hm (fun hc1 hm=>?_) (fun hc1 hm=>?_)
 · refine jr<|jc (Zac lb .cI)<|jc (Zac lb .cI)<|jn<|JC.ret<|JQ.outR ?_
   obtain rfl:=so hm
   refine JQ.pre (Imp.var (j:=0) (q:=(zq10 go8 x7 gc9)) (y:=((),(qc2,(ql3,(qj4,(qe5,())))))) rfl Wk.refl) ?_
   exact JQ.done (js:=[0,0]) (ss:=[.val (S (rI .i64) (0 : Int)),.val (S (rI .i64) (2 : Int))]) () (.inl rfl) (.nil rfl) rfl (.cons (.tmp rfl) (.cons (.tmp rfl) .nil)) rfl rfl rfl
 refine JC.skip<|JQ.then<|jr<|jmv rfl rfl<|jmv rfl rfl ?_
 obtain ⟨⟨v12,v13⟩,hv12,hm⟩:=Zas hm
 refine jx (Zak (js:=[0,0]) ld cl62 (Zcb k qn1 qc2 ql3 qj4 qe5 x7 gb6 go8 gc9 (v12,v13) hv12) .func (.cons tR (.cons tR .nil)) rfl) fun _=>jmv rfl rfl<|jc (Zao (i:=0) lb tR rfl)<|JL.sub ⟨[(11,.tup [.val (S (rI .i64) v12),.val (S rB v13)]),(15,ov (S (rI .i64) v12))],[zq16 gb6 go8 x7 gc9 qc2 ql3 qj4 qe5,cown go8 Zab x7 0 gc9],[]⟩ (.cons rfl (.cons rfl .nil)) rfl rfl<|jc (Zao (i:=1) lb tR rfl)<|jc (Zac lb tR)<|jc (Zac lb tR)<|jn<|JC.seq<|jr<|jmv rfl rfl<|lI hm fun v14 hv14 hm=>jc (Zce lb tR hv14)<|jn<|jif tR hm (fun hc2 hm=>?_) (fun hc2 hm=>?_)
 · refine jr<|jc (Zac lb .cI)<|jc (Zac lb .cI)<|jn<|JC.ret<|JQ.outR ?_
   obtain rfl:=so hm
   exact JQ.done (js:=[0,0]) (ss:=[.val (S (rI .i64) (0 : Int)),.val (S (rI .i64) (6 : Int))]) () (.inl rfl) (.nil rfl) rfl (.cons (.tmp rfl) (.cons (.tmp rfl) .nil)) rfl rfl rfl
 refine JC.skip<|JQ.then<|jr<|jmv rfl rfl<|jc (Zac lb tR)<|jc (Zac lb .cI)<|jn<|JC.ret ?_
 obtain rfl:=so hm
 exact JQ.done (js:=[0,0]) (ss:=[.val (S (rI .i64) v12),.val (S (rI .i64) (0 : Int))]) () (.inl rfl) (.nil rfl) rfl (.cons (.tmp rfl) (.cons (.tmp rfl) .nil)) rfl rfl rfl

theorem Zbs (k : Nat) (qc1 : Int) (ql2 : Int) (qj3 : Bool) (qe4 : Int) (x6 : (List Zah)) (gb5 : Nat) (go7 : Option Nat) (gc8 : Nat) (r : Bool × Bool × Int × Bool × Int) (hm : ZaK k qc1 ql2 qj3 qe4 x6 = some r) : Sim Try.prog 63 [PTR gb5 0] [zq16 gb5 go7 x6 gc8 qc1 ql2 qj3 qe4,cown go7 Zab x6 0 gc8] (γ:=Unit) (fun q=>[cvar gb5 (zq10 go7 x6 gc8) ((),(qc1,(r.2.2.1,(r.2.2.2.1,(r.2.2.2.2,()))))),cown go7 Zab x6 0 gc8]) (fun q=>.tup [.val (S rB r.1),.val (S rB r.2.1)]):=by
 unfold ZaK at hm
 refine Sim.of Try.func63 rfl rfl (lE rfl) (fun e0 w0=>?_)
 refine JC.at ⟨[(0,ov (PTR gb5 0))],[zq16 gb5 go7 x6 gc8 qc1 ql2 qj3 qe4,cown go7 Zab x6 0 gc8],[]⟩<|jr<|jc (Zac lb .cB)<|jc (Zac lb .cB)<|jn<|JC.seq<|jr<|jmv rfl rfl<|jc (Zae lb tR (fun e v h=>by subst h; rfl))<|jc (Zad (off:=3) lb Zes tR)<|jc (Zam (j:=0) lb tS4 tR rfl (Comp.trans (Comp.self (zq10 go7 x6 gc8) ((),(qc1,(ql2,(qj3,(qe4,())))))) (Comp.at' (Comp.inS (Comp.inS (Comp.inS (Comp.inF (Comp.self rB qj3) (lE rfl))))) (by rfl : _ = 3)) (lE rfl)) rfl rfl)<|jn<|jif tR hm (fun hc1 hm=>?_) (fun hc1 hm=>?_)
 · refine jr<|jc (Zac lb .cB)<|jc (Zac lb .cB)<|jn<|JC.ret<|JQ.outR ?_
   obtain rfl:=so hm
   refine JQ.pre (Imp.var (j:=0) (q:=(zq10 go7 x6 gc8)) (y:=((),(qc1,(ql2,(qj3,(qe4,())))))) rfl Wk.refl) ?_
   exact JQ.done (js:=[0,0]) (ss:=[.val (S rB false),.val (S rB false)]) () (.inl rfl) (.nil rfl) rfl (.cons (.tmp rfl) (.cons (.tmp rfl) .nil)) rfl rfl rfl
 refine JC.skip<|JQ.then<|jr<|jmv rfl rfl<|jc (Zae lb tR (fun e v h=>by subst h; rfl))<|jc (Zad (off:=4) lb Zft tR)<|jc (Zam (j:=0) lb tS3 tR rfl (Comp.trans (Comp.self (zq10 go7 x6 gc8) ((),(qc1,(ql2,(qj3,(qe4,())))))) (Comp.at' (Comp.inS (Comp.inS (Comp.inS (Comp.inS (Comp.inF (Comp.self (rI .i64) qe4) (lE rfl)))))) (by rfl : _ = 4)) (lE rfl)) rfl rfl)<|lI hm fun v9 hv9 hm=>jc (Zbx lb tR .cI (cs hv9))<|jc (Zae lb tR (fun e v h=>by subst h; rfl))<|JL.sub ⟨[(0,ov (PTR gb5 0)),(12,ov (S (rI .i64) v9)),(13,ov (PTR gb5 0))],[zq16 gb5 go7 x6 gc8 qc1 ql2 qj3 qe4,cown go7 Zab x6 0 gc8],[]⟩ (.cons rfl (.cons rfl (.cons rfl .nil))) rfl rfl<|jc (Zad (off:=4) lb Zft tR)<|jc (ZaL (j:=0) tS3 tR tR rfl rfl ((UpdR.snd (UpdR.snd (UpdR.snd (UpdR.snd (UpdR.fst (UpdR.self (by rfl))))))).at (by change (1 + (1 + (1 + (1 + 0)))) = (0 + 4); omega)) rfl)<|jn<|JC.seq<|jr<|jmv rfl rfl<|jc (Zae lb tR (fun e v h=>by subst h; rfl))<|jc (Zad (off:=2) lb Zgr tR)<|jc (Zam (j:=0) lb tS3 tR rfl (Comp.trans (Comp.self (zq10 go7 x6 gc8) ((),(qc1,(ql2,(qj3,(v9,())))))) (Comp.at' (Comp.inS (Comp.inS (Comp.inF (Comp.self (rI .i64) ql2) (lE rfl)))) (by rfl : _ = 2)) (lE rfl)) rfl rfl) ?_
 obtain ⟨v10,hv10,hm⟩:=Za2 hm
 refine jc (Zan lb tR .cI (cs hv10))<|jn<|jif tR hm (fun hc2 hm=>?_) (fun hc2 hm=>?_)
 · refine jr<|jmv rfl rfl<|jc (Zae lb tR (fun e v h=>by subst h; rfl))<|jc (Zad (off:=3) lb Zes tR)<|JL.sub ⟨[(22,ov (PTR gb5 (0 + 3)))],[zq16 gb5 go7 x6 gc8 qc1 ql2 qj3 v9,cown go7 Zab x6 0 gc8],[]⟩ (.cons rfl .nil) rfl rfl<|jc (ZaL (j:=0) tS4 tR .cB rfl rfl ((UpdR.snd (UpdR.snd (UpdR.snd (UpdR.fst (UpdR.self (by rfl)))))).at (by change (1 + (1 + (1 + 0))) = (0 + 3); omega)) rfl)<|jn<|jr<|jc (Zac lb .cB)<|jc (Zac lb .cB)<|jn<|JC.ret<|JQ.outR ?_
   obtain rfl:=so hm
   refine JQ.pre (Imp.var (j:=0) (q:=(zq10 go7 x6 gc8)) (y:=((),(qc1,(ql2,(true,(v9,())))))) rfl Wk.refl) ?_
   exact JQ.done (js:=[0,0]) (ss:=[.val (S rB false),.val (S rB true)]) () (.inl rfl) (.nil rfl) rfl (.cons (.tmp rfl) (.cons (.tmp rfl) .nil)) rfl rfl rfl
 refine JC.skip<|JQ.then<|bI hm fun x13 hx3 hq3=>JC.seqJ (γ:=Unit) (stj:=fun _=>⟨[],[cvar gb5 (zq10 go7 x6 gc8) ((),(qc1,(x13,(qj3,(v9,()))))),cown go7 Zab x6 0 gc8],[]⟩) (fun _=>?_) ?_
 · refine jr<|jc (Zac lb .cB)<|jc (Zac lb .cB)<|jn<|JC.ret ?_
   obtain rfl:=so hq3
   exact JQ.done (js:=[0,0]) (ss:=[.val (S rB true),.val (S rB false)]) () (.inl rfl) (.nil rfl) rfl (.cons (.tmp rfl) (.cons (.tmp rfl) .nil)) rfl rfl rfl
 refine jr<|jmv rfl rfl<|jc (Zae lb tR (fun e v h=>by subst h; rfl))<|jc (Zad (off:=2) lb Zgr tR)<|JL.sub ⟨[(0,ov (PTR gb5 0)),(25,ov (PTR gb5 (0 + 2)))],[zq16 gb5 go7 x6 gc8 qc1 ql2 qj3 v9,cown go7 Zab x6 0 gc8],[]⟩ (.cons rfl (.cons rfl .nil)) rfl rfl<|jc (Zam (j:=0) lb tS3 tR rfl (Comp.trans (Comp.self (zq10 go7 x6 gc8) ((),(qc1,(ql2,(qj3,(v9,())))))) (Comp.at' (Comp.inS (Comp.inS (Comp.inF (Comp.self (rI .i64) ql2) (lE rfl)))) (by rfl : _ = 2)) (lE rfl)) rfl rfl)<|lI hx3 fun v11 hv11 hx3=>jc (Zan lb tR .cI (cs hv11))<|jn<|jif tR hx3 (fun hc4 hx3=>?_) (fun hc4 hx3=>?_)
 · refine JC.region<|jmv rfl rfl<|jc (Zae lb tR (fun e v h=>by subst h; rfl))<|jc (Zad (off:=2) lb Zgr tR)<|jc (Zam (j:=0) lb tS3 tR rfl (Comp.trans (Comp.self (zq10 go7 x6 gc8) ((),(qc1,(ql2,(qj3,(v9,())))))) (Comp.at' (Comp.inS (Comp.inS (Comp.inF (Comp.self (rI .i64) ql2) (lE rfl)))) (by rfl : _ = 2)) (lE rfl)) rfl rfl)<|lI hx3 fun v12 hv12 hx3=>jc (Zbx lb tR .cI (cs hv12))<|jc (Zae lb tR (fun e v h=>by subst h; rfl))<|jc (Zad (off:=2) lb Zgr tR)<|jc (ZaL (j:=0) tS3 tR tR rfl rfl ((UpdR.snd (UpdR.snd (UpdR.fst (UpdR.self (by rfl))))).at (by change (1 + (1 + 0)) = (0 + 2); omega)) rfl)<|JL.sub ⟨[],[cvar gb5 (zq10 go7 x6 gc8) ((),(qc1,(v12,(qj3,(v9,()))))),cown go7 Zab x6 0 gc8],[]⟩ .nil rfl rfl<|JL.nil ?_
   try obtain rfl:=so hx3
   refine JQ.pre (Imp.var (j:=0) (q:=(zq10 go7 x6 gc8)) (y:=((),(qc1,(v12,(qj3,(v9,())))))) rfl Wk.refl) ?_
   exact JQ.join () (Imp.norm (js:=[0,0]) rfl .nil)
 refine JC.skip ?_
 try obtain rfl:=so hx3
 refine JQ.pre (Imp.var (j:=0) (q:=(zq10 go7 x6 gc8)) (y:=((),(qc1,(ql2,(qj3,(v9,())))))) rfl Wk.refl) ?_
 exact JQ.join () (Imp.norm (js:=[0,0]) rfl .nil)

theorem ZdG (k : Nat) (qn1 : (List UInt8)) (qc2 : Int) (ql3 : Int) (qj4 : Bool) (qe5 : Int) (x7 : (List Zah)) (gb6 : Nat) (go8 : Option Nat) (gc9 : Nat) (r : Int × (List Zah) × Int × Bool × Int) (hm : Zbk k qn1 qc2 ql3 qj4 qe5 x7 = some r) : Sim Try.prog 45 [PTR gb6 0,S rS qn1] [zq16 gb6 go8 x7 gc9 qc2 ql3 qj4 qe5,cown go8 Zab x7 0 gc9] (γ:=Unit) (fun q=>[cvar gb6 (rP (rW (HDR go8 0 (List.length r.2.1) gc9)) (rP (rI .i64) (rP (rI .i64) (rP rB (rP (rI .i64) r0))))) ((),(qc2,(r.2.2.1,(r.2.2.2.1,(r.2.2.2.2,()))))),cown go8 Zab r.2.1 0 gc9]) (fun q=>.one (.val (S (rI .i64) r.1))):=by
 unfold Zbk at hm
 refine Sim.of Try.func45 rfl rfl (lE rfl) (fun e0 w0=>?_)
 refine JC.at ⟨[(0,ov (PTR gb6 0)),(1,ov (S rS qn1))],[zq16 gb6 go8 x7 gc9 qc2 ql3 qj4 qe5,cown go8 Zab x7 0 gc9],[]⟩<|jr<|jc (Zac lb .cI)<|jn<|jr<|jmv rfl rfl<|jmv rfl rfl ?_
 obtain ⟨⟨v10,v11⟩,hv10,hm⟩:=Zas hm
 refine jx (Zak (js:=[0,0]) ld cl41 (Zbr k qn1 qc2 ql3 qj4 qe5 x7 gb6 go8 gc9 (v10,v11) hv10) .func (.cons tR (.cons tR .nil)) rfl) fun _=>jmv rfl rfl<|jc (Zao (i:=0) lb tR rfl)<|jc (Zao (i:=1) lb tR rfl)<|jc (Zac lb tR)<|jc (Zac lb tR)<|jn<|JC.seq<|jr<|jmv rfl rfl<|JL.sub ⟨[(0,ov (PTR gb6 0)),(5,ov (S (rI .i64) v10)),(6,ov (S (rI .i64) v11)),(15,ov (S (rI .i64) v11))],[zq16 gb6 go8 x7 gc9 qc2 ql3 qj4 qe5,cown go8 Zab x7 0 gc9],[]⟩ (.cons rfl (.cons rfl (.cons rfl (.cons rfl .nil)))) rfl rfl<|lI hm fun v12 hv12 hm=>jc (Zan lb tR .cI (cs hv12))<|jn<|jif tR hm (fun hc1 hm=>?_) (fun hc1 hm=>?_)
 · refine jr<|jmv rfl rfl<|jc (Zac lb tR)<|jn<|JC.ret<|JQ.outR ?_
   obtain rfl:=so hm
   exact JQ.done (js:=[0,0]) (ss:=[.val (S (rI .i64) v11)]) () (.inl rfl) (.nil rfl) rfl (.cons (.tmp rfl) .nil) rfl rfl rfl
 refine JC.skip<|JQ.then<|jr<|jmv rfl rfl ?_
 obtain ⟨⟨v13,v14,x15,x16,x17⟩,hv13,hm⟩:=Zas hm
 refine jx (Zak (js:=[0,0]) ld cl63 (Zbs k qc2 ql3 qj4 qe5 x7 gb6 go8 gc9 (v13,v14,x15,x16,x17) hv13) .func (.cons tR .nil) rfl) fun _=>jmv rfl rfl<|jc (Zao (i:=0) lb tR rfl)<|jc (Zao (i:=1) lb tR rfl)<|jc (Zac lb tR)<|jc (Zac lb tR)<|jn<|bI hm fun x22 hx2 hq2=>JC.seqJ (γ:=Unit) (stj:=fun _=>⟨[(7,ov (S rB v13))],[cvar gb6 (zq10 go8 x22 gc9) ((),(qc2,(x15,(x16,(x17,()))))),cown go8 Zab x22 0 gc9],[]⟩) (fun _=>?_) ?_
 · refine jr<|jmv rfl rfl<|bI hq2 fun v23 hv23 hq2=>jx (Zak (js:=[]) ld cl64 (ZcS k v13 v23 hv23) .func (.cons tR .nil) rfl) fun _=>jc (Zac lb tR)<|jn<|JC.ret ?_
   obtain rfl:=so hq2
   exact JQ.done (js:=[0,0]) (ss:=[.val (S (rI .i64) v23)]) () (.inl rfl) (.nil rfl) rfl (.cons (.tmp rfl) .nil) rfl rfl rfl
 refine jr<|jmv rfl rfl<|jn<|jif tR hx2 (fun hc3 hx2=>?_) (fun hc3 hx2=>?_)
 · refine bI hx2 fun i18 hv_i_18 hx2=>bI hx2 fun u19 hv_u_19 hx2=>bI hx2 fun i20 hv_i_20 hx2=>?_
   obtain ⟨x21,hv_x_21,hx2⟩:=Zas hx2
   refine JC.anyF (base:=[(0,ov (PTR gb6 0)),(5,ov (S (rI .i64) v10)),(7,ov (S rB v13))])
       (fs:=fun γ=>[⟨some 24,ov (PTR gb6 0)⟩,⟨some 25,ov (PTR gb6 0)⟩,⟨some 26,ov (PTR gb6 (0 + 0))⟩,⟨some 27,ov (HDR go8 0 (List.length x7) gc9)⟩,⟨some 28,ov (S (rI .i64) v10)⟩,⟨some 29,ov (PTR gb6 0)⟩,⟨some 30,ov (PTR gb6 0)⟩,⟨some 31,ov (PTR gb6 (0 + 0))⟩,⟨some 32,ov (HDR go8 0 (List.length x7) gc9)⟩,⟨some 33,ov (S (rI .i64) v10)⟩,⟨some 34,ov (EPT go8 (i18 * 3))⟩,⟨some 35,ov (EPT go8 ((i18 * 3) + 1))⟩,⟨some 36,ov (S (rL (rU UInt8)) u19.B)⟩,⟨some 37,ov (S (rI .i64) (List.length u19.B : Int))⟩,⟨some 38,ov (EPT go8 (i20 * 3))⟩,⟨some 39,ov (EPT go8 ((i20 * 3) + 2))⟩,⟨none,.one .any⟩])
       (rs:=fun γ=>[⟨cvar gb6 (zq10 go8 x7 gc9) ((),(qc2,(x15,(x16,(x17,()))))),none,none,[3,8]⟩,⟨cown go8 Zab x7 0 gc9,none,(some 16),[10,12,14]⟩,⟨cown go8 Zab x21 0 gc9,(some 16),none,[]⟩])
       (afts:=nn 17) (js:=[0,0]) mixed (.cons rfl (.cons rfl (.cons rfl .nil))) (fun _=>rfl)
       (by
      refine db 1 0<|dS 2 (fun γ ρ B hb hd=>Zae lb (tl hd 0 24) (fun e v h=>by subst h; rfl))<|dS 3 (fun γ ρ B hb hd=>Zad (off:=0) lb Za6 (tl hd 1 25))<|dR 4 (fun γ ρ B hb hd=>Zag.lk ⟨ρ,(cvar gb6 (zq10 go8 x7 gc9) ((),(qc2,(x15,(x16,(x17,()))))))::B,_⟩ (Zal (j:=0) lb tS46 (tl hd 2 26) rfl (Comp.trans (Comp.self (zq10 go8 x7 gc9) ((),(qc2,(x15,(x16,(x17,())))))) (Comp.at' (Comp.inF (Comp.self (rW (HDR go8 0 (List.length x7) gc9)) ()) (lE rfl)) (by rfl : _ = 0)) (lE rfl))))<|db 5 5 ?_
      refine db 6 0<|dS 7 (fun γ ρ B hb hd=>Zae lb (tl hd 5 29) (fun e v h=>by subst h; rfl))<|dS 8 (fun γ ρ B hb hd=>Zad (off:=0) lb Za6 (tl hd 6 30))<|dR 9 (fun γ ρ B hb hd=>Zag.lk ⟨ρ,(cvar gb6 (zq10 go8 x7 gc9) ((),(qc2,(x15,(x16,(x17,()))))))::B,_⟩ (Zal (j:=0) lb tS46 (tl hd 7 31) rfl (Comp.trans (Comp.self (zq10 go8 x7 gc9) ((),(qc2,(x15,(x16,(x17,())))))) (Comp.at' (Comp.inF (Comp.self (rW (HDR go8 0 (List.length x7) gc9)) ()) (lE rfl)) (by rfl : _ = 0)) (lE rfl))))<|db 10 5 ?_
      refine dR 11 (fun γ ρ B hb hd=>Zag.lk ⟨ρ,(cown go8 Zab x7 0 gc9)::B,_⟩ (Zap (r:=Zab) (j:=0) lb tu46 tz84 rfl (tl hd 8 32) (tl hd 9 33) hv_i_18))<|dS 12 (fun γ ρ B hb hd=>ZaB (off:=1) lb Zdn (tl hd 10 34))<|dR 13 (fun γ ρ B hb hd=>Zag.lk ⟨ρ,(cown go8 Zab x7 0 gc9)::B,_⟩ (Zbf (r:=Zab) (i:=i18) (off:=1) (j:=0) lb tS31 rfl rfl (tl hd 11 35) hv_u_19 (Comp.at' (cT (Za5 u19) rfl) rfl) (by decide)))<|dS 14 (fun γ ρ B hb hd=>Zcc lb tu31 (tl hd 12 36))<|dR 15 (fun γ ρ B hb hd=>Zag.lk ⟨ρ,(cown go8 Zab x7 0 gc9)::B,_⟩ (Zap (r:=Zab) (j:=0) lb tu46 tz84 rfl (tl hd 3 27) (tl hd 4 28) hv_i_20)) ?_
      refine dS 16 (fun γ ρ B hb hd=>ZaB (off:=2) lb ZeQ (tl hd 14 38))<|dR 17 (fun γ ρ B hb hd=>Zag.at ⟨ρ,(cown go8 Zab x7 0 gc9)::B,_⟩ (setO ⟨ρ,(cown go8 Zab x21 0 gc9)::B,_⟩ _ _) (Zel (r:=Zab) (i:=i20) (off:=2) (j:=0) tS3 rfl rfl (tl hd 15 39) (tl hd 13 37) (fun u=>(Upd.trans (Comp.self Zab u) (Upd.self Zab u _) (ZcQ u (List.length u19.B : Int)))) hv_x_21)) ?_
      exact Zat.nil)
       (by decide +kernel) (fun _=>rfl) (fun _=>rfl) (fun _=>rfl) rfl
       (ρ':=fun γ=>[(7,ov (S rB v13))])
       (X':=fun γ=>[cvar gb6 (zq10 go8 x7 gc9) ((),(qc2,(x15,(x16,(x17,()))))),cown go8 Zab x21 0 gc9])
       (fun γ ρ hb hd=>(.cons (hb 7 _ rfl) .nil)) (fun _=>rfl) (fun γ=>?_)
   refine JQ.at ⟨[(7,ov (S rB v13))],[cvar gb6 (zq10 go8 x7 gc9) ((),(qc2,(x15,(x16,(x17,()))))),cown go8 Zab x21 0 gc9],[]⟩<|JQ.pre (Imp.var (j:=0) (q:=(zq10 go8 x21 gc9)) (y:=((),(qc2,(x15,(x16,(x17,())))))) rfl (Wk.pair (Wk.w (fun e v h=>ZgA (Ze8 hv_x_21) e v (h))) (Wk.pair Wk.refl (Wk.pair Wk.refl (Wk.pair Wk.refl (Wk.pair Wk.refl Wk.refl)))))) ?_
   try obtain rfl:=so hx2
   exact JQ.join () (Imp.norm (js:=[0,0]) rfl (.cons rfl .nil))
 refine JC.skip ?_
 try obtain rfl:=so hx2
 exact JQ.join () (Imp.norm (js:=[0,0]) rfl (.cons rfl .nil))

end Go.Proofs.Ytipchpbcjkhnaaa
