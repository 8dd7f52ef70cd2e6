/- Walks. -/
import Derived.Test.YtipchpbcjkhnaaaT
import Derived.Test.YtipchpbcjkhnaaaW0
import Derived.Test.YtipchpbcjkhnaaaW1
import Derived.Test.YtipchpbcjkhnaaaW10
import Derived.Test.YtipchpbcjkhnaaaW12
import Derived.Test.YtipchpbcjkhnaaaW14
import Derived.Test.YtipchpbcjkhnaaaW15
import Derived.Test.YtipchpbcjkhnaaaW4
import Derived.Test.YtipchpbcjkhnaaaW6
import Derived.Test.YtipchpbcjkhnaaaW8
namespace Go.Proofs.Ytipchpbcjkhnaaa
open Go Fw
set_option linter.unusedVariables false
set_option maxRecDepth 100000
set_option maxHeartbeats 4000000

theorem Ze5 (k : Nat) (t1 : Int) (a2 : (List Za7)) (a3 : Int) (r : Bool) (hm : law05_DiskPlays k t1 a2 a3 = some r) : Sim Try.prog 4 [S (rI .i64) t1,S (rL Zaj) a2,S (rI .i64) a3] [] (γ:=Unit) (fun q=>[]) (fun q=>.one (.val (S rB r))):=by
 unfold law05_DiskPlays at hm
 refine Sim.of Try.func4 rfl rfl (lE rfl) (fun e0 w0=>?_)
 refine JC.at ⟨[(0,ov (S (rI .i64) t1)),(1,ov (S (rL Zaj) a2)),(2,ov (S (rI .i64) a3))],[],[]⟩<|jr<|jc (Zac lb .cB)<|jn<|jr<|jmv rfl rfl ?_
 obtain ⟨ts1,hs1,hm⟩:=Zas hm
 rcases ts1 with ts1 | ts1
 · obtain _:=ts1
   dsimp only at hm
   refine jx (Zak (js:=[]) ld cl9 (Zeu k t1 () hs1) .func (.cons tR .nil) rfl) (fun q=>?_)
   obtain ⟨gb4,go5⟩:=q
   refine jmv rfl rfl<|jc (Zao (i:=0) lb tR rfl)<|jc (Zao (i:=1) lb tR rfl)<|jc (Zac lb tR)<|jc (Zac lb tR)<|jn<|JC.seq<|bI hm fun x9 hx2 hq2=>JC.seqJ (γ:=Unit) (stj:=fun _=>⟨[(0,ov (S (rI .i64) t1)),(1,ov (S (rL Zaj) a2)),(2,ov (S (rI .i64) a3)),(7,ov (PTR gb4 0)),(8,ov (S (rI .i64) (0 : Int))),(25,ov (S rB x9))],[cvar gb4 (zq1 go5) ((),(t1,((-1 : Int),(false,((0 : Int),()))))),cqm go5 (S rS) Zaa (fun _ : (List UInt8)=>0) (some ([] : (List ((List UInt8) × Zaf))))],[]⟩) (fun _=>?_) ?_
   · refine jif tR hq2 (fun hc6 hq2=>?_) (fun hc6 hq2=>?_)
     · refine bI hq2 fun _ hx7 hq7=>JC.seqJ (γ:=Unit) (stj:=fun _=>⟨[(6,ov (S rB false))],[],[]⟩) (fun _=>?_) ?_
       · refine JC.ret<|JQ.outR ?_
         obtain rfl:=so hq7
         exact jd (.val (S rB false)) rfl rfl rfl rfl rfl rfl
       exact JC.region<|jmv rfl rfl<|jc (Zd2 (neg:=false) lb tu25 tR (HasO.const (p:=PTO none) fun _=>rfl))<|jmv rfl rfl<|jk rfl rfl<|jk rfl rfl<|jk rfl rfl<|jc (Zar lb tR rfl .cB)<|jmv rfl rfl<|jk rfl rfl<|jc (Zar lb tR rfl .cB)<|jc (Zac lb tR)<|JL.nil<|jo rfl rfl rfl
     refine JC.skip<|JQ.then<|JC.seq<|jr<|jmv rfl rfl<|bI hq2 fun v10 hv10 hq2=>jx (Zak (js:=[]) ld cl7 (ZeV k a2 (150 : Int) v10 hv10) .func (.cons tR (.cons .cI .nil)) rfl) fun _=>jn<|jif tR hq2 (fun hc8 hq2=>?_) (fun hc8 hq2=>?_)
     · refine jr<|bI hq2 fun v11 hv11 hq2=>jx (Zak (js:=[]) ld cl8 (Zc9 k v11 hv11) .func .nil rfl) fun _=>jc (Zac lb tR)<|jn<|JC.ret<|JQ.outR ?_
       obtain rfl:=so hq2
       exact jd (.val (S rB v11)) rfl rfl rfl rfl rfl rfl
     refine JC.skip<|JQ.then<|jr<|jmv rfl rfl<|jc (ZdI lb tZ48 zr48 tp48 (.S (off:=1) rfl tR rfl ((UpdR.snd (UpdR.fst (UpdR.self (by rfl)))).at (by rfl)) (.S (off:=2) rfl .cI rfl ((UpdR.snd (UpdR.snd (UpdR.fst (UpdR.self (by rfl))))).at (by rfl)) .nil)) rfl)<|jx (Zd4 lb tR) fun gb12=>jc (Zac lb tR)<|jn<|JC.seq<|bI hq2 fun x16 hx9 hq9=>JC.seqJ (γ:=Unit) (stj:=fun _=>⟨[(1,ov (S (rL Zaj) a2)),(2,ov (S (rI .i64) a3)),(7,ov (PTR gb4 0)),(9,ov (PTR gb12 0)),(55,ov (S rB x16))],[cvar gb4 (zq1 go5) ((),(t1,((-1 : Int),(false,((0 : Int),()))))),cqm go5 (S rS) Zaa (fun _ : (List UInt8)=>0) (some ([] : (List ((List UInt8) × Zaf)))),cvar gb12 zq9 ((),(t1,((-1 : Int),(false,((0 : Int),())))))],[]⟩) (fun _=>?_) ?_
     · refine jif tR hq9 (fun hc10 hq9=>?_) (fun hc10 hq9=>?_)
       · refine jr<|jc (Zac lb .cB)<|jn<|JC.ret<|JQ.outR ?_
         obtain rfl:=so hq9
         exact jd (.val (S rB false)) rfl rfl rfl rfl rfl rfl
       refine JC.skip<|JQ.then<|bI hq9 fun tv11 hx11 hq11=>JC.seqK (α:=Unit) (γ:=Unit) (stj:=fun v q=>⟨[],[],[]⟩) (p:=fun v=>tv11 = (.inl v)) (fun v q hv=>?_) ?_
       · subst hv
         skip
         obtain _:=q
         dsimp only at hq11
         refine JC.at ⟨[],[],[]⟩<|jr<|bI hq11 fun v77 hv77 hq11=>jx (Zak (js:=[]) ld cl8 (Zc9 k v77 hv77) .func .nil rfl) fun _=>jc (Zac lb tR)<|jn<|JC.ret ?_
         obtain rfl:=so hq11
         exact jd (.val (S rB v77)) rfl rfl rfl rfl rfl rfl
       refine jr<|jc (Zac lb .cI)<|jn<|JC.block<|bI hx11 fun tv12 hL12 hq12=>JC.pre (Imp.nilown Zab)<|JC.pre ?_ (JC.loop (γ:=Nat × Option Nat × ((List UInt8) → Nat) × Nat × Option Nat × Nat) (stf:=fun s q=>⟨[(1,ov (S (rL Zaj) a2)),(2,ov (S (rI .i64) a3)),(7,ov (PTR q.1 0)),(9,ov (PTR q.2.2.2.1 0)),(10,ov (S (rI .i64) s.2.2.2.2.2.2.2.2))],[cvar q.1 (rP (rW (MPV q.2.1)) (rP (rI .i64) (rP (rI .i64) (rP rB (rP (rI .i64) r0))))) ((),(t1,(s.2.1,(s.2.2.1,(s.2.2.2.1,()))))),cqm q.2.1 (S rS) Zaa q.2.2.1 (some s.1),cvar q.2.2.2.1 (rP (rW (HDR q.2.2.2.2.1 0 (List.length s.2.2.2.2.1) q.2.2.2.2.2)) (rP (rI .i64) (rP (rI .i64) (rP rB (rP (rI .i64) r0))))) ((),(t1,(s.2.2.2.2.2.1,(s.2.2.2.2.2.2.1,(s.2.2.2.2.2.2.2.1,()))))),cown q.2.2.2.2.1 Zab s.2.2.2.2.1 0 q.2.2.2.2.2],[]⟩) (q:=(gb4,go5,(fun _ : (List UInt8)=>0),gb12,none,0)) hL12 ?_)
       · exact (Imp.norm (js:=[0,0,0,0]) rfl (.cons rfl (.cons rfl (.cons rfl (.cons rfl (.cons rfl .nil))))))
       intro s q x hx hr
       obtain ⟨x17,qg18,qh19,qd20,L21,ql22,qj23,qe24,x25⟩:=s
       obtain ⟨gb26,go27,qm28,gb29,go30,gc31⟩:=q
       change law05_DiskPlays.b1 k a2 t1 a3 x17 qg18 qh19 qd20 L21 ql22 qj23 qe24 x25 = some x at hx
       unfold law05_DiskPlays.b1 at hx
       refine JC.at ⟨[(1,ov (S (rL Zaj) a2)),(2,ov (S (rI .i64) a3)),(7,ov (PTR gb26 0)),(9,ov (PTR gb29 0)),(10,ov (S (rI .i64) x25))],[cvar gb26 (zq1 go27) ((),(t1,(qg18,(qh19,(qd20,()))))),cqm go27 (S rS) Zaa qm28 (some x17),zq16 gb29 go30 L21 gc31 t1 ql22 qj23 qe24,cown go30 Zab L21 0 gc31],[]⟩<|JC.seq<|jr<|jmv rfl rfl<|jmv rfl rfl<|jc (Zcc lb tu22 tR)<|lI hx fun v32 hv32 hx=>jc (Zan lb tR tR (cs hv32))<|jn ?_
       rcases Zbc hx with ⟨hc13,hx⟩ | ⟨hc13,hx⟩
       · refine JC.condT tR hc13<|JC.skip<|JQ.then<|JC.seq<|JC.block<|jr<|jc (Zac lb .cI)<|jn<|jr<|jc (Zac lb .cI)<|jn<|jr<|jmv rfl rfl<|bI hx fun v33 hv33 hx=>jx (Zak (js:=[0,0]) ld cl18 (ZcC k t1 qg18 qh19 qd20 x17 gb26 go27 qm28 v33 hv33) .func (.cons tR .nil) rfl) (fun q=>?_)
         obtain ⟨gb34,go35,qm36⟩:=q
         refine jc (Zac lb tR)<|jn<|jr<|jmv rfl rfl<|JL.sub ⟨[(1,ov (S (rL Zaj) a2)),(2,ov (S (rI .i64) a3)),(7,ov (PTR gb26 0)),(9,ov (PTR gb29 0)),(10,ov (S (rI .i64) x25)),(12,ov (S (rI .i64) (0 : Int))),(13,ov (PTR gb34 0)),(65,ov (PTR gb26 0))],[cvar gb34 (zq1 go35) ((),(t1,(qg18,(qh19,(qd20,()))))),cqm go35 (S rS) Zaa qm36 (some (v33)),cvar gb26 (zq1 go27) ((),(t1,(qg18,(qh19,(qd20,()))))),cqm go27 (S rS) Zaa qm28 (some x17),zq16 gb29 go30 L21 gc31 t1 ql22 qj23 qe24,cown go30 Zab L21 0 gc31],[]⟩ (.cons rfl (.cons rfl (.cons rfl (.cons rfl (.cons rfl (.cons rfl (.cons rfl (.cons rfl .nil)))))))) rfl rfl<|jmv rfl rfl<|jmv rfl rfl<|bI hx fun v37 hv37 hx=>jc (ZaZ lb tu22 tz36 tR tR hv37)<|jc (Zgg lb tA36 tR rfl) ?_
         obtain ⟨⟨v38,v39,x40,x41,x42⟩,hv38,hx⟩:=Zas hx
         refine jx (Zak (js:=[2,2]) ld cl13 (Zen k v37 t1 qg18 qh19 qd20 x17 gb26 go27 qm28 (v38,v39,x40,x41,x42) hv38) .func (.cons tR (.cons tR .nil)) rfl) (fun q=>?_)
         obtain ⟨gb43,go44,qm45⟩:=q
         refine jmv rfl rfl<|jc (Zao (i:=0) lb tR rfl)<|jc (Zao (i:=1) lb tR rfl)<|jc (Zac lb tR)<|jc (Zac lb tR)<|JL.sub ⟨[(1,ov (S (rL Zaj) a2)),(2,ov (S (rI .i64) a3)),(7,ov (PTR gb43 0)),(9,ov (PTR gb29 0)),(10,ov (S (rI .i64) x25)),(12,ov (S (rI .i64) v38)),(13,ov (PTR gb34 0))],[cvar gb43 (zq1 go44) ((),(t1,(x40,(x41,(x42,()))))),cqm go44 (S rS) Zaa qm45 (some (v39)),cvar gb34 (zq1 go35) ((),(t1,(qg18,(qh19,(qd20,()))))),cqm go35 (S rS) Zaa qm36 (some (v33)),zq16 gb29 go30 L21 gc31 t1 ql22 qj23 qe24,cown go30 Zab L21 0 gc31],[]⟩ (.cons rfl (.cons rfl (.cons rfl (.cons rfl (.cons rfl (.cons rfl (.cons rfl .nil))))))) rfl rfl<|jn<|jr<|jmv rfl rfl<|bI hx fun v46 hv46 hx=>jx (Zak (js:=[4,4]) ld cl19 (ZdJ k t1 ql22 qj23 qe24 L21 gb29 go30 gc31 v46 hv46) .func (.cons tR .nil) rfl) (fun q=>?_)
         obtain ⟨gb47,go48,gc49⟩:=q
         refine jc (Zac lb tR)<|jn<|jr<|jmv rfl rfl<|jmv rfl rfl<|jmv rfl rfl<|bI hx fun v50 hv50 hx=>jc (ZaZ lb tu22 tz36 tR tR hv50)<|jc (Zgg lb tA36 tR rfl) ?_
         obtain ⟨⟨v51,v52,x53,x54,x55⟩,hv51,hx⟩:=Zas hx
         refine jx (Zak (js:=[2,2]) ld cl20 (ZdP k v50 t1 ql22 qj23 qe24 L21 gb29 go30 gc31 (v51,v52,x53,x54,x55) hv51) .func (.cons tR (.cons tR .nil)) rfl) (fun q=>?_)
         obtain ⟨gb56,go57,gc58⟩:=q
         refine JL.sub ⟨[(1,ov (S (rL Zaj) a2)),(2,ov (S (rI .i64) a3)),(7,ov (PTR gb43 0)),(10,ov (S (rI .i64) x25)),(12,ov (S (rI .i64) v38)),(13,ov (PTR gb34 0)),(14,ov (PTR gb47 0)),(81,.tup [.val (S (rI .i64) v51),.val (PTR gb56 0)])],[cvar gb56 (zq10 go57 v52 gc58) ((),(t1,(x53,(x54,(x55,()))))),cown go57 Zab v52 0 gc58,zq16 gb47 go48 v46 gc49 t1 ql22 qj23 qe24,cown go48 Zab v46 0 gc49,cvar gb43 (zq1 go44) ((),(t1,(x40,(x41,(x42,()))))),cqm go44 (S rS) Zaa qm45 (some (v39)),cvar gb34 (zq1 go35) ((),(t1,(qg18,(qh19,(qd20,()))))),cqm go35 (S rS) Zaa qm36 (some (v33))],[]⟩ (.cons rfl (.cons rfl (.cons rfl (.cons rfl (.cons rfl (.cons rfl (.cons rfl (.cons rfl .nil)))))))) rfl rfl<|jmv rfl rfl<|jc (Zao (i:=0) lb tR rfl)<|jc (Zao (i:=1) lb tR rfl)<|jc (Zac lb tR)<|jc (Zac lb tR)<|jn<|bI hx fun x75 hx14 hq14=>JC.seqJ (γ:=Unit) (stj:=fun _=>⟨[(1,ov (S (rL Zaj) a2)),(2,ov (S (rI .i64) a3)),(7,ov (PTR gb43 0)),(9,ov (PTR gb56 0)),(10,ov (S (rI .i64) x25)),(137,ov (S rB x75))],[cvar gb43 (zq1 go44) ((),(t1,(x40,(x41,(x42,()))))),cqm go44 (S rS) Zaa qm45 (some (v39)),cvar gb56 (zq10 go57 v52 gc58) ((),(t1,(x53,(x54,(x55,()))))),cown go57 Zab v52 0 gc58],[]⟩) (fun _=>?_) ?_
         · refine jif tR hq14 (fun hc52 hq14=>?_) (fun hc52 hq14=>?_)
           · refine jr<|jc (Zac lb .cB)<|jn<|JC.ret<|JQ.outRB<|JQ.outR ?_
             try obtain rfl:=so hq14
             try obtain rfl:=hr _ rfl
             dsimp only at hq12
             refine JQ.outR<|JQ.outRB ?_
             try obtain rfl:=so hq12
             dsimp only at hq11
             refine JQ.outR ?_
             obtain rfl:=so hq11
             exact jd (.val (S rB false)) rfl rfl rfl rfl rfl rfl
           refine JC.skip<|JQ.outNB<|JQ.then<|JC.region<|jmv rfl rfl<|lI hq14 fun v76 hv76 hq14=>jc (Zbx lb tR .cI (cs hv76))<|jc (Zac lb tR)<|JL.nil ?_
           try obtain rfl:=so hq14
           exact JQ.next (gb43,go44,qm45,gb56,go57,gc58) rfl (Imp.norm (js:=[0,0,0,0]) rfl (.cons rfl (.cons rfl (.cons rfl (.cons rfl (.cons rfl .nil))))))
         refine lI hx14 fun v59 hv59 hx14=>?_
         obtain ⟨v60,hv60,hx14⟩:=Zas hx14
         rcases Zbc hx14 with ⟨hc24,hx14⟩ | ⟨hc24,hx14⟩
         · refine JC.anyF (base:=[(1,ov (S (rL Zaj) a2)),(2,ov (S (rI .i64) a3)),(7,ov (PTR gb43 0)),(9,ov (PTR gb56 0)),(10,ov (S (rI .i64) x25)),(11,ov (S (rI .i64) v51)),(12,ov (S (rI .i64) v38))])
               (fs:=fun γ=>[⟨some 84,ov (PTR gb43 0)⟩,⟨some 85,ov (S rB false)⟩,⟨some 86,ov (S rB false)⟩,⟨some 87,ov (S (rI .i64) v38)⟩,⟨some 88,ov (S (rI .i64) v51)⟩,⟨some 89,ov (S rB v59)⟩,⟨some 90,ov (S rB v59)⟩,⟨some 91,ov (S rB v59)⟩,⟨some 92,bif (!v59) then ov (PTR gb43 0) else .one .und⟩,⟨some 93,bif (!v59) then ov (PTR gb56 0) else .one .und⟩,⟨some 94,bif (!v59) then ov (S (rL Zaj) a2) else .one .und⟩,⟨some 95,bif (!v59) then ov (S (rI .i64) x25) else .one .und⟩,⟨some 96,bif (!v59) then ov (PT Zaj v60) else .one .und⟩,⟨some 97,bif (!v59) then ov (PT rS v60.Name) else .one .und⟩,⟨some 98,bif (!v59) then ov (S rS v60.Name) else .one .und⟩,⟨some 99,bif (!v59) then ov (S (rI .i64) a3) else .one .und⟩,⟨some 100,.one .und⟩,⟨some 101,.one .und⟩,⟨some 102,ov (S rB true)⟩,⟨some 103,ov (S rB true)⟩,⟨some 104,.one .und⟩,⟨some 105,.one .und⟩,⟨some 106,.one .und⟩,⟨some 107,.one .und⟩,⟨some 108,.one .und⟩,⟨some 109,.one .und⟩,⟨some 110,.one .und⟩,⟨some 111,ov (S rB true)⟩,⟨some 112,ov (S rB true)⟩,⟨some 113,.one .und⟩,⟨some 114,.one .und⟩,⟨some 115,.one .und⟩,⟨some 116,.one .und⟩,⟨some 117,.one .und⟩,⟨some 118,.one .und⟩,⟨some 119,.one .und⟩,⟨some 120,.one .und⟩,⟨some 121,.one .und⟩,⟨some 122,ov (S rB true)⟩,⟨some 123,ov (S rB true)⟩,⟨some 124,.one .und⟩,⟨some 125,.one .und⟩,⟨some 126,.one .und⟩,⟨some 127,.one .und⟩,⟨some 128,.one .und⟩,⟨some 129,.one .und⟩,⟨some 130,.one .und⟩,⟨some 131,.one .und⟩,⟨some 132,.one .und⟩,⟨some 133,.one .und⟩,⟨some 134,.one .und⟩,⟨some 135,.one .und⟩,⟨some 136,.one .und⟩,⟨some 137,ov (S rB true)⟩])
               (rs:=fun γ=>[⟨cvar gb56 (zq10 go57 v52 gc58) ((),(t1,(x53,(x54,(x55,()))))),none,none,[]⟩,⟨cown go57 Zab v52 0 gc58,none,none,[]⟩,⟨zq16 gb47 go48 v46 gc49 t1 ql22 qj23 qe24,none,none,[]⟩,⟨cown go48 Zab v46 0 gc49,none,none,[]⟩,⟨cvar gb43 (zq1 go44) ((),(t1,(x40,(x41,(x42,()))))),none,none,[]⟩,⟨cqm go44 (S rS) Zaa qm45 (some (v39)),none,none,[]⟩,⟨cvar gb34 (zq1 go35) ((),(t1,(qg18,(qh19,(qd20,()))))),none,none,[]⟩,⟨cqm go35 (S rS) Zaa qm36 (some (v33)),none,none,[]⟩])
               (afts:=nn 54) (js:=[0,0,0,0,0,0,0,0]) mixed (.cons rfl (.cons rfl (.cons rfl (.cons rfl (.cons rfl (.cons rfl (.cons rfl .nil))))))) (fun _=>rfl)
               (by
      refine db 1 7<|dS 2 (fun γ ρ B hb hd=>Zd2 (neg:=false) lb tu25 (tl hd 0 84) (HasO.const (p:=PTO none) fun _=>rfl))<|dm 3 1 85<|dY 4 (fun γ ρ B hb hd=>⟨.yes rfl (ltB rfl) (hl hd 2 86 rfl) rfl,lkB (Zai lb (.tmp (hb 12 _ rfl)))⟩)<|dY 5 (fun γ ρ B hb hd=>⟨.yes rfl (ltB rfl) (hl hd 2 86 rfl) rfl,lkB (Zai lb (.tmp (hb 11 _ rfl)))⟩) ?_
      refine dY 6 (fun γ ρ B hb hd=>⟨.yes rfl (ltB rfl) (hl hd 2 86 rfl) rfl,lkB (Zan lb (tl hd 3 87) (tl hd 4 88) (cs hv59))⟩)<|dS 7 (fun γ ρ B hb hd=>Zar lb (tl hd 2 86) rfl (tl hd 5 89))<|dm 8 6 90 ?_
      refine dF 9 7 91 v59 (fun γ=>ov (PTR gb43 0)) (fun γ ρ B hb hd hq15=>Zai lb (.tmp (hb 7 _ rfl))) ?_
      refine dF 10 7 91 v59 (fun γ=>ov (PTR gb56 0)) (fun γ ρ B hb hd hq16=>Zai lb (.tmp (hb 9 _ rfl))) ?_
      refine dF 11 7 91 v59 (fun γ=>ov (S (rL Zaj) a2)) (fun γ ρ B hb hd hq17=>Zai lb (.tmp (hb 1 _ rfl))) ?_
      refine dF 12 7 91 v59 (fun γ=>ov (S (rI .i64) x25)) (fun γ ρ B hb hd hq18=>Zai lb (.tmp (hb 10 _ rfl))) ?_
      refine dF 13 7 91 v59 (fun γ=>ov (PT Zaj v60)) (fun γ ρ B hb hd hq19=>ZaZ lb tu22 tz36 (HasO.cnd (tl hd 10 94) (notT (notF hq19))) (HasO.cnd (tl hd 11 95) (notT (notF hq19))) (ifT hv60 hq19)) ?_
      refine dF 14 7 91 v59 (fun γ=>ov (PT rS v60.Name)) (fun γ ρ B hb hd hq20=>Zbw lb Zdj (HasO.cnd (tl hd 12 96) (notT (notF hq20))) (Zav v60)) ?_
      refine dF 15 7 91 v59 (fun γ=>ov (S rS v60.Name)) (fun γ ρ B hb hd hq21=>ZbE lb tS9 rfl (HasO.cnd (tl hd 13 97) (notT (notF hq21))) rfl) ?_
      refine dF 16 7 91 v59 (fun γ=>ov (S (rI .i64) a3)) (fun γ ρ B hb hd hq22=>Zai lb (.tmp (hb 2 _ rfl))) ?_
      refine kn 17 7 91 rfl hc24<|kn 18 7 91 rfl hc24<|dS 19 (fun γ ρ B hb hd=>Zaw lb (tl hd 7 91) hc24 .cB)<|dm 20 18 102<|kn 21 19 103 rfl rfl ?_
      refine kn 22 19 103 rfl rfl<|kn 23 19 103 rfl rfl<|kn 24 19 103 rfl rfl<|kn 25 19 103 rfl rfl<|kn 26 19 103 rfl rfl ?_
      refine kn 27 19 103 rfl rfl<|dS 28 (fun γ ρ B hb hd=>Zaw lb (tl hd 19 103) rfl .cB)<|dm 29 27 111<|kn 30 28 112 rfl rfl<|kn 31 28 112 rfl rfl ?_
      refine kn 32 28 112 rfl rfl<|kn 33 28 112 rfl rfl<|kn 34 28 112 rfl rfl<|kn 35 28 112 rfl rfl<|kn 36 28 112 rfl rfl ?_
      refine kn 37 28 112 rfl rfl<|kn 38 28 112 rfl rfl<|dS 39 (fun γ ρ B hb hd=>Zaw lb (tl hd 28 112) rfl .cB)<|dm 40 38 122<|kn 41 39 123 rfl rfl ?_
      refine kn 42 39 123 rfl rfl<|kn 43 39 123 rfl rfl<|kn 44 39 123 rfl rfl<|kn 45 39 123 rfl rfl<|kn 46 39 123 rfl rfl ?_
      refine kn 47 39 123 rfl rfl<|kn 48 39 123 rfl rfl<|kn 49 39 123 rfl rfl<|kn 50 39 123 rfl rfl<|kn 51 39 123 rfl rfl ?_
      refine kn 52 39 123 rfl rfl<|kn 53 39 123 rfl rfl<|dS 54 (fun γ ρ B hb hd=>Zaw lb (tl hd 39 123) rfl .cB) ?_
      exact Zat.nil)
               (by decide +kernel) (fun _=>rfl) (fun _=>rfl) (fun _=>rfl) rfl
               (ρ':=fun γ=>[(1,ov (S (rL Zaj) a2)),(2,ov (S (rI .i64) a3)),(7,ov (PTR gb43 0)),(9,ov (PTR gb56 0)),(10,ov (S (rI .i64) x25)),(137,ov (S rB true))])
               (X':=fun γ=>[cvar gb56 (zq10 go57 v52 gc58) ((),(t1,(x53,(x54,(x55,()))))),cown go57 Zab v52 0 gc58,zq16 gb47 go48 v46 gc49 t1 ql22 qj23 qe24,cown go48 Zab v46 0 gc49,cvar gb43 (zq1 go44) ((),(t1,(x40,(x41,(x42,()))))),cqm go44 (S rS) Zaa qm45 (some (v39)),cvar gb34 (zq1 go35) ((),(t1,(qg18,(qh19,(qd20,()))))),cqm go35 (S rS) Zaa qm36 (some (v33))])
               (fun γ ρ hb hd=>(.cons (hb 1 _ rfl) (.cons (hb 2 _ rfl) (.cons (hb 7 _ rfl) (.cons (hb 9 _ rfl) (.cons (hb 10 _ rfl) (.cons (hdq hd 53 137 rfl) .nil))))))) (fun _=>rfl) (fun γ=>?_)
           refine JQ.at ⟨[(1,ov (S (rL Zaj) a2)),(2,ov (S (rI .i64) a3)),(7,ov (PTR gb43 0)),(9,ov (PTR gb56 0)),(10,ov (S (rI .i64) x25)),(137,ov (S rB true))],[cvar gb56 (zq10 go57 v52 gc58) ((),(t1,(x53,(x54,(x55,()))))),cown go57 Zab v52 0 gc58,zq16 gb47 go48 v46 gc49 t1 ql22 qj23 qe24,cown go48 Zab v46 0 gc49,cvar gb43 (zq1 go44) ((),(t1,(x40,(x41,(x42,()))))),cqm go44 (S rS) Zaa qm45 (some (v39)),cvar gb34 (zq1 go35) ((),(t1,(qg18,(qh19,(qd20,()))))),cqm go35 (S rS) Zaa qm36 (some (v33))],[]⟩ ?_
           try obtain rfl:=so hx14
           exact JQ.join () (Imp.norm (js:=[4,4,0,0]) rfl (.cons rfl (.cons rfl (.cons rfl (.cons rfl (.cons rfl (.cons rfl .nil)))))))
         refine bI hx14 fun v61 hv61 hx14=>?_
         obtain ⟨v62,hv62,hx14⟩:=Za2 hx14
         rcases Zbc hx14 with ⟨hc28,hx14⟩ | ⟨hc28,hx14⟩
         · refine JC.anyF (base:=[(1,ov (S (rL Zaj) a2)),(2,ov (S (rI .i64) a3)),(7,ov (PTR gb43 0)),(9,ov (PTR gb56 0)),(10,ov (S (rI .i64) x25)),(11,ov (S (rI .i64) v51)),(12,ov (S (rI .i64) v38)),(13,ov (PTR gb34 0))])
               (fs:=fun γ=>[⟨some 84,ov (PTR gb43 0)⟩,⟨some 85,ov (S rB false)⟩,⟨some 86,ov (S rB false)⟩,⟨some 87,ov (S (rI .i64) v38)⟩,⟨some 88,ov (S (rI .i64) v51)⟩,⟨some 89,ov (S rB v59)⟩,⟨some 90,ov (S rB v59)⟩,⟨some 91,ov (S rB v59)⟩,⟨some 92,bif (!v59) then ov (PTR gb43 0) else .one .und⟩,⟨some 93,bif (!v59) then ov (PTR gb56 0) else .one .und⟩,⟨some 94,bif (!v59) then ov (S (rL Zaj) a2) else .one .und⟩,⟨some 95,bif (!v59) then ov (S (rI .i64) x25) else .one .und⟩,⟨some 96,bif (!v59) then ov (PT Zaj v60) else .one .und⟩,⟨some 97,bif (!v59) then ov (PT rS v60.Name) else .one .und⟩,⟨some 98,bif (!v59) then ov (S rS v60.Name) else .one .und⟩,⟨some 99,bif (!v59) then ov (S (rI .i64) a3) else .one .und⟩,⟨some 100,ov (S rB v61)⟩,⟨some 101,ov (S rB v62)⟩,⟨some 102,ov (S rB v62)⟩,⟨some 103,ov (S rB v62)⟩,⟨some 104,bif (!v62) then ov (PTR gb43 0) else .one .und⟩,⟨some 105,bif (!v62) then ov (PTR gb34 0) else .one .und⟩,⟨some 106,.one .und⟩,⟨some 107,.one .und⟩,⟨some 108,.one .und⟩,⟨some 109,.one .und⟩,⟨some 110,.one .und⟩,⟨some 111,ov (S rB true)⟩,⟨some 112,ov (S rB true)⟩,⟨some 113,.one .und⟩,⟨some 114,.one .und⟩,⟨some 115,.one .und⟩,⟨some 116,.one .und⟩,⟨some 117,.one .und⟩,⟨some 118,.one .und⟩,⟨some 119,.one .und⟩,⟨some 120,.one .und⟩,⟨some 121,.one .und⟩,⟨some 122,ov (S rB true)⟩,⟨some 123,ov (S rB true)⟩,⟨some 124,.one .und⟩,⟨some 125,.one .und⟩,⟨some 126,.one .und⟩,⟨some 127,.one .und⟩,⟨some 128,.one .und⟩,⟨some 129,.one .und⟩,⟨some 130,.one .und⟩,⟨some 131,.one .und⟩,⟨some 132,.one .und⟩,⟨some 133,.one .und⟩,⟨some 134,.one .und⟩,⟨some 135,.one .und⟩,⟨some 136,.one .und⟩,⟨some 137,ov (S rB true)⟩])
               (rs:=fun γ=>[⟨cvar gb56 (zq10 go57 v52 gc58) ((),(t1,(x53,(x54,(x55,()))))),none,none,[16]⟩,⟨cown go57 Zab v52 0 gc58,none,none,[16]⟩,⟨zq16 gb47 go48 v46 gc49 t1 ql22 qj23 qe24,none,none,[]⟩,⟨cown go48 Zab v46 0 gc49,none,none,[]⟩,⟨cvar gb43 (zq1 go44) ((),(t1,(x40,(x41,(x42,()))))),none,none,[16]⟩,⟨cqm go44 (S rS) Zaa qm45 (some (v39)),none,none,[16]⟩,⟨cvar gb34 (zq1 go35) ((),(t1,(qg18,(qh19,(qd20,()))))),none,none,[]⟩,⟨cqm go35 (S rS) Zaa qm36 (some (v33)),none,none,[]⟩])
               (afts:=nn 54) (js:=[0,0,0,0,0,0,0,0]) mixed (.cons rfl (.cons rfl (.cons rfl (.cons rfl (.cons rfl (.cons rfl (.cons rfl (.cons rfl .nil)))))))) (fun _=>rfl)
               (by
      refine db 1 7<|dS 2 (fun γ ρ B hb hd=>Zd2 (neg:=false) lb tu25 (tl hd 0 84) (HasO.const (p:=PTO none) fun _=>rfl))<|dm 3 1 85<|dY 4 (fun γ ρ B hb hd=>⟨.yes rfl (ltB rfl) (hl hd 2 86 rfl) rfl,lkB (Zai lb (.tmp (hb 12 _ rfl)))⟩)<|dY 5 (fun γ ρ B hb hd=>⟨.yes rfl (ltB rfl) (hl hd 2 86 rfl) rfl,lkB (Zai lb (.tmp (hb 11 _ rfl)))⟩) ?_
      refine dY 6 (fun γ ρ B hb hd=>⟨.yes rfl (ltB rfl) (hl hd 2 86 rfl) rfl,lkB (Zan lb (tl hd 3 87) (tl hd 4 88) (cs hv59))⟩)<|dS 7 (fun γ ρ B hb hd=>Zar lb (tl hd 2 86) rfl (tl hd 5 89))<|dm 8 6 90 ?_
      refine dF 9 7 91 v59 (fun γ=>ov (PTR gb43 0)) (fun γ ρ B hb hd hq15=>Zai lb (.tmp (hb 7 _ rfl))) ?_
      refine dF 10 7 91 v59 (fun γ=>ov (PTR gb56 0)) (fun γ ρ B hb hd hq16=>Zai lb (.tmp (hb 9 _ rfl))) ?_
      refine dF 11 7 91 v59 (fun γ=>ov (S (rL Zaj) a2)) (fun γ ρ B hb hd hq17=>Zai lb (.tmp (hb 1 _ rfl))) ?_
      refine dF 12 7 91 v59 (fun γ=>ov (S (rI .i64) x25)) (fun γ ρ B hb hd hq18=>Zai lb (.tmp (hb 10 _ rfl))) ?_
      refine dF 13 7 91 v59 (fun γ=>ov (PT Zaj v60)) (fun γ ρ B hb hd hq19=>ZaZ lb tu22 tz36 (HasO.cnd (tl hd 10 94) (notT (notF hq19))) (HasO.cnd (tl hd 11 95) (notT (notF hq19))) (ifT hv60 hq19)) ?_
      refine dF 14 7 91 v59 (fun γ=>ov (PT rS v60.Name)) (fun γ ρ B hb hd hq20=>Zbw lb Zdj (HasO.cnd (tl hd 12 96) (notT (notF hq20))) (Zav v60)) ?_
      refine dF 15 7 91 v59 (fun γ=>ov (S rS v60.Name)) (fun γ ρ B hb hd hq21=>ZbE lb tS9 rfl (HasO.cnd (tl hd 13 97) (notT (notF hq21))) rfl) ?_
      refine dF 16 7 91 v59 (fun γ=>ov (S (rI .i64) a3)) (fun γ ρ B hb hd hq22=>Zai lb (.tmp (hb 2 _ rfl))) ?_
      refine dY 17 (fun γ ρ B hb hd=>⟨.yes rfl (ltB rfl) (hl hd 7 91 rfl) hc24,Zag.lk ⟨ρ,(cvar gb56 (zq10 go57 v52 gc58) ((),(t1,(x53,(x54,(x55,()))))))::(cown go57 Zab v52 0 gc58)::(cvar gb43 (zq1 go44) ((),(t1,(x40,(x41,(x42,()))))))::(cqm go44 (S rS) Zaa qm45 (some (v39)))::B,_⟩ ((Zak (js:=[2,2,0,0]) ld cl17 (Zbu k v60.Name a3 t1 x40 x41 x42 (v39) t1 x53 x54 x55 v52 gb43 go44 qm45 gb56 go57 gc58 v61 hv61) .func (.cons (HasO.cnd (tl hd 8 92) (notT hc24)) (.cons (HasO.cnd (tl hd 9 93) (notT hc24)) (.cons (HasO.cnd (tl hd 14 98) (notT hc24)) (.cons (HasO.cnd (tl hd 15 99) (notT hc24)) .nil)))) rfl).post (fun _=>Imp.pick (js:=[2,2,0,0]) rfl rfl))⟩)<|dY 18 (fun γ ρ B hb hd=>⟨.yes rfl (ltB rfl) (hl hd 7 91 rfl) hc24,lkB (Zce lb (tl hd 16 100) hv62)⟩)<|dS 19 (fun γ ρ B hb hd=>Zar lb (tl hd 7 91) hc24 (tl hd 17 101))<|dm 20 18 102 ?_
      refine dF 21 19 103 v62 (fun γ=>ov (PTR gb43 0)) (fun γ ρ B hb hd hq25=>Zai lb (.tmp (hb 7 _ rfl))) ?_
      refine dF 22 19 103 v62 (fun γ=>ov (PTR gb34 0)) (fun γ ρ B hb hd hq26=>Zai lb (.tmp (hb 13 _ rfl))) ?_
      refine kn 23 19 103 rfl hc28<|kn 24 19 103 rfl hc28<|kn 25 19 103 rfl hc28<|kn 26 19 103 rfl hc28<|kn 27 19 103 rfl hc28 ?_
      refine dS 28 (fun γ ρ B hb hd=>Zaw lb (tl hd 19 103) hc28 .cB)<|dm 29 27 111<|kn 30 28 112 rfl rfl<|kn 31 28 112 rfl rfl<|kn 32 28 112 rfl rfl ?_
      refine kn 33 28 112 rfl rfl<|kn 34 28 112 rfl rfl<|kn 35 28 112 rfl rfl<|kn 36 28 112 rfl rfl<|kn 37 28 112 rfl rfl ?_
      refine kn 38 28 112 rfl rfl<|dS 39 (fun γ ρ B hb hd=>Zaw lb (tl hd 28 112) rfl .cB)<|dm 40 38 122<|kn 41 39 123 rfl rfl<|kn 42 39 123 rfl rfl ?_
      refine kn 43 39 123 rfl rfl<|kn 44 39 123 rfl rfl<|kn 45 39 123 rfl rfl<|kn 46 39 123 rfl rfl<|kn 47 39 123 rfl rfl ?_
      refine kn 48 39 123 rfl rfl<|kn 49 39 123 rfl rfl<|kn 50 39 123 rfl rfl<|kn 51 39 123 rfl rfl<|kn 52 39 123 rfl rfl ?_
      refine kn 53 39 123 rfl rfl<|dS 54 (fun γ ρ B hb hd=>Zaw lb (tl hd 39 123) rfl .cB) ?_
      exact Zat.nil)
               (by decide +kernel) (fun _=>rfl) (fun _=>rfl) (fun _=>rfl) rfl
               (ρ':=fun γ=>[(1,ov (S (rL Zaj) a2)),(2,ov (S (rI .i64) a3)),(7,ov (PTR gb43 0)),(9,ov (PTR gb56 0)),(10,ov (S (rI .i64) x25)),(137,ov (S rB true))])
               (X':=fun γ=>[cvar gb56 (zq10 go57 v52 gc58) ((),(t1,(x53,(x54,(x55,()))))),cown go57 Zab v52 0 gc58,zq16 gb47 go48 v46 gc49 t1 ql22 qj23 qe24,cown go48 Zab v46 0 gc49,cvar gb43 (zq1 go44) ((),(t1,(x40,(x41,(x42,()))))),cqm go44 (S rS) Zaa qm45 (some (v39)),cvar gb34 (zq1 go35) ((),(t1,(qg18,(qh19,(qd20,()))))),cqm go35 (S rS) Zaa qm36 (some (v33))])
               (fun γ ρ hb hd=>(.cons (hb 1 _ rfl) (.cons (hb 2 _ rfl) (.cons (hb 7 _ rfl) (.cons (hb 9 _ rfl) (.cons (hb 10 _ rfl) (.cons (hdq hd 53 137 rfl) .nil))))))) (fun _=>rfl) (fun γ=>?_)
           refine JQ.at ⟨[(1,ov (S (rL Zaj) a2)),(2,ov (S (rI .i64) a3)),(7,ov (PTR gb43 0)),(9,ov (PTR gb56 0)),(10,ov (S (rI .i64) x25)),(137,ov (S rB true))],[cvar gb56 (zq10 go57 v52 gc58) ((),(t1,(x53,(x54,(x55,()))))),cown go57 Zab v52 0 gc58,zq16 gb47 go48 v46 gc49 t1 ql22 qj23 qe24,cown go48 Zab v46 0 gc49,cvar gb43 (zq1 go44) ((),(t1,(x40,(x41,(x42,()))))),cqm go44 (S rS) Zaa qm45 (some (v39)),cvar gb34 (zq1 go35) ((),(t1,(qg18,(qh19,(qd20,()))))),cqm go35 (S rS) Zaa qm36 (some (v33))],[]⟩ ?_
           try obtain rfl:=so hx14
           exact JQ.join () (Imp.norm (js:=[4,4,0,0]) rfl (.cons rfl (.cons rfl (.cons rfl (.cons rfl (.cons rfl (.cons rfl .nil)))))))
         refine bI hx14 fun v63 hv63 hx14=>bI hx14 fun v64 hv64 hx14=>lI hx14 fun v65 hv65 hx14=>?_
         obtain ⟨v66,hv66,hx14⟩:=Zas hx14
         rcases Zbc hx14 with ⟨hc37,hx14⟩ | ⟨hc37,hx14⟩
         · refine JC.anyF (base:=[(1,ov (S (rL Zaj) a2)),(2,ov (S (rI .i64) a3)),(7,ov (PTR gb43 0)),(9,ov (PTR gb56 0)),(10,ov (S (rI .i64) x25)),(11,ov (S (rI .i64) v51)),(12,ov (S (rI .i64) v38)),(13,ov (PTR gb34 0)),(14,ov (PTR gb47 0))])
               (fs:=fun γ=>[⟨some 84,ov (PTR gb43 0)⟩,⟨some 85,ov (S rB false)⟩,⟨some 86,ov (S rB false)⟩,⟨some 87,ov (S (rI .i64) v38)⟩,⟨some 88,ov (S (rI .i64) v51)⟩,⟨some 89,ov (S rB v59)⟩,⟨some 90,ov (S rB v59)⟩,⟨some 91,ov (S rB v59)⟩,⟨some 92,bif (!v59) then ov (PTR gb43 0) else .one .und⟩,⟨some 93,bif (!v59) then ov (PTR gb56 0) else .one .und⟩,⟨some 94,bif (!v59) then ov (S (rL Zaj) a2) else .one .und⟩,⟨some 95,bif (!v59) then ov (S (rI .i64) x25) else .one .und⟩,⟨some 96,bif (!v59) then ov (PT Zaj v60) else .one .und⟩,⟨some 97,bif (!v59) then ov (PT rS v60.Name) else .one .und⟩,⟨some 98,bif (!v59) then ov (S rS v60.Name) else .one .und⟩,⟨some 99,bif (!v59) then ov (S (rI .i64) a3) else .one .und⟩,⟨some 100,ov (S rB v61)⟩,⟨some 101,ov (S rB v62)⟩,⟨some 102,ov (S rB v62)⟩,⟨some 103,ov (S rB v62)⟩,⟨some 104,bif (!v62) then ov (PTR gb43 0) else .one .und⟩,⟨some 105,bif (!v62) then ov (PTR gb34 0) else .one .und⟩,⟨some 106,ov (S rB v63)⟩,⟨some 107,ov (PTR gb56 0)⟩,⟨some 108,ov (PTR gb47 0)⟩,⟨some 109,ov (S rB v64)⟩,⟨some 110,ov (S rB v65)⟩,⟨some 111,ov (S rB v65)⟩,⟨some 112,ov (S rB v65)⟩,⟨some 113,bif (!v65) then ov (PTR gb34 0) else .one .und⟩,⟨some 114,bif (!v65) then ov (PTR gb47 0) else .one .und⟩,⟨some 115,bif (!v65) then ov (S (rL Zaj) a2) else .one .und⟩,⟨some 116,bif (!v65) then ov (S (rI .i64) x25) else .one .und⟩,⟨some 117,bif (!v65) then ov (PT Zaj v66) else .one .und⟩,⟨some 118,bif (!v65) then ov (PT rS v66.Name) else .one .und⟩,⟨some 119,bif (!v65) then ov (S rS v66.Name) else .one .und⟩,⟨some 120,.one .und⟩,⟨some 121,.one .und⟩,⟨some 122,ov (S rB true)⟩,⟨some 123,ov (S rB true)⟩,⟨some 124,.one .und⟩,⟨some 125,.one .und⟩,⟨some 126,.one .und⟩,⟨some 127,.one .und⟩,⟨some 128,.one .und⟩,⟨some 129,.one .und⟩,⟨some 130,.one .und⟩,⟨some 131,.one .und⟩,⟨some 132,.one .und⟩,⟨some 133,.one .und⟩,⟨some 134,.one .und⟩,⟨some 135,.one .und⟩,⟨some 136,.one .und⟩,⟨some 137,ov (S rB true)⟩])
               (rs:=fun γ=>[⟨cvar gb56 (zq10 go57 v52 gc58) ((),(t1,(x53,(x54,(x55,()))))),none,none,[16,25]⟩,⟨cown go57 Zab v52 0 gc58,none,none,[16,25]⟩,⟨zq16 gb47 go48 v46 gc49 t1 ql22 qj23 qe24,none,none,[25]⟩,⟨cown go48 Zab v46 0 gc49,none,none,[25]⟩,⟨cvar gb43 (zq1 go44) ((),(t1,(x40,(x41,(x42,()))))),none,none,[16,22]⟩,⟨cqm go44 (S rS) Zaa qm45 (some (v39)),none,none,[16,22]⟩,⟨cvar gb34 (zq1 go35) ((),(t1,(qg18,(qh19,(qd20,()))))),none,none,[22]⟩,⟨cqm go35 (S rS) Zaa qm36 (some (v33)),none,none,[22]⟩])
               (afts:=nn 54) (js:=[0,0,0,0,0,0,0,0]) mixed (.cons rfl (.cons rfl (.cons rfl (.cons rfl (.cons rfl (.cons rfl (.cons rfl (.cons rfl (.cons rfl .nil))))))))) (fun _=>rfl)
               (by
      refine db 1 7<|dS 2 (fun γ ρ B hb hd=>Zd2 (neg:=false) lb tu25 (tl hd 0 84) (HasO.const (p:=PTO none) fun _=>rfl))<|dm 3 1 85<|dY 4 (fun γ ρ B hb hd=>⟨.yes rfl (ltB rfl) (hl hd 2 86 rfl) rfl,lkB (Zai lb (.tmp (hb 12 _ rfl)))⟩)<|dY 5 (fun γ ρ B hb hd=>⟨.yes rfl (ltB rfl) (hl hd 2 86 rfl) rfl,lkB (Zai lb (.tmp (hb 11 _ rfl)))⟩) ?_
      refine dY 6 (fun γ ρ B hb hd=>⟨.yes rfl (ltB rfl) (hl hd 2 86 rfl) rfl,lkB (Zan lb (tl hd 3 87) (tl hd 4 88) (cs hv59))⟩)<|dS 7 (fun γ ρ B hb hd=>Zar lb (tl hd 2 86) rfl (tl hd 5 89))<|dm 8 6 90 ?_
      refine dF 9 7 91 v59 (fun γ=>ov (PTR gb43 0)) (fun γ ρ B hb hd hq15=>Zai lb (.tmp (hb 7 _ rfl))) ?_
      refine dF 10 7 91 v59 (fun γ=>ov (PTR gb56 0)) (fun γ ρ B hb hd hq16=>Zai lb (.tmp (hb 9 _ rfl))) ?_
      refine dF 11 7 91 v59 (fun γ=>ov (S (rL Zaj) a2)) (fun γ ρ B hb hd hq17=>Zai lb (.tmp (hb 1 _ rfl))) ?_
      refine dF 12 7 91 v59 (fun γ=>ov (S (rI .i64) x25)) (fun γ ρ B hb hd hq18=>Zai lb (.tmp (hb 10 _ rfl))) ?_
      refine dF 13 7 91 v59 (fun γ=>ov (PT Zaj v60)) (fun γ ρ B hb hd hq19=>ZaZ lb tu22 tz36 (HasO.cnd (tl hd 10 94) (notT (notF hq19))) (HasO.cnd (tl hd 11 95) (notT (notF hq19))) (ifT hv60 hq19)) ?_
      refine dF 14 7 91 v59 (fun γ=>ov (PT rS v60.Name)) (fun γ ρ B hb hd hq20=>Zbw lb Zdj (HasO.cnd (tl hd 12 96) (notT (notF hq20))) (Zav v60)) ?_
      refine dF 15 7 91 v59 (fun γ=>ov (S rS v60.Name)) (fun γ ρ B hb hd hq21=>ZbE lb tS9 rfl (HasO.cnd (tl hd 13 97) (notT (notF hq21))) rfl) ?_
      refine dF 16 7 91 v59 (fun γ=>ov (S (rI .i64) a3)) (fun γ ρ B hb hd hq22=>Zai lb (.tmp (hb 2 _ rfl))) ?_
      refine dY 17 (fun γ ρ B hb hd=>⟨.yes rfl (ltB rfl) (hl hd 7 91 rfl) hc24,Zag.lk ⟨ρ,(cvar gb56 (zq10 go57 v52 gc58) ((),(t1,(x53,(x54,(x55,()))))))::(cown go57 Zab v52 0 gc58)::(cvar gb43 (zq1 go44) ((),(t1,(x40,(x41,(x42,()))))))::(cqm go44 (S rS) Zaa qm45 (some (v39)))::B,_⟩ ((Zak (js:=[2,2,0,0]) ld cl17 (Zbu k v60.Name a3 t1 x40 x41 x42 (v39) t1 x53 x54 x55 v52 gb43 go44 qm45 gb56 go57 gc58 v61 hv61) .func (.cons (HasO.cnd (tl hd 8 92) (notT hc24)) (.cons (HasO.cnd (tl hd 9 93) (notT hc24)) (.cons (HasO.cnd (tl hd 14 98) (notT hc24)) (.cons (HasO.cnd (tl hd 15 99) (notT hc24)) .nil)))) rfl).post (fun _=>Imp.pick (js:=[2,2,0,0]) rfl rfl))⟩)<|dY 18 (fun γ ρ B hb hd=>⟨.yes rfl (ltB rfl) (hl hd 7 91 rfl) hc24,lkB (Zce lb (tl hd 16 100) hv62)⟩)<|dS 19 (fun γ ρ B hb hd=>Zar lb (tl hd 7 91) hc24 (tl hd 17 101))<|dm 20 18 102 ?_
      refine dF 21 19 103 v62 (fun γ=>ov (PTR gb43 0)) (fun γ ρ B hb hd hq25=>Zai lb (.tmp (hb 7 _ rfl))) ?_
      refine dF 22 19 103 v62 (fun γ=>ov (PTR gb34 0)) (fun γ ρ B hb hd hq26=>Zai lb (.tmp (hb 13 _ rfl))) ?_
      refine dY 23 (fun γ ρ B hb hd=>⟨.yes rfl (ltB rfl) (hl hd 19 103 rfl) hc28,Zag.lk ⟨ρ,(cvar gb43 (zq1 go44) ((),(t1,(x40,(x41,(x42,()))))))::(cqm go44 (S rS) Zaa qm45 (some (v39)))::(cvar gb34 (zq1 go35) ((),(t1,(qg18,(qh19,(qd20,()))))))::(cqm go35 (S rS) Zaa qm36 (some (v33)))::B,_⟩ ((Zak (js:=[0,0,0,0]) ld cl21 (Zb5 k t1 x40 x41 x42 (v39) t1 qg18 qh19 qd20 (v33) gb43 go44 qm45 gb34 go35 qm36 v63 hv63) .func (.cons (HasO.cnd (tl hd 20 104) (notT hc28)) (.cons (HasO.cnd (tl hd 21 105) (notT hc28)) .nil)) rfl).post (fun _=>Imp.pick (js:=[0,0,0,0]) rfl rfl))⟩)<|dY 24 (fun γ ρ B hb hd=>⟨.yes rfl (ltB rfl) (hl hd 19 103 rfl) hc28,lkB (Zai lb (.tmp (hb 9 _ rfl)))⟩)<|dY 25 (fun γ ρ B hb hd=>⟨.yes rfl (ltB rfl) (hl hd 19 103 rfl) hc28,lkB (Zai lb (.tmp (hb 14 _ rfl)))⟩) ?_
      refine dY 26 (fun γ ρ B hb hd=>⟨.yes rfl (ltB rfl) (hl hd 19 103 rfl) hc28,Zag.lk ⟨ρ,(cvar gb56 (zq10 go57 v52 gc58) ((),(t1,(x53,(x54,(x55,()))))))::(cown go57 Zab v52 0 gc58)::(zq16 gb47 go48 v46 gc49 t1 ql22 qj23 qe24)::(cown go48 Zab v46 0 gc49)::B,_⟩ ((Zak (js:=[0,0,0,0]) ld cl22 (Zb9 k t1 x53 x54 x55 v52 t1 ql22 qj23 qe24 v46 gb56 go57 gc58 gb47 go48 gc49 v64 hv64) .func (.cons (tl hd 23 107) (.cons (tl hd 24 108) .nil)) rfl).post (fun _=>Imp.pick (js:=[0,0,0,0]) rfl rfl))⟩)<|dY 27 (fun γ ρ B hb hd=>⟨.yes rfl (ltB rfl) (hl hd 19 103 rfl) hc28,lkB (Zjf lb tu4 (tl hd 22 106) (tl hd 25 109) hv65)⟩)<|dS 28 (fun γ ρ B hb hd=>Zar lb (tl hd 19 103) hc28 (tl hd 26 110))<|dm 29 27 111 ?_
      refine dF 30 28 112 v65 (fun γ=>ov (PTR gb34 0)) (fun γ ρ B hb hd hq29=>Zai lb (.tmp (hb 13 _ rfl))) ?_
      refine dF 31 28 112 v65 (fun γ=>ov (PTR gb47 0)) (fun γ ρ B hb hd hq30=>Zai lb (.tmp (hb 14 _ rfl))) ?_
      refine dF 32 28 112 v65 (fun γ=>ov (S (rL Zaj) a2)) (fun γ ρ B hb hd hq31=>Zai lb (.tmp (hb 1 _ rfl))) ?_
      refine dF 33 28 112 v65 (fun γ=>ov (S (rI .i64) x25)) (fun γ ρ B hb hd hq32=>Zai lb (.tmp (hb 10 _ rfl))) ?_
      refine dF 34 28 112 v65 (fun γ=>ov (PT Zaj v66)) (fun γ ρ B hb hd hq33=>ZaZ lb tu22 tz36 (HasO.cnd (tl hd 31 115) (notT (notF hq33))) (HasO.cnd (tl hd 32 116) (notT (notF hq33))) (ifT hv66 hq33)) ?_
      refine dF 35 28 112 v65 (fun γ=>ov (PT rS v66.Name)) (fun γ ρ B hb hd hq34=>Zbw lb Zdj (HasO.cnd (tl hd 33 117) (notT (notF hq34))) (Zav v66)) ?_
      refine dF 36 28 112 v65 (fun γ=>ov (S rS v66.Name)) (fun γ ρ B hb hd hq35=>ZbE lb tS9 rfl (HasO.cnd (tl hd 34 118) (notT (notF hq35))) rfl) ?_
      refine kn 37 28 112 rfl hc37<|kn 38 28 112 rfl hc37<|dS 39 (fun γ ρ B hb hd=>Zaw lb (tl hd 28 112) hc37 .cB)<|dm 40 38 122<|kn 41 39 123 rfl rfl ?_
      refine kn 42 39 123 rfl rfl<|kn 43 39 123 rfl rfl<|kn 44 39 123 rfl rfl<|kn 45 39 123 rfl rfl<|kn 46 39 123 rfl rfl ?_
      refine kn 47 39 123 rfl rfl<|kn 48 39 123 rfl rfl<|kn 49 39 123 rfl rfl<|kn 50 39 123 rfl rfl<|kn 51 39 123 rfl rfl ?_
      refine kn 52 39 123 rfl rfl<|kn 53 39 123 rfl rfl<|dS 54 (fun γ ρ B hb hd=>Zaw lb (tl hd 39 123) rfl .cB) ?_
      exact Zat.nil)
               (by decide +kernel) (fun _=>rfl) (fun _=>rfl) (fun _=>rfl) rfl
               (ρ':=fun γ=>[(1,ov (S (rL Zaj) a2)),(2,ov (S (rI .i64) a3)),(7,ov (PTR gb43 0)),(9,ov (PTR gb56 0)),(10,ov (S (rI .i64) x25)),(137,ov (S rB true))])
               (X':=fun γ=>[cvar gb56 (zq10 go57 v52 gc58) ((),(t1,(x53,(x54,(x55,()))))),cown go57 Zab v52 0 gc58,zq16 gb47 go48 v46 gc49 t1 ql22 qj23 qe24,cown go48 Zab v46 0 gc49,cvar gb43 (zq1 go44) ((),(t1,(x40,(x41,(x42,()))))),cqm go44 (S rS) Zaa qm45 (some (v39)),cvar gb34 (zq1 go35) ((),(t1,(qg18,(qh19,(qd20,()))))),cqm go35 (S rS) Zaa qm36 (some (v33))])
               (fun γ ρ hb hd=>(.cons (hb 1 _ rfl) (.cons (hb 2 _ rfl) (.cons (hb 7 _ rfl) (.cons (hb 9 _ rfl) (.cons (hb 10 _ rfl) (.cons (hdq hd 53 137 rfl) .nil))))))) (fun _=>rfl) (fun γ=>?_)
           refine JQ.at ⟨[(1,ov (S (rL Zaj) a2)),(2,ov (S (rI .i64) a3)),(7,ov (PTR gb43 0)),(9,ov (PTR gb56 0)),(10,ov (S (rI .i64) x25)),(137,ov (S rB true))],[cvar gb56 (zq10 go57 v52 gc58) ((),(t1,(x53,(x54,(x55,()))))),cown go57 Zab v52 0 gc58,zq16 gb47 go48 v46 gc49 t1 ql22 qj23 qe24,cown go48 Zab v46 0 gc49,cvar gb43 (zq1 go44) ((),(t1,(x40,(x41,(x42,()))))),cqm go44 (S rS) Zaa qm45 (some (v39)),cvar gb34 (zq1 go35) ((),(t1,(qg18,(qh19,(qd20,()))))),cqm go35 (S rS) Zaa qm36 (some (v33))],[]⟩ ?_
           try obtain rfl:=so hx14
           exact JQ.join () (Imp.norm (js:=[4,4,0,0]) rfl (.cons rfl (.cons rfl (.cons rfl (.cons rfl (.cons rfl (.cons rfl .nil)))))))
         refine bI hx14 fun v67 hv67 hx14=>lI hx14 fun v68 hv68 hx14=>bI hx14 fun v69 hv69 hx14=>bI hx14 fun v70 hv70 hx14=>bI hx14 fun v71 hv71 hx14=>bI hx14 fun v72 hv72 hx14=>lI hx14 fun v73 hv73 hx14=>?_
         obtain ⟨v74,hv74,hx14⟩:=Za2 hx14
         refine JC.anyF (base:=[(1,ov (S (rL Zaj) a2)),(2,ov (S (rI .i64) a3)),(7,ov (PTR gb43 0)),(9,ov (PTR gb56 0)),(10,ov (S (rI .i64) x25)),(11,ov (S (rI .i64) v51)),(12,ov (S (rI .i64) v38)),(13,ov (PTR gb34 0)),(14,ov (PTR gb47 0))])
             (fs:=fun γ=>[⟨some 84,ov (PTR gb43 0)⟩,⟨some 85,ov (S rB false)⟩,⟨some 86,ov (S rB false)⟩,⟨some 87,ov (S (rI .i64) v38)⟩,⟨some 88,ov (S (rI .i64) v51)⟩,⟨some 89,ov (S rB v59)⟩,⟨some 90,ov (S rB v59)⟩,⟨some 91,ov (S rB v59)⟩,⟨some 92,bif (!v59) then ov (PTR gb43 0) else .one .und⟩,⟨some 93,bif (!v59) then ov (PTR gb56 0) else .one .und⟩,⟨some 94,bif (!v59) then ov (S (rL Zaj) a2) else .one .und⟩,⟨some 95,bif (!v59) then ov (S (rI .i64) x25) else .one .und⟩,⟨some 96,bif (!v59) then ov (PT Zaj v60) else .one .und⟩,⟨some 97,bif (!v59) then ov (PT rS v60.Name) else .one .und⟩,⟨some 98,bif (!v59) then ov (S rS v60.Name) else .one .und⟩,⟨some 99,bif (!v59) then ov (S (rI .i64) a3) else .one .und⟩,⟨some 100,ov (S rB v61)⟩,⟨some 101,ov (S rB v62)⟩,⟨some 102,ov (S rB v62)⟩,⟨some 103,ov (S rB v62)⟩,⟨some 104,bif (!v62) then ov (PTR gb43 0) else .one .und⟩,⟨some 105,bif (!v62) then ov (PTR gb34 0) else .one .und⟩,⟨some 106,ov (S rB v63)⟩,⟨some 107,ov (PTR gb56 0)⟩,⟨some 108,ov (PTR gb47 0)⟩,⟨some 109,ov (S rB v64)⟩,⟨some 110,ov (S rB v65)⟩,⟨some 111,ov (S rB v65)⟩,⟨some 112,ov (S rB v65)⟩,⟨some 113,bif (!v65) then ov (PTR gb34 0) else .one .und⟩,⟨some 114,bif (!v65) then ov (PTR gb47 0) else .one .und⟩,⟨some 115,bif (!v65) then ov (S (rL Zaj) a2) else .one .und⟩,⟨some 116,bif (!v65) then ov (S (rI .i64) x25) else .one .und⟩,⟨some 117,bif (!v65) then ov (PT Zaj v66) else .one .und⟩,⟨some 118,bif (!v65) then ov (PT rS v66.Name) else .one .und⟩,⟨some 119,bif (!v65) then ov (S rS v66.Name) else .one .und⟩,⟨some 120,ov (S rB v67)⟩,⟨some 121,ov (S rB v68)⟩,⟨some 122,ov (S rB v68)⟩,⟨some 123,ov (S rB v68)⟩,⟨some 124,bif (!v68) then ov (S (rL Zaj) a2) else .one .und⟩,⟨some 125,bif (!v68) then ov (S (rI .i64) x25) else .one .und⟩,⟨some 126,bif (!v68) then ov (PT Zaj v69) else .one .und⟩,⟨some 127,bif (!v68) then ov (PT rS v69.Name) else .one .und⟩,⟨some 128,bif (!v68) then ov (S rS v69.Name) else .one .und⟩,⟨some 129,bif (!v68) then ov (S rB v70) else .one .und⟩,⟨some 130,bif (!v68) then ov (S (rL Zaj) a2) else .one .und⟩,⟨some 131,bif (!v68) then ov (S (rI .i64) x25) else .one .und⟩,⟨some 132,bif (!v68) then ov (PT Zaj v71) else .one .und⟩,⟨some 133,bif (!v68) then ov (PT rS v71.Name) else .one .und⟩,⟨some 134,bif (!v68) then ov (S rS v71.Name) else .one .und⟩,⟨some 135,bif (!v68) then ov (S rB v72) else .one .und⟩,⟨some 136,bif (!v68) then ov (S rB v73) else .one .und⟩,⟨some 137,ov (S rB v74)⟩])
             (rs:=fun γ=>[⟨cvar gb56 (zq10 go57 v52 gc58) ((),(t1,(x53,(x54,(x55,()))))),none,none,[16,25]⟩,⟨cown go57 Zab v52 0 gc58,none,none,[16,25]⟩,⟨zq16 gb47 go48 v46 gc49 t1 ql22 qj23 qe24,none,none,[25,36]⟩,⟨cown go48 Zab v46 0 gc49,none,none,[25,36]⟩,⟨cvar gb43 (zq1 go44) ((),(t1,(x40,(x41,(x42,()))))),none,none,[16,22]⟩,⟨cqm go44 (S rS) Zaa qm45 (some (v39)),none,none,[16,22]⟩,⟨cvar gb34 (zq1 go35) ((),(t1,(qg18,(qh19,(qd20,()))))),none,none,[22,36]⟩,⟨cqm go35 (S rS) Zaa qm36 (some (v33)),none,none,[22,36]⟩])
             (afts:=nn 54) (js:=[0,0,0,0,0,0,0,0]) mixed (.cons rfl (.cons rfl (.cons rfl (.cons rfl (.cons rfl (.cons rfl (.cons rfl (.cons rfl (.cons rfl .nil))))))))) (fun _=>rfl)
             (by
      refine db 1 7<|dS 2 (fun γ ρ B hb hd=>Zd2 (neg:=false) lb tu25 (tl hd 0 84) (HasO.const (p:=PTO none) fun _=>rfl))<|dm 3 1 85<|dY 4 (fun γ ρ B hb hd=>⟨.yes rfl (ltB rfl) (hl hd 2 86 rfl) rfl,lkB (Zai lb (.tmp (hb 12 _ rfl)))⟩)<|dY 5 (fun γ ρ B hb hd=>⟨.yes rfl (ltB rfl) (hl hd 2 86 rfl) rfl,lkB (Zai lb (.tmp (hb 11 _ rfl)))⟩) ?_
      refine dY 6 (fun γ ρ B hb hd=>⟨.yes rfl (ltB rfl) (hl hd 2 86 rfl) rfl,lkB (Zan lb (tl hd 3 87) (tl hd 4 88) (cs hv59))⟩)<|dS 7 (fun γ ρ B hb hd=>Zar lb (tl hd 2 86) rfl (tl hd 5 89))<|dm 8 6 90 ?_
      refine dF 9 7 91 v59 (fun γ=>ov (PTR gb43 0)) (fun γ ρ B hb hd hq15=>Zai lb (.tmp (hb 7 _ rfl))) ?_
      refine dF 10 7 91 v59 (fun γ=>ov (PTR gb56 0)) (fun γ ρ B hb hd hq16=>Zai lb (.tmp (hb 9 _ rfl))) ?_
      refine dF 11 7 91 v59 (fun γ=>ov (S (rL Zaj) a2)) (fun γ ρ B hb hd hq17=>Zai lb (.tmp (hb 1 _ rfl))) ?_
      refine dF 12 7 91 v59 (fun γ=>ov (S (rI .i64) x25)) (fun γ ρ B hb hd hq18=>Zai lb (.tmp (hb 10 _ rfl))) ?_
      refine dF 13 7 91 v59 (fun γ=>ov (PT Zaj v60)) (fun γ ρ B hb hd hq19=>ZaZ lb tu22 tz36 (HasO.cnd (tl hd 10 94) (notT (notF hq19))) (HasO.cnd (tl hd 11 95) (notT (notF hq19))) (ifT hv60 hq19)) ?_
      refine dF 14 7 91 v59 (fun γ=>ov (PT rS v60.Name)) (fun γ ρ B hb hd hq20=>Zbw lb Zdj (HasO.cnd (tl hd 12 96) (notT (notF hq20))) (Zav v60)) ?_
      refine dF 15 7 91 v59 (fun γ=>ov (S rS v60.Name)) (fun γ ρ B hb hd hq21=>ZbE lb tS9 rfl (HasO.cnd (tl hd 13 97) (notT (notF hq21))) rfl) ?_
      refine dF 16 7 91 v59 (fun γ=>ov (S (rI .i64) a3)) (fun γ ρ B hb hd hq22=>Zai lb (.tmp (hb 2 _ rfl))) ?_
      refine dY 17 (fun γ ρ B hb hd=>⟨.yes rfl (ltB rfl) (hl hd 7 91 rfl) hc24,Zag.lk ⟨ρ,(cvar gb56 (zq10 go57 v52 gc58) ((),(t1,(x53,(x54,(x55,()))))))::(cown go57 Zab v52 0 gc58)::(cvar gb43 (zq1 go44) ((),(t1,(x40,(x41,(x42,()))))))::(cqm go44 (S rS) Zaa qm45 (some (v39)))::B,_⟩ ((Zak (js:=[2,2,0,0]) ld cl17 (Zbu k v60.Name a3 t1 x40 x41 x42 (v39) t1 x53 x54 x55 v52 gb43 go44 qm45 gb56 go57 gc58 v61 hv61) .func (.cons (HasO.cnd (tl hd 8 92) (notT hc24)) (.cons (HasO.cnd (tl hd 9 93) (notT hc24)) (.cons (HasO.cnd (tl hd 14 98) (notT hc24)) (.cons (HasO.cnd (tl hd 15 99) (notT hc24)) .nil)))) rfl).post (fun _=>Imp.pick (js:=[2,2,0,0]) rfl rfl))⟩)<|dY 18 (fun γ ρ B hb hd=>⟨.yes rfl (ltB rfl) (hl hd 7 91 rfl) hc24,lkB (Zce lb (tl hd 16 100) hv62)⟩)<|dS 19 (fun γ ρ B hb hd=>Zar lb (tl hd 7 91) hc24 (tl hd 17 101))<|dm 20 18 102 ?_
      refine dF 21 19 103 v62 (fun γ=>ov (PTR gb43 0)) (fun γ ρ B hb hd hq25=>Zai lb (.tmp (hb 7 _ rfl))) ?_
      refine dF 22 19 103 v62 (fun γ=>ov (PTR gb34 0)) (fun γ ρ B hb hd hq26=>Zai lb (.tmp (hb 13 _ rfl))) ?_
      refine dY 23 (fun γ ρ B hb hd=>⟨.yes rfl (ltB rfl) (hl hd 19 103 rfl) hc28,Zag.lk ⟨ρ,(cvar gb43 (zq1 go44) ((),(t1,(x40,(x41,(x42,()))))))::(cqm go44 (S rS) Zaa qm45 (some (v39)))::(cvar gb34 (zq1 go35) ((),(t1,(qg18,(qh19,(qd20,()))))))::(cqm go35 (S rS) Zaa qm36 (some (v33)))::B,_⟩ ((Zak (js:=[0,0,0,0]) ld cl21 (Zb5 k t1 x40 x41 x42 (v39) t1 qg18 qh19 qd20 (v33) gb43 go44 qm45 gb34 go35 qm36 v63 hv63) .func (.cons (HasO.cnd (tl hd 20 104) (notT hc28)) (.cons (HasO.cnd (tl hd 21 105) (notT hc28)) .nil)) rfl).post (fun _=>Imp.pick (js:=[0,0,0,0]) rfl rfl))⟩)<|dY 24 (fun γ ρ B hb hd=>⟨.yes rfl (ltB rfl) (hl hd 19 103 rfl) hc28,lkB (Zai lb (.tmp (hb 9 _ rfl)))⟩)<|dY 25 (fun γ ρ B hb hd=>⟨.yes rfl (ltB rfl) (hl hd 19 103 rfl) hc28,lkB (Zai lb (.tmp (hb 14 _ rfl)))⟩) ?_
      refine dY 26 (fun γ ρ B hb hd=>⟨.yes rfl (ltB rfl) (hl hd 19 103 rfl) hc28,Zag.lk ⟨ρ,(cvar gb56 (zq10 go57 v52 gc58) ((),(t1,(x53,(x54,(x55,()))))))::(cown go57 Zab v52 0 gc58)::(zq16 gb47 go48 v46 gc49 t1 ql22 qj23 qe24)::(cown go48 Zab v46 0 gc49)::B,_⟩ ((Zak (js:=[0,0,0,0]) ld cl22 (Zb9 k t1 x53 x54 x55 v52 t1 ql22 qj23 qe24 v46 gb56 go57 gc58 gb47 go48 gc49 v64 hv64) .func (.cons (tl hd 23 107) (.cons (tl hd 24 108) .nil)) rfl).post (fun _=>Imp.pick (js:=[0,0,0,0]) rfl rfl))⟩)<|dY 27 (fun γ ρ B hb hd=>⟨.yes rfl (ltB rfl) (hl hd 19 103 rfl) hc28,lkB (Zjf lb tu4 (tl hd 22 106) (tl hd 25 109) hv65)⟩)<|dS 28 (fun γ ρ B hb hd=>Zar lb (tl hd 19 103) hc28 (tl hd 26 110))<|dm 29 27 111 ?_
      refine dF 30 28 112 v65 (fun γ=>ov (PTR gb34 0)) (fun γ ρ B hb hd hq29=>Zai lb (.tmp (hb 13 _ rfl))) ?_
      refine dF 31 28 112 v65 (fun γ=>ov (PTR gb47 0)) (fun γ ρ B hb hd hq30=>Zai lb (.tmp (hb 14 _ rfl))) ?_
      refine dF 32 28 112 v65 (fun γ=>ov (S (rL Zaj) a2)) (fun γ ρ B hb hd hq31=>Zai lb (.tmp (hb 1 _ rfl))) ?_
      refine dF 33 28 112 v65 (fun γ=>ov (S (rI .i64) x25)) (fun γ ρ B hb hd hq32=>Zai lb (.tmp (hb 10 _ rfl))) ?_
      refine dF 34 28 112 v65 (fun γ=>ov (PT Zaj v66)) (fun γ ρ B hb hd hq33=>ZaZ lb tu22 tz36 (HasO.cnd (tl hd 31 115) (notT (notF hq33))) (HasO.cnd (tl hd 32 116) (notT (notF hq33))) (ifT hv66 hq33)) ?_
      refine dF 35 28 112 v65 (fun γ=>ov (PT rS v66.Name)) (fun γ ρ B hb hd hq34=>Zbw lb Zdj (HasO.cnd (tl hd 33 117) (notT (notF hq34))) (Zav v66)) ?_
      refine dF 36 28 112 v65 (fun γ=>ov (S rS v66.Name)) (fun γ ρ B hb hd hq35=>ZbE lb tS9 rfl (HasO.cnd (tl hd 34 118) (notT (notF hq35))) rfl) ?_
      refine dY 37 (fun γ ρ B hb hd=>⟨.yes rfl (ltB rfl) (hl hd 28 112 rfl) hc37,Zag.lk ⟨ρ,(zq16 gb47 go48 v46 gc49 t1 ql22 qj23 qe24)::(cown go48 Zab v46 0 gc49)::(cvar gb34 (zq1 go35) ((),(t1,(qg18,(qh19,(qd20,()))))))::(cqm go35 (S rS) Zaa qm36 (some (v33)))::B,_⟩ ((Zak (js:=[2,2,0,0]) ld cl17 (Zbu k v66.Name (0 : Int) t1 qg18 qh19 qd20 (v33) t1 ql22 qj23 qe24 v46 gb34 go35 qm36 gb47 go48 gc49 v67 hv67) .func (.cons (HasO.cnd (tl hd 29 113) (notT hc37)) (.cons (HasO.cnd (tl hd 30 114) (notT hc37)) (.cons (HasO.cnd (tl hd 35 119) (notT hc37)) (.cons .cI .nil)))) rfl).post (fun _=>Imp.pick (js:=[2,2,0,0]) rfl rfl))⟩)<|dY 38 (fun γ ρ B hb hd=>⟨.yes rfl (ltB rfl) (hl hd 28 112 rfl) hc37,lkB (Zce lb (tl hd 36 120) hv68)⟩)<|dS 39 (fun γ ρ B hb hd=>Zar lb (tl hd 28 112) hc37 (tl hd 37 121))<|dm 40 38 122 ?_
      refine dF 41 39 123 v68 (fun γ=>ov (S (rL Zaj) a2)) (fun γ ρ B hb hd hq38=>Zai lb (.tmp (hb 1 _ rfl))) ?_
      refine dF 42 39 123 v68 (fun γ=>ov (S (rI .i64) x25)) (fun γ ρ B hb hd hq39=>Zai lb (.tmp (hb 10 _ rfl))) ?_
      refine dF 43 39 123 v68 (fun γ=>ov (PT Zaj v69)) (fun γ ρ B hb hd hq40=>ZaZ lb tu22 tz36 (HasO.cnd (tl hd 40 124) (notT (notF hq40))) (HasO.cnd (tl hd 41 125) (notT (notF hq40))) (ifT hv69 hq40)) ?_
      refine dF 44 39 123 v68 (fun γ=>ov (PT rS v69.Name)) (fun γ ρ B hb hd hq41=>Zbw lb Zdj (HasO.cnd (tl hd 42 126) (notT (notF hq41))) (Zav v69)) ?_
      refine dF 45 39 123 v68 (fun γ=>ov (S rS v69.Name)) (fun γ ρ B hb hd hq42=>ZbE lb tS9 rfl (HasO.cnd (tl hd 43 127) (notT (notF hq42))) rfl) ?_
      refine dF 46 39 123 v68 (fun γ=>ov (S rB v70)) (fun γ ρ B hb hd hq43=>(Zak (js:=[]) ld cl16 (ZcA k v69.Name v70 (ifT hv70 hq43)) .func (.cons (HasO.cnd (tl hd 44 128) (notT (notF hq43))) .nil) rfl).post (fun _=>Imp.refl)) ?_
      refine dF 47 39 123 v68 (fun γ=>ov (S (rL Zaj) a2)) (fun γ ρ B hb hd hq44=>Zai lb (.tmp (hb 1 _ rfl))) ?_
      refine dF 48 39 123 v68 (fun γ=>ov (S (rI .i64) x25)) (fun γ ρ B hb hd hq45=>Zai lb (.tmp (hb 10 _ rfl))) ?_
      refine dF 49 39 123 v68 (fun γ=>ov (PT Zaj v71)) (fun γ ρ B hb hd hq46=>ZaZ lb tu22 tz36 (HasO.cnd (tl hd 46 130) (notT (notF hq46))) (HasO.cnd (tl hd 47 131) (notT (notF hq46))) (ifT hv71 hq46)) ?_
      refine dF 50 39 123 v68 (fun γ=>ov (PT rS v71.Name)) (fun γ ρ B hb hd hq47=>Zbw lb Zdj (HasO.cnd (tl hd 48 132) (notT (notF hq47))) (Zav v71)) ?_
      refine dF 51 39 123 v68 (fun γ=>ov (S rS v71.Name)) (fun γ ρ B hb hd hq48=>ZbE lb tS9 rfl (HasO.cnd (tl hd 49 133) (notT (notF hq48))) rfl) ?_
      refine dF 52 39 123 v68 (fun γ=>ov (S rB v72)) (fun γ ρ B hb hd hq49=>(Zak (js:=[]) ld cl23 (Zco k v71.Name v72 (ifT hv72 hq49)) .func (.cons (HasO.cnd (tl hd 50 134) (notT (notF hq49))) .nil) rfl).post (fun _=>Imp.refl)) ?_
      refine dF 53 39 123 v68 (fun γ=>ov (S rB v73)) (fun γ ρ B hb hd hq50=>Zjf lb tu4 (HasO.cnd (tl hd 45 129) (notT (notF hq50))) (HasO.cnd (tl hd 51 135) (notT (notF hq50))) hv73) ?_
      refine dS 54 (fun γ ρ B hb hd=>Za8 lb (tl hd 39 123) (fun hb51=>.cB) (fun hb51=>(HasO.cnd (tl hd 52 136) (notT hb51))) hv74) ?_
      exact Zat.nil)
             (by decide +kernel) (fun _=>rfl) (fun _=>rfl) (fun _=>rfl) rfl
             (ρ':=fun γ=>[(1,ov (S (rL Zaj) a2)),(2,ov (S (rI .i64) a3)),(7,ov (PTR gb43 0)),(9,ov (PTR gb56 0)),(10,ov (S (rI .i64) x25)),(137,ov (S rB v74))])
             (X':=fun γ=>[cvar gb56 (zq10 go57 v52 gc58) ((),(t1,(x53,(x54,(x55,()))))),cown go57 Zab v52 0 gc58,zq16 gb47 go48 v46 gc49 t1 ql22 qj23 qe24,cown go48 Zab v46 0 gc49,cvar gb43 (zq1 go44) ((),(t1,(x40,(x41,(x42,()))))),cqm go44 (S rS) Zaa qm45 (some (v39)),cvar gb34 (zq1 go35) ((),(t1,(qg18,(qh19,(qd20,()))))),cqm go35 (S rS) Zaa qm36 (some (v33))])
             (fun γ ρ hb hd=>(.cons (hb 1 _ rfl) (.cons (hb 2 _ rfl) (.cons (hb 7 _ rfl) (.cons (hb 9 _ rfl) (.cons (hb 10 _ rfl) (.cons (hdq hd 53 137 rfl) .nil))))))) (fun _=>rfl) (fun γ=>?_)
         refine JQ.at ⟨[(1,ov (S (rL Zaj) a2)),(2,ov (S (rI .i64) a3)),(7,ov (PTR gb43 0)),(9,ov (PTR gb56 0)),(10,ov (S (rI .i64) x25)),(137,ov (S rB v74))],[cvar gb56 (zq10 go57 v52 gc58) ((),(t1,(x53,(x54,(x55,()))))),cown go57 Zab v52 0 gc58,zq16 gb47 go48 v46 gc49 t1 ql22 qj23 qe24,cown go48 Zab v46 0 gc49,cvar gb43 (zq1 go44) ((),(t1,(x40,(x41,(x42,()))))),cqm go44 (S rS) Zaa qm45 (some (v39)),cvar gb34 (zq1 go35) ((),(t1,(qg18,(qh19,(qd20,()))))),cqm go35 (S rS) Zaa qm36 (some (v33))],[]⟩ ?_
         try obtain rfl:=so hx14
         exact JQ.join () (Imp.norm (js:=[4,4,0,0]) rfl (.cons rfl (.cons rfl (.cons rfl (.cons rfl (.cons rfl (.cons rfl .nil)))))))
       refine JC.condF tR hc13<|JC.exit<|JQ.outX ?_
       try obtain rfl:=so hx
       try obtain rfl:=hr _ rfl
       dsimp only at hq12
       refine JQ.outX<|JQ.here ?_
       try obtain rfl:=so hq12
       exact JQ.joinK () () rfl (Imp.norm (js:=[]) rfl .nil)
     refine JC.region<|jmv rfl rfl<|jc (Zd2 (neg:=false) lb tu25 tR (HasO.const (p:=PTO none) fun _=>rfl))<|jmv rfl rfl<|JL.run (.yes rfl (ltB rfl) rfl rfl) (Zai lb tR)<|JL.sub ⟨[(1,ov (S (rL Zaj) a2)),(2,ov (S (rI .i64) a3)),(7,ov (PTR gb4 0)),(9,ov (PTR gb12 0)),(44,ov (S rB false)),(45,ov (S (rI .i64) (0 : Int)))],[cvar gb4 (zq1 go5) ((),(t1,((-1 : Int),(false,((0 : Int),()))))),cqm go5 (S rS) Zaa (fun _ : (List UInt8)=>0) (some ([] : (List ((List UInt8) × Zaf)))),cvar gb12 zq9 ((),(t1,((-1 : Int),(false,((0 : Int),())))))],[]⟩ (.cons rfl (.cons rfl (.cons rfl (.cons rfl (.cons rfl (.cons rfl .nil)))))) rfl rfl<|bI hx9 fun _ hv_u_13 hx9=>JL.runX (.yes rfl (ltB rfl) rfl rfl) (Zak (js:=[]) ld cl10 (ZaW k (0 : Int) () hv_u_13) .func (.cons tR .nil) rfl) fun _=>JL.run (.yes rfl (ltB rfl) rfl rfl) (Zan lb tR .cI (cs (by decide : ((0 : Int) != (0 : Int)) = false)))<|jc (Zar lb tR rfl tR)<|jmv rfl rfl<|JL.run (.yes rfl (ltB rfl) rfl rfl) (Zai lb tR)<|JL.run (.yes rfl (ltB rfl) rfl rfl) (Zai lb tR) ?_
     refine JL.run (.yes rfl (ltB rfl) rfl rfl) (Zai lb tR)<|bI hx9 fun v14 hv14 hx9=>JL.runX (.yes rfl (ltB rfl) rfl rfl) (Zak (js:=[0,0,0]) ld cl17 (Zc7 k ([97] : List UInt8) a3 t1 (-1 : Int) false (0 : Int) ([] : (List ((List UInt8) × Zaf))) t1 (-1 : Int) false (0 : Int) gb4 go5 (fun _ : (List UInt8)=>0) gb12 v14 hv14) .func (.cons tR (.cons tR (.cons (HasO.cS (l:=[97]) rfl) (.cons tR .nil)))) rfl) fun _=>lI hx9 fun v15 hv15 hx9=>JL.run (.yes rfl (ltB rfl) rfl rfl) (Zce lb tR hv15)<|jc (Zar lb tR rfl tR)<|JL.nil ?_
     try obtain rfl:=so hx9
     exact JQ.join () (Imp.norm (js:=[0,0,0]) rfl (.cons rfl (.cons rfl (.cons rfl (.cons rfl (.cons rfl .nil))))))
   refine JC.region<|jmv rfl rfl<|lI hx2 fun v6 hv6 hx2=>jc (Zan lb tR .cI (cs hv6))<|JL.sub ⟨[(0,ov (S (rI .i64) t1)),(1,ov (S (rL Zaj) a2)),(2,ov (S (rI .i64) a3)),(7,ov (PTR gb4 0)),(8,ov (S (rI .i64) (0 : Int))),(21,ov (S rB v6))],[cvar gb4 (zq1 go5) ((),(t1,((-1 : Int),(false,((0 : Int),()))))),cqm go5 (S rS) Zaa (fun _ : (List UInt8)=>0) (some ([] : (List ((List UInt8) × Zaf))))],[]⟩ (.cons rfl (.cons rfl (.cons rfl (.cons rfl (.cons rfl (.cons rfl .nil)))))) rfl rfl<|jmv rfl rfl<|jF (ov (S (rI .i64) t1)) rfl rfl rfl rfl (fun hq3=>Zai lb tR)<|lI hx2 fun v7 hv7 hx2=>jF (ov (S rB v7)) rfl rfl rfl rfl (fun hq4=>Zan lb (HasO.cnd tR (notT (notF hq4))) .cI (cs hv7)) ?_
   obtain ⟨v8,hv8,hx2⟩:=Za2 hx2
   refine jc (Za8 lb tR (fun hb5=>.cB) (fun hb5=>(HasO.cnd tR (notT hb5))) hv8)<|JL.nil ?_
   try obtain rfl:=so hx2
   exact JQ.join () (Imp.norm (js:=[0,0]) rfl (.cons rfl (.cons rfl (.cons rfl (.cons rfl (.cons rfl (.cons rfl .nil)))))))
 obtain _:=ts1
 dsimp only at hm
 refine jx (Zak (js:=[]) ld cl9 (Zet k t1 () hs1) .func (.cons tR .nil) rfl) fun _=>jmv rfl rfl<|jc (Zao (i:=0) lb tR rfl)<|jc (Zao (i:=1) lb tR rfl)<|jc (Zac lb tR)<|jc (Zac lb tR)<|jn<|JC.seq<|bI hm fun x81 hx53 hq53=>JC.seqJ (γ:=Unit) (stj:=fun _=>⟨[(0,ov (S (rI .i64) t1)),(1,ov (S (rL Zaj) a2)),(2,ov (S (rI .i64) a3)),(7,ov (PTO none)),(8,ov (S (rI .i64) (2 : Int))),(25,ov (S rB x81))],[],[]⟩) (fun _=>?_) ?_
 · refine jif tR hq53 (fun hc57 hq53=>?_) (fun hc57 hq53=>?_)
   · refine bI hq53 fun x84 hx58 hq58=>JC.seqJ (γ:=Unit) (stj:=fun _=>⟨[(6,ov (S rB x84))],[],[]⟩) (fun _=>?_) ?_
     · refine JC.ret<|JQ.outR ?_
       obtain rfl:=so hq58
       exact jd (.val (S rB x84)) rfl rfl rfl rfl rfl rfl
     refine JC.region<|jmv rfl rfl<|jc (ZgP (neg:=false) (ob:=none) lb tu25 tR (HasO.const (p:=PTO none) fun _=>rfl) rfl)<|jmv rfl rfl<|JL.run (.yes rfl (ltB rfl) rfl rfl) (Zai lb tR)<|bI hx58 fun _ hv_u_82 hx58=>JL.runX (.yes rfl (ltB rfl) rfl rfl) (Zak (js:=[]) ld cl10 (ZaW k (2 : Int) () hv_u_82) .func (.cons tR .nil) rfl) fun _=>JL.run (.yes rfl (ltB rfl) rfl rfl) (Zan lb tR .cI (cs (by decide : ((2 : Int) == (2 : Int)) = true)))<|jc (Zaw lb tR rfl tR)<|jmv rfl rfl<|bI hx58 fun v83 hv83 hx58=>JL.runX (.yes rfl (ltB rfl) rfl rfl) (Zak (js:=[]) ld cl8 (Zc9 k v83 hv83) .func .nil rfl) fun _=>jc (Zaw lb tR rfl tR)<|jc (Zac lb tR)<|JL.nil ?_
     try obtain rfl:=so hx58
     exact jo rfl rfl rfl
   refine JC.skip<|JQ.then<|JC.seq<|jr<|jmv rfl rfl<|bI hq53 fun v85 hv85 hq53=>jx (Zak (js:=[]) ld cl7 (ZeV k a2 (150 : Int) v85 hv85) .func (.cons tR (.cons .cI .nil)) rfl) fun _=>jn<|jif tR hq53 (fun hc59 hq53=>?_) (fun hc59 hq53=>?_)
   · refine jr<|bI hq53 fun v86 hv86 hq53=>jx (Zak (js:=[]) ld cl8 (Zc9 k v86 hv86) .func .nil rfl) fun _=>jc (Zac lb tR)<|jn<|JC.ret<|JQ.outR ?_
     obtain rfl:=so hq53
     exact jd (.val (S rB v86)) rfl rfl rfl rfl rfl rfl
   refine JC.skip<|JQ.then<|jr<|jmv rfl rfl<|jc (ZdI lb tZ48 zr48 tp48 (.S (off:=1) rfl tR rfl ((UpdR.snd (UpdR.fst (UpdR.self (by rfl)))).at (by rfl)) (.S (off:=2) rfl .cI rfl ((UpdR.snd (UpdR.snd (UpdR.fst (UpdR.self (by rfl))))).at (by rfl)) .nil)) rfl)<|jx (Zd4 lb tR) fun gb87=>jc (Zac lb tR)<|jn<|JC.seq<|bI hq53 fun _ hx60 hq60=>JC.seqJ (γ:=Unit) (stj:=fun _=>⟨[(1,ov (S (rL Zaj) a2)),(2,ov (S (rI .i64) a3)),(7,ov (PTO none)),(9,ov (PTR gb87 0)),(55,ov (S rB true))],[cvar gb87 zq9 ((),(t1,((-1 : Int),(false,((0 : Int),())))))],[]⟩) (fun _=>?_) ?_
   · refine JC.condT tR rfl<|jr<|jc (Zac lb .cB)<|jn<|JC.ret<|JQ.outR ?_
     obtain rfl:=so hq60
     exact jd (.val (S rB false)) rfl rfl rfl rfl rfl rfl
   exact JC.region<|jmv rfl rfl<|jc (ZgP (neg:=false) (ob:=none) lb tu25 tR (HasO.const (p:=PTO none) fun _=>rfl) rfl)<|jmv rfl rfl<|jk rfl rfl<|jk rfl rfl<|jk rfl rfl<|jc (Zaw lb tR rfl .cB)<|JL.sub ⟨[(1,ov (S (rL Zaj) a2)),(2,ov (S (rI .i64) a3)),(7,ov (PTO none)),(9,ov (PTR gb87 0)),(48,ov (S rB true))],[cvar gb87 zq9 ((),(t1,((-1 : Int),(false,((0 : Int),())))))],[]⟩ (.cons rfl (.cons rfl (.cons rfl (.cons rfl (.cons rfl .nil))))) rfl rfl<|jmv rfl rfl<|jk rfl rfl<|jk rfl rfl<|jk rfl rfl<|jk rfl rfl<|jk rfl rfl<|jc (Zaw lb tR rfl .cB)<|JL.nil<|JQ.join () (Imp.norm (js:=[0]) rfl (.cons rfl (.cons rfl (.cons rfl (.cons rfl (.cons rfl .nil))))))
 refine JC.region<|jmv rfl rfl<|lI hx53 fun v78 hv78 hx53=>jc (Zan lb tR .cI (cs hv78))<|JL.sub ⟨[(0,ov (S (rI .i64) t1)),(1,ov (S (rL Zaj) a2)),(2,ov (S (rI .i64) a3)),(7,ov (PTO none)),(8,ov (S (rI .i64) (2 : Int))),(21,ov (S rB v78))],[],[]⟩ (.cons rfl (.cons rfl (.cons rfl (.cons rfl (.cons rfl (.cons rfl .nil)))))) rfl rfl<|jmv rfl rfl<|jF (ov (S (rI .i64) t1)) rfl rfl rfl rfl (fun hq54=>Zai lb tR)<|lI hx53 fun v79 hv79 hx53=>jF (ov (S rB v79)) rfl rfl rfl rfl (fun hq55=>Zan lb (HasO.cnd tR (notT (notF hq55))) .cI (cs hv79)) ?_
 obtain ⟨v80,hv80,hx53⟩:=Za2 hx53
 refine jc (Za8 lb tR (fun hb56=>.cB) (fun hb56=>(HasO.cnd tR (notT hb56))) hv80)<|JL.nil ?_
 try obtain rfl:=so hx53
 exact JQ.join () (Imp.norm (js:=[]) rfl (.cons rfl (.cons rfl (.cons rfl (.cons rfl (.cons rfl (.cons rfl .nil)))))))

end Go.Proofs.Ytipchpbcjkhnaaa
