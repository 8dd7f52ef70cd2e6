/- Walks. -/
import Derived.Test.YtipchpbcjkhnaaaT
namespace Go.Proofs.Ytipchpbcjkhnaaa
open Go Fw
set_option linter.unusedVariables false
set_option maxRecDepth 100000
set_option maxHeartbeats 4000000

theorem Zeu (k : Nat) (qb1 : Int) (r : Unit) (hm : Zdx k qb1 = some (.inl r)) : Sim Try.prog 9 [S (rI .i64) qb1] [] (γ:=Nat × Option Nat) (fun q=>[cvar q.1 (rP (rW (MPV q.2)) (rP (rI .i64) (rP (rI .i64) (rP rB (rP (rI .i64) r0))))) ((),(qb1,((-1 : Int),(false,((0 : Int),()))))),cqm q.2 (S rS) Zaa (fun _ : (List UInt8)=>0) (some ([] : (List ((List UInt8) × Zaf))))]) (fun q=>.tup [.val (PTR q.1 0),.val (S (rI .i64) (0 : Int))]):=by
 unfold Zdx at hm
 refine Sim.of Try.func9 rfl rfl (lE rfl) (fun e0 w0=>?_)
 refine JC.at ⟨[(0,ov (S (rI .i64) qb1))],[],[]⟩<|jr<|jc (Zac lb (HasO.const (p:=PTO none) fun _=>rfl))<|jc (Zac lb .cI)<|jn<|JC.seq<|bI hm fun x5 hx1 hq1=>JC.seqJ (γ:=Unit) (stj:=fun _=>⟨[(0,ov (S (rI .i64) qb1)),(9,ov (S rB x5))],[],[]⟩) (fun _=>?_) ?_
 · refine jif tR hq1 (fun hc5 hq1=>?_) (fun hc5 hq1=>?_)
   · refine jr<|jc (Zac lb (HasO.const (p:=PTO none) fun _=>rfl))<|jc (Zac lb .cI)<|jn<|JC.ret<|JQ.outR ?_
     cases hq1
   exact JC.skip<|JQ.then<|jr<|jx (Ze1 lb (S rS) Zaa (fun _ : (List UInt8)=>0)) fun gb6=>jmv rfl rfl<|jc (ZdI lb tZ64 zr64 tp64 (.S (off:=0) (s:=rW (MPV (some gb6))) (u:=()) rfl (HasO.wk (q:=S (rW (MPV (some gb6))) ()) tR wkV) rfl ((UpdR.fst (UpdR.self (by rfl))).at (by rfl)) (.S (off:=1) rfl tR rfl ((UpdR.snd (UpdR.fst (UpdR.self (by rfl)))).at (by rfl)) (.S (off:=2) rfl .cI rfl ((UpdR.snd (UpdR.snd (UpdR.fst (UpdR.self (by rfl))))).at (by rfl)) .nil))) rfl)<|jx (Zd4 lb tR) fun gb7=>jc (Zac lb tR)<|jc (Zac lb .cI)<|jn<|JC.ret<|JQ.done (js:=[1,0]) (ss:=[.val (PTR gb7 0),.val (S (rI .i64) (0 : Int))]) (gb7,(some gb6)) (.inl rfl) (.nil rfl) rfl (.cons (.tmp rfl) (.cons (.tmp rfl) .nil)) rfl rfl rfl
 refine JC.region<|jmv rfl rfl<|lI hx1 fun v2 hv2 hx1=>jc (Zan lb tR .cI (cs hv2))<|jmv rfl rfl<|jF (ov (S (rI .i64) qb1)) rfl rfl rfl rfl (fun hq_2=>Zai lb tR)<|lI hx1 fun v3 hv3 hx1=>jF (ov (S rB v3)) rfl rfl rfl rfl (fun hq_3=>Zan lb (HasO.cnd tR (notT (notF hq_3))) .cI (cs hv3))<|lI hx1 fun v4 hv4 hx1=>jc (Za8 lb tR (fun hb4=>.cB) (fun hb4=>(HasO.cnd tR (notT hb4))) hv4)<|JL.nil ?_
 try obtain rfl:=so hx1
 exact JQ.join () (Imp.norm (js:=[]) rfl (.cons rfl (.cons rfl .nil)))

theorem Zet (k : Nat) (qb1 : Int) (r : Unit) (hm : Zdx k qb1 = some (.inr r)) : Sim Try.prog 9 [S (rI .i64) qb1] [] (γ:=Unit) (fun q=>[]) (fun q=>.tup [.val (PTO none),.val (S (rI .i64) (2 : Int))]):=by
 unfold Zdx at hm
 refine Sim.of Try.func9 rfl rfl (lE rfl) (fun e0 w0=>?_)
 refine JC.at ⟨[(0,ov (S (rI .i64) qb1))],[],[]⟩<|jr<|jc (Zac lb (HasO.const (p:=PTO none) fun _=>rfl))<|jc (Zac lb .cI)<|jn<|JC.seq<|bI hm fun x5 hx1 hq1=>JC.seqJ (γ:=Unit) (stj:=fun _=>⟨[(0,ov (S (rI .i64) qb1)),(9,ov (S rB x5))],[],[]⟩) (fun _=>?_) ?_
 · refine jif tR hq1 (fun hc5 hq1=>?_) (fun hc5 hq1=>?_)
   · exact jr<|jc (Zac lb (HasO.const (p:=PTO none) fun _=>rfl))<|jc (Zac lb .cI)<|jn<|JC.ret<|JQ.outR<|JQ.done (js:=[]) (ss:=[.val (PTO none),.val (S (rI .i64) (2 : Int))]) () (.inl rfl) (.nil rfl) rfl (.cons (.tmp rfl) (.cons (.tmp rfl) .nil)) rfl rfl rfl
   refine JC.skip<|JQ.then<|jr<|jx (Ze1 lb (S rS) Zaa (fun _ : (List UInt8)=>0)) fun gb6=>jmv rfl rfl<|jc (ZdI lb tZ64 zr64 tp64 (.S (off:=0) (s:=rW (MPV (some gb6))) (u:=()) rfl (HasO.wk (q:=S (rW (MPV (some gb6))) ()) tR wkV) rfl ((UpdR.fst (UpdR.self (by rfl))).at (by rfl)) (.S (off:=1) rfl tR rfl ((UpdR.snd (UpdR.fst (UpdR.self (by rfl)))).at (by rfl)) (.S (off:=2) rfl .cI rfl ((UpdR.snd (UpdR.snd (UpdR.fst (UpdR.self (by rfl))))).at (by rfl)) .nil))) rfl)<|jx (Zd4 lb tR) fun gb7=>jc (Zac lb tR)<|jc (Zac lb .cI)<|jn<|JC.ret ?_
   cases hq1
 refine JC.region<|jmv rfl rfl<|lI hx1 fun v2 hv2 hx1=>jc (Zan lb tR .cI (cs hv2))<|jmv rfl rfl<|jF (ov (S (rI .i64) qb1)) rfl rfl rfl rfl (fun hq_2=>Zai lb tR)<|lI hx1 fun v3 hv3 hx1=>jF (ov (S rB v3)) rfl rfl rfl rfl (fun hq_3=>Zan lb (HasO.cnd tR (notT (notF hq_3))) .cI (cs hv3))<|lI hx1 fun v4 hv4 hx1=>jc (Za8 lb tR (fun hb4=>.cB) (fun hb4=>(HasO.cnd tR (notT hb4))) hv4)<|JL.nil ?_
 try obtain rfl:=so hx1
 exact JQ.join () (Imp.norm (js:=[]) rfl (.cons rfl (.cons rfl .nil)))

theorem ZeV (k : Nat) (l1 : (List Za7)) (qo2 : Int) (r : Bool) (hm : ref05_Much k l1 qo2 = some r) : Sim Try.prog 7 [S (rL Zaj) l1,S (rI .i64) qo2] [] (γ:=Unit) (fun q=>[]) (fun q=>.one (.val (S rB r))):=by
 unfold ref05_Much at hm
 refine Sim.of Try.func7 rfl rfl (lE rfl) (fun e0 w0=>?_)
 refine JC.at ⟨[(0,ov (S (rL Zaj) l1)),(1,ov (S (rI .i64) qo2))],[],[]⟩<|jr<|jc (Zac lb .cB)<|jn<|jr<|jc (Zac lb .cI)<|jn<|bI hm fun tv1 hx1 hq1=>JC.seqK (α:=Unit) (γ:=Unit) (stj:=fun v q=>⟨[(0,ov (S (rL Zaj) l1)),(1,ov (S (rI .i64) qo2))],[],[]⟩) (p:=fun v=>tv1 = (.inl v)) (fun v q hv=>?_) ?_
 · subst hv
   skip
   obtain _:=q
   dsimp only at hq1
   refine JC.at ⟨[(0,ov (S (rL Zaj) l1)),(1,ov (S (rI .i64) qo2))],[],[]⟩<|jr<|jmv rfl rfl<|jc (Zcc lb tu22 tR)<|jmv rfl rfl<|lI hq1 fun v23 hv23 hq1=>jc (Zan lb tR tR (cs hv23))<|jc (Zac lb tR)<|jn<|JC.ret ?_
   obtain rfl:=so hq1
   exact jd (.val (S rB v23)) rfl rfl rfl rfl rfl rfl
 refine jr<|jc (Zac lb .cI)<|jn<|JC.block<|bI hx1 fun tv2 hL2 hq2=>JC.pre ?_ (JC.loop (γ:=Unit) (stf:=fun s q=>⟨[(0,ov (S (rL Zaj) l1)),(1,ov (S (rI .i64) qo2)),(5,ov (S (rI .i64) s.1)),(6,ov (S (rI .i64) s.2))],[],[]⟩) (q:=()) hL2 ?_)
 · exact (Imp.norm (js:=[]) rfl (.cons rfl (.cons rfl (.cons rfl (.cons rfl .nil)))))
 intro s q x hx hr
 obtain ⟨n3,i4⟩:=s
 obtain _:=q
 change ref05_Much.b1 k l1 qo2 n3 i4 = some x at hx
 unfold ref05_Much.b1 at hx
 refine JC.at ⟨[(0,ov (S (rL Zaj) l1)),(1,ov (S (rI .i64) qo2)),(5,ov (S (rI .i64) n3)),(6,ov (S (rI .i64) i4))],[],[]⟩<|JC.seq<|bI hx fun x8 hx3 hq3=>JC.seqJ (γ:=Unit) (stj:=fun _=>⟨[(0,ov (S (rL Zaj) l1)),(1,ov (S (rI .i64) qo2)),(5,ov (S (rI .i64) n3)),(6,ov (S (rI .i64) i4)),(15,ov (S rB x8))],[],[]⟩) (fun _=>?_) ?_
 · refine jif tR hq3 (fun hc8 hq3=>?_) (fun hc8 hq3=>?_)
   · refine JC.skip<|JQ.then<|JC.seq<|JC.block<|JC.seq<|bI hq3 fun v9 hv9 hq3=>lI hq3 fun v10 hv10 hq3=>lI hq3 fun v11 hv11 hq3=>bI hq3 fun v12 hv12 hq3=>lI hq3 fun v13 hv13 hq3=>lI hq3 fun v14 hv14 hq3=>?_
     obtain ⟨v15,hv15,hq3⟩:=Zas hq3
     refine lI hq3 fun v16 hv16 hq3=>lI hq3 fun v17 hv17 hq3=>bI hq3 fun v18 hv18 hq3=>lI hq3 fun v19 hv19 hq3=>?_
     obtain ⟨v20,hv20,hq3⟩:=Za2 hq3
     refine JC.anyE (kl:=[5]) (kk:=33) (base:=[(0,ov (S (rL Zaj) l1)),(1,ov (S (rI .i64) qo2)),(5,ov (S (rI .i64) n3)),(6,ov (S (rI .i64) i4))])
         (fs:=fun γ=>[⟨some 18,ov (S (rI .i64) n3)⟩,⟨some 19,ov (S (rL Zaj) l1)⟩,⟨some 20,ov (S (rI .i64) i4)⟩,⟨some 21,ov (PT Zaj v9)⟩,⟨some 22,ov (PT (rL (rU UInt8)) v9.B)⟩,⟨some 23,ov (S (rL (rU UInt8)) v9.B)⟩,⟨some 24,ov (S (rI .i64) (List.length v9.B : Int))⟩,⟨some 25,ov (S (rI .i64) v10)⟩,⟨some 26,ov (S (rI .i64) v11)⟩,⟨some 27,ov (S (rL Zaj) l1)⟩,⟨some 28,ov (S (rI .i64) i4)⟩,⟨some 29,ov (PT Zaj v12)⟩,⟨some 30,ov (PT rS v12.Name)⟩,⟨some 31,ov (S rS v12.Name)⟩,⟨some 32,ov (S (rI .i64) (List.length v12.Name : Int))⟩,⟨some 33,ov (S (rI .i64) v13)⟩,⟨some 34,ov (S (rI .i64) v14)⟩,⟨some 35,ov (S (rL Zaj) l1)⟩,⟨some 36,ov (S (rI .i64) i4)⟩,⟨some 37,ov (PT Zaj v15)⟩,⟨some 38,ov (PT rS v15.To)⟩,⟨some 39,ov (S rS v15.To)⟩,⟨some 40,ov (S (rI .i64) (List.length v15.To : Int))⟩,⟨some 41,ov (S (rI .i64) v16)⟩,⟨some 42,ov (S (rI .i64) v17)⟩,⟨some 43,ov (S (rL Zaj) l1)⟩,⟨some 44,ov (S (rI .i64) i4)⟩,⟨some 45,ov (PT Zaj v18)⟩,⟨some 46,ov (PT (rL (rI .i64)) v18.Keep)⟩,⟨some 47,ov (S (rL (rI .i64)) v18.Keep)⟩,⟨some 48,ov (S (rI .i64) (List.length v18.Keep : Int))⟩,⟨some 49,ov (S (rI .i64) v19)⟩,⟨some 50,ov (S (rI .i64) v20)⟩,⟨some 5,ov (S (rI .i64) v20)⟩])
         (rs:=fun γ=>[])
         (ds:=[18,19,20,21,22,23,24,25,26,27,28,29,30,31,32,33,34,35,36,37,38,39,40,41,42,43,44,45,46,47,48,49,50,5]) (bs:=[0,1,5,6]) (afts:=nn 34) (js:=[]) mixed (.cons rfl (.cons rfl (.cons rfl (.cons rfl .nil)))) (fun _=>rfl)
         (by
      refine db 1 5<|db 2 0<|db 3 6<|dS 4 (fun γ ρ B hb hd=>ZaZ lb tu22 tz36 (tl hd 1 19) (tl hd 2 20) hv9)<|dS 5 (fun γ ρ B hb hd=>Zbw lb Zig (tl hd 3 21) (ZcL v9)) ?_
      refine dS 6 (fun γ ρ B hb hd=>ZbE lb tS31 rfl (tl hd 4 22) rfl)<|dS 7 (fun γ ρ B hb hd=>Zcc lb tu31 (tl hd 5 23))<|dS 8 (fun γ ρ B hb hd=>ZfC lb (tl hd 6 24) .cI hv10)<|dS 9 (fun γ ρ B hb hd=>Zbx lb (tl hd 0 18) (tl hd 7 25) (cs hv11))<|db 10 0 ?_
      refine db 11 6<|dS 12 (fun γ ρ B hb hd=>ZaZ lb tu22 tz36 (tl hd 9 27) (tl hd 10 28) hv12)<|dS 13 (fun γ ρ B hb hd=>Zbw lb Zdj (tl hd 11 29) (Zav v12))<|dS 14 (fun γ ρ B hb hd=>ZbE lb tS9 rfl (tl hd 12 30) rfl)<|dS 15 (fun γ ρ B hb hd=>Ze3 lb tu9 (tl hd 13 31)) ?_
      refine dS 16 (fun γ ρ B hb hd=>ZfC lb (tl hd 14 32) .cI hv13)<|dS 17 (fun γ ρ B hb hd=>Zbx lb (tl hd 8 26) (tl hd 15 33) (cs hv14))<|db 18 0<|db 19 6<|dS 20 (fun γ ρ B hb hd=>ZaZ lb tu22 tz36 (tl hd 17 35) (tl hd 18 36) hv15) ?_
      refine dS 21 (fun γ ρ B hb hd=>Zbw lb Zi9 (tl hd 19 37) (Zdi v15))<|dS 22 (fun γ ρ B hb hd=>ZbE lb tS9 rfl (tl hd 20 38) rfl)<|dS 23 (fun γ ρ B hb hd=>Ze3 lb tu9 (tl hd 21 39))<|dS 24 (fun γ ρ B hb hd=>ZfC lb (tl hd 22 40) .cI hv16)<|dS 25 (fun γ ρ B hb hd=>Zbx lb (tl hd 16 34) (tl hd 23 41) (cs hv17)) ?_
      refine db 26 0<|db 27 6<|dS 28 (fun γ ρ B hb hd=>ZaZ lb tu22 tz36 (tl hd 25 43) (tl hd 26 44) hv18)<|dS 29 (fun γ ρ B hb hd=>Zbw lb Zjl (tl hd 27 45) (ZcO v18))<|dS 30 (fun γ ρ B hb hd=>ZbE lb tS34 rfl (tl hd 28 46) rfl) ?_
      refine dS 31 (fun γ ρ B hb hd=>Zcc lb tu34 (tl hd 29 47))<|dS 32 (fun γ ρ B hb hd=>ZfC lb (tl hd 30 48) .cI hv19)<|dS 33 (fun γ ρ B hb hd=>Zbx lb (tl hd 24 42) (tl hd 31 49) (cs hv20))<|dS 34 (fun γ ρ B hb hd=>Zac lb (tl hd 32 50)) ?_
      exact Zat.nil)
         (by decide +kernel) (fun _=>rfl) rfl (fun _=>rfl) (fun _=>rfl) rfl (by decide) (by decide) (by decide +kernel) (fun _ d h=>by simp at h; subst h; exact ⟨_,rfl,rfl⟩)
         (ρ':=fun γ=>[(0,ov (S (rL Zaj) l1)),(1,ov (S (rI .i64) qo2)),(5,ov (S (rI .i64) v20)),(6,ov (S (rI .i64) i4))])
         (X':=fun γ=>[])
         (fun γ ρ hb hd=>(.cons (hb 0 _ rfl (by decide)) (.cons (hb 1 _ rfl (by decide)) (.cons (hdq hd 33 5 rfl) (.cons (hb 6 _ rfl (by decide)) .nil))))) (fun _=>rfl) (fun γ=>?_)
     refine JQ.at ⟨[(0,ov (S (rL Zaj) l1)),(1,ov (S (rI .i64) qo2)),(5,ov (S (rI .i64) v20)),(6,ov (S (rI .i64) i4))],[],[]⟩<|JQ.then<|jr<|jmv rfl rfl<|lI hq3 fun v21 hv21 hq3=>jc (Zan lb tR .cI (cs hv21))<|jn<|jif tR hq3 (fun hc9 hq3=>?_) (fun hc9 hq3=>?_)
     · refine jr<|jc (Zac lb .cB)<|jn<|JC.ret<|JQ.outRB<|JQ.outR ?_
       try obtain rfl:=so hq3
       try obtain rfl:=hr _ rfl
       dsimp only at hq2
       refine JQ.outR<|JQ.outRB ?_
       try obtain rfl:=so hq2
       dsimp only at hq1
       refine JQ.outR ?_
       obtain rfl:=so hq1
       exact jd (.val (S rB true)) rfl rfl rfl rfl rfl rfl
     refine JC.skip<|JQ.outNB<|JQ.then<|JC.region<|jmv rfl rfl<|lI hq3 fun v22 hv22 hq3=>jc (Zbx lb tR .cI (cs hv22))<|jc (Zac lb tR)<|JL.nil ?_
     try obtain rfl:=so hq3
     exact JQ.next () rfl (Imp.norm (js:=[]) rfl (.cons rfl (.cons rfl (.cons rfl (.cons rfl .nil)))))
   refine JC.exit<|JQ.outX ?_
   try obtain rfl:=so hq3
   try obtain rfl:=hr _ rfl
   dsimp only at hq2
   refine JQ.outX<|JQ.here ?_
   try obtain rfl:=so hq2
   exact JQ.joinK () () rfl (Imp.norm (js:=[]) rfl (.cons rfl (.cons rfl .nil)))
 refine JC.region<|jmv rfl rfl<|jmv rfl rfl<|jc (Zcc lb tu22 tR)<|lI hx3 fun v5 hv5 hx3=>jc (Zan lb tR tR (cs hv5))<|jmv rfl rfl<|jT (ov (S (rI .i64) i4)) rfl rfl rfl rfl (fun hq_4=>Zai lb tR)<|jT (ov (S (rI .i64) qo2)) rfl rfl rfl rfl (fun hq5=>Zai lb tR)<|lI hx3 fun v6 hv6 hx3=>jT (ov (S rB v6)) rfl rfl rfl rfl (fun hq6=>Zan lb (HasO.cnd tR hq6) (HasO.cnd tR hq6) (cs hv6))<|lI hx3 fun v7 hv7 hx3=>jc (Za8 lb tR (fun hb7=>(HasO.cnd tR hb7)) (fun hb7=>.cB) hv7)<|JL.nil ?_
 try obtain rfl:=so hx3
 exact JQ.join () (Imp.norm (js:=[]) rfl (.cons rfl (.cons rfl (.cons rfl (.cons rfl (.cons rfl .nil))))))

theorem ZaW (k : Nat) (e1 : Int) (r : Unit) (hm : ZaX k e1 = some r) : Sim Try.prog 10 [S (rI .i64) e1] [] (γ:=Unit) (fun q=>[]) (fun q=>.one (.val (S (rI .i64) e1))):=by
 unfold ZaX at hm
 refine Sim.of Try.func10 rfl rfl (lE rfl) (fun e0 w0=>?_)
 exact JC.at ⟨[(0,ov (S (rI .i64) e1))],[],[]⟩<|jr<|jc (Zac lb .cI)<|jn<|jr<|jmv rfl rfl<|jc (Zac lb tR)<|jn<|JC.ret<|jd (.val (S (rI .i64) e1)) rfl rfl rfl rfl rfl rfl

theorem ZaA (k : Nat) (qb1 : Int) (fuse2 : Int) (qh3 : Bool) (qd4 : Int) (x6 : (List ((List UInt8) × Zaf))) (gb5 : Nat) (go7 : Option Nat) (qm8 : ((List UInt8) → Nat)) (r : Unit) (hm : Zax k qb1 fuse2 qh3 qd4 x6 = some r) : Sim Try.prog 34 [PTR gb5 0] [cvar gb5 (zq1 go7) ((),(qb1,(fuse2,(qh3,(qd4,()))))),cqm go7 (S rS) Zaa qm8 (some x6)] (γ:=Unit) (fun q=>[cvar gb5 (zq1 go7) ((),(qb1,(fuse2,(qh3,(qd4,()))))),cqm go7 (S rS) Zaa qm8 (some x6)]) (fun q=>.one (.val (S rB true))):=by
 unfold Zax at hm
 refine Sim.of Try.func34 rfl rfl (lE rfl) (fun e0 w0=>?_)
 refine JC.at ⟨[(0,ov (PTR gb5 0))],[cvar gb5 (zq1 go7) ((),(qb1,(fuse2,(qh3,(qd4,()))))),cqm go7 (S rS) Zaa qm8 (some x6)],[]⟩<|jr<|jc (Zac lb .cB)<|jn<|bI hm fun _ hx1 hq1=>JC.seqJ (γ:=Unit) (stj:=fun _=>⟨[(2,ov (S rB true))],[cvar gb5 (zq1 go7) ((),(qb1,(fuse2,(qh3,(qd4,()))))),cqm go7 (S rS) Zaa qm8 (some x6)],[]⟩) (fun _=>?_) ?_
 · exact JC.ret<|JQ.done (js:=[0,0]) (ss:=[.val (S rB true)]) () (.inl rfl) (.nil rfl) rfl (.cons (.tmp rfl) .nil) rfl rfl rfl
 refine JC.region<|jmv rfl rfl<|jc (Zd2 (neg:=true) lb tu25 tR (HasO.const (p:=PTO none) fun _=>rfl))<|jmv rfl rfl<|JL.run (.yes rfl (ltB rfl) rfl rfl) (Zai lb tR)<|JL.run (.yes rfl (ltB rfl) rfl rfl) (Zae lb tR (fun e v h=>by subst h; rfl))<|JL.run (.yes rfl (ltB rfl) rfl rfl) (Zad (off:=0) lb Zct tR)<|JL.run (.yes rfl (ltB rfl) rfl rfl) (Zal (j:=0) lb tS62 tR rfl (Comp.trans (Comp.self (zq1 go7) ((),(qb1,(fuse2,(qh3,(qd4,())))))) (Comp.at' (Comp.inF (Comp.self (rW (MPV go7)) ()) (lE rfl)) (by rfl : _ = 0)) (lE rfl)))<|JL.run (.yes rfl (ltB rfl) rfl rfl) (ZiN (neg:=true) (j:=1) lb tu62 rfl tR (HasO.const (p:=MPV none) fun _=>rfl) rfl)<|jc (Zaw lb tR rfl tR)<|jc (Zac lb tR)<|JL.nil<|JQ.pre (Imp.var (j:=0) (q:=(zq1 go7)) (y:=((),(qb1,(fuse2,(qh3,(qd4,())))))) rfl Wk.refl) ?_
 exact JQ.join () (Imp.norm (js:=[0,0]) rfl (.cons rfl .nil))

theorem ZcA (k : Nat) (qn1 : (List UInt8)) (r : Bool) (hm : disk_MayName k qn1 = some r) : Sim Try.prog 16 [S rS qn1] [] (γ:=Unit) (fun q=>[]) (fun q=>.one (.val (S rB r))):=by
 unfold disk_MayName at hm
 refine Sim.of Try.func16 rfl rfl (lE rfl) (fun e0 w0=>?_)
 refine JC.at ⟨[(0,ov (S rS qn1))],[],[]⟩<|jr<|jc (Zac lb .cB)<|jn<|bI hm fun tv1 hx1 hq1=>JC.seqK (α:=Unit) (γ:=Unit) (stj:=fun v q=>⟨[(0,ov (S rS qn1))],[],[]⟩) (p:=fun v=>tv1 = (.inl v)) (fun v q hv=>?_) ?_
 · subst hv
   skip
   obtain _:=q
   dsimp only at hq1
   refine JC.at ⟨[(0,ov (S rS qn1))],[],[]⟩<|bI hq1 fun x21 hx23 hq23=>JC.seqJ (γ:=Unit) (stj:=fun _=>⟨[(2,ov (S rB x21))],[],[]⟩) (fun _=>?_) ?_
   · refine JC.ret ?_
     obtain rfl:=so hq23
     exact jd (.val (S rB x21)) rfl rfl rfl rfl rfl rfl
   refine JC.region<|jmv rfl rfl<|jc (Ze3 lb tu9 tR)<|lI hx23 fun v18 hv18 hx23=>jc (Zan lb tR .cI (cs hv18))<|jmv rfl rfl<|jT (ov (S rS qn1)) rfl rfl rfl rfl (fun hq24=>Zai lb tR)<|jT (ov (S (rI .i64) (List.length qn1 : Int))) rfl rfl rfl rfl (fun hq25=>Ze3 lb tu9 (HasO.cnd tR hq25))<|lI hx23 fun v19 hv19 hx23=>jT (ov (S rB v19)) rfl rfl rfl rfl (fun hq26=>Zan lb (HasO.cnd tR hq26) .cI (cs hv19))<|lI hx23 fun v20 hv20 hx23=>jc (Za8 lb tR (fun hb27=>(HasO.cnd tR hb27)) (fun hb27=>.cB) hv20)<|jc (Zac lb tR)<|JL.nil ?_
   try obtain rfl:=so hx23
   exact jo rfl rfl rfl
 refine jr<|jmv rfl rfl<|jc (ZiM lb tu9 tu31 tu5 tR)<|jc (Zcc lb tu31 tR)<|jc (Zai lb .cI)<|jn<|JC.block<|bI hx1 fun tv2 hL2 hq2=>JC.pre ?_ (JC.loop (γ:=Unit) (stf:=fun s q=>⟨[(0,ov (S rS qn1)),(6,ov (S (rL (rU UInt8)) qn1)),(7,ov (S (rI .i64) (List.length qn1 : Int))),(8,ov (S (rI .i64) s))],[],[]⟩) (q:=()) hL2 ?_)
 · exact (Imp.norm (js:=[]) rfl (.cons rfl (.cons rfl (.cons rfl (.cons rfl .nil)))))
 intro x2 q x hx hr
 obtain _:=q
 change disk_MayName.b1 k qn1 x2 = some x at hx
 unfold disk_MayName.b1 at hx
 refine JC.at ⟨[(0,ov (S rS qn1)),(6,ov (S (rL (rU UInt8)) qn1)),(7,ov (S (rI .i64) (List.length qn1 : Int))),(8,ov (S (rI .i64) x2))],[],[]⟩<|jr<|lI hx fun v3 hv3 hx=>jc (Zan lb tR tR (cs hv3))<|jn<|JC.seq<|jif tR hx (fun hc3 hx=>?_) (fun hc3 hx=>?_)
 · refine JC.skip<|JQ.then<|JC.seq<|JC.block<|jr<|bI hx fun v4 hv4 hx=>jc (ZaZ lb tu31 tz5 tR tR hv4)<|jc (ZbE lb tS5 rfl tR rfl)<|jc (Zac lb tR)<|jn<|bI hx fun x16 hx4 hq4=>JC.seqJ (γ:=Unit) (stj:=fun _=>⟨[(0,ov (S rS qn1)),(6,ov (S (rL (rU UInt8)) qn1)),(7,ov (S (rI .i64) (List.length qn1 : Int))),(8,ov (S (rI .i64) x2)),(33,ov (S rB x16))],[],[]⟩) (fun _=>?_) ?_
   · refine jif tR hq4 (fun hc22 hq4=>?_) (fun hc22 hq4=>?_)
     · refine jr<|jc (Zac lb .cB)<|jn<|JC.ret<|JQ.outRB<|JQ.outR ?_
       try obtain rfl:=so hq4
       try obtain rfl:=hr _ rfl
       dsimp only at hq2
       refine JQ.outR<|JQ.outRB ?_
       try obtain rfl:=so hq2
       dsimp only at hq1
       refine JQ.outR ?_
       obtain rfl:=so hq1
       exact jd (.val (S rB false)) rfl rfl rfl rfl rfl rfl
     refine JC.skip<|JQ.outNB<|JQ.then<|JC.region<|lI hq4 fun v17 hv17 hq4=>jc (Zbx lb tR .cI (cs hv17))<|jmv rfl rfl<|JL.nil ?_
     try obtain rfl:=so hq4
     exact JQ.next () rfl (Imp.norm (js:=[]) rfl (.cons rfl (.cons rfl (.cons rfl (.cons rfl .nil)))))
   refine JC.region<|jmv rfl rfl<|lI hx4 fun v5 hv5 hx4=>jc (ZdF lb tR (HasO.cU (x:=(97 : UInt8)) rfl (by decide)) (cs hv5))<|jmv rfl rfl<|jF (ov (S (rU UInt8) v4)) rfl rfl rfl rfl (fun hq5=>Zai lb tR)<|lI hx4 fun v6 hv6 hx4=>jF (ov (S rB v6)) rfl rfl rfl rfl (fun hq6=>ZdF lb (HasO.cnd tR (notT (notF hq6))) (HasO.cU (x:=(122 : UInt8)) rfl (by decide)) (cs hv6))<|lI hx4 fun v7 hv7 hx4=>jc (Za8 lb tR (fun hb7=>.cB) (fun hb7=>(HasO.cnd tR (notT hb7))) hv7)<|jmv rfl rfl<|jT (ov (S (rU UInt8) v4)) rfl rfl rfl rfl (fun hq8=>Zai lb tR) ?_
   refine JL.sub ⟨[(0,ov (S rS qn1)),(4,ov (S (rU UInt8) v4)),(6,ov (S (rL (rU UInt8)) qn1)),(7,ov (S (rI .i64) (List.length qn1 : Int))),(8,ov (S (rI .i64) x2)),(18,ov (S rB v7)),(19,bif v7 then ov (S (rU UInt8) v4) else .one .und)],[],[]⟩ (.cons rfl (.cons rfl (.cons rfl (.cons rfl (.cons rfl (.cons rfl (.cons rfl .nil))))))) rfl rfl<|lI hx4 fun v8 hv8 hx4=>jT (ov (S rB v8)) rfl rfl rfl rfl (fun hq9=>ZdF lb (HasO.cnd tR hq9) (HasO.cU (x:=(48 : UInt8)) rfl (by decide)) (cs hv8))<|jT (ov (S rB v8)) rfl rfl rfl rfl (fun hq10=>Zai lb (HasO.cnd tR hq10))<|JL.cnd (sv:=ov (S (rU UInt8) v4)) (ZaY.cF (q:=v7) (ltB rfl) rfl rfl) rfl (ltB rfl) (fun hq11=>Zai lb tR)<|lI hx4 fun v9 hv9 hx4=>JL.cnd (sv:=ov (S rB v9)) (ZaY.cF (q:=v7) (ltB rfl) rfl rfl) rfl (ltB rfl) (fun hq12=>ZdF lb (HasO.cnd tR (andI (andL hq12) (notT (notF (andR hq12))))) (HasO.cU (x:=(57 : UInt8)) rfl (by decide)) (cs hv9))<|lI hx4 fun v10 hv10 hx4=>jT (ov (S rB v10)) rfl rfl rfl rfl (fun hq13=>Za8 lb (HasO.cnd tR hq13) (fun hb14=>.cB) (fun hb14=>(HasO.cnd tR (andI hq13 (notT hb14)))) hv10) ?_
   refine lI hx4 fun v11 hv11 hx4=>jc (Za8 lb tR (fun hb15=>(HasO.cnd tR hb15)) (fun hb15=>.cB) hv11)<|jmv rfl rfl<|jT (ov (S (rU UInt8) v4)) rfl rfl rfl rfl (fun hq16=>Zai lb tR)<|lI hx4 fun v12 hv12 hx4=>jT (ov (S rB v12)) rfl rfl rfl rfl (fun hq17=>ZdF lb (HasO.cnd tR hq17) (HasO.cU (x:=(46 : UInt8)) rfl (by decide)) (cs hv12))<|lI hx4 fun v13 hv13 hx4=>jc (Za8 lb tR (fun hb18=>(HasO.cnd tR hb18)) (fun hb18=>.cB) hv13)<|jmv rfl rfl<|jT (ov (S (rU UInt8) v4)) rfl rfl rfl rfl (fun hq19=>Zai lb tR)<|JL.sub ⟨[(0,ov (S rS qn1)),(6,ov (S (rL (rU UInt8)) qn1)),(7,ov (S (rI .i64) (List.length qn1 : Int))),(8,ov (S (rI .i64) x2)),(30,ov (S rB v13)),(31,bif v13 then ov (S (rU UInt8) v4) else .one .und)],[],[]⟩ (.cons rfl (.cons rfl (.cons rfl (.cons rfl (.cons rfl (.cons rfl .nil)))))) rfl rfl ?_
   refine lI hx4 fun v14 hv14 hx4=>jT (ov (S rB v14)) rfl rfl rfl rfl (fun hq20=>ZdF lb (HasO.cnd tR hq20) (HasO.cU (x:=(45 : UInt8)) rfl (by decide)) (cs hv14))<|lI hx4 fun v15 hv15 hx4=>jc (Za8 lb tR (fun hb21=>(HasO.cnd tR hb21)) (fun hb21=>.cB) hv15)<|JL.nil ?_
   try obtain rfl:=so hx4
   exact JQ.join () (Imp.norm (js:=[]) rfl (.cons rfl (.cons rfl (.cons rfl (.cons rfl (.cons rfl .nil))))))
 refine JC.exit<|JQ.outX ?_
 try obtain rfl:=so hx
 try obtain rfl:=hr _ rfl
 dsimp only at hq2
 refine JQ.outX<|JQ.here ?_
 try obtain rfl:=so hq2
 exact JQ.joinK () () rfl (Imp.norm (js:=[]) rfl (.cons rfl .nil))

theorem Zaq (k : Nat) (qb1 : Int) (fuse2 : Int) (qh3 : Bool) (qd4 : Int) (x6 : (List ((List UInt8) × Zaf))) (gb5 : Nat) (go7 : Option Nat) (qm8 : ((List UInt8) → Nat)) (r : Int) (hm : disk_Disk_Room_p_smvvvvm k qb1 fuse2 qh3 qd4 x6 = some r) : Sim Try.prog 11 [PTR gb5 0] [cvar gb5 (zq1 go7) ((),(qb1,(fuse2,(qh3,(qd4,()))))),cqm go7 (S rS) Zaa qm8 (some x6)] (γ:=Unit) (fun q=>[cvar gb5 (zq1 go7) ((),(qb1,(fuse2,(qh3,(qd4,()))))),cqm go7 (S rS) Zaa qm8 (some x6)]) (fun q=>.one (.val (S (rI .i64) r))):=by
 unfold disk_Disk_Room_p_smvvvvm at hm
 refine Sim.of Try.func11 rfl rfl (lE rfl) (fun e0 w0=>?_)
 refine JC.at ⟨[(0,ov (PTR gb5 0))],[cvar gb5 (zq1 go7) ((),(qb1,(fuse2,(qh3,(qd4,()))))),cqm go7 (S rS) Zaa qm8 (some x6)],[]⟩<|jr<|jc (Zac lb .cI)<|jn<|JC.seq<|jr<|jmv rfl rfl<|bI hm fun _ hv_u_9 hm=>jx (Zak (js:=[0,0]) ld cl34 (ZaA k qb1 fuse2 qh3 qd4 x6 gb5 go7 qm8 () hv_u_9) .func (.cons tR .nil) rfl) fun _=>jc (Zce lb tR rfl)<|jn<|JC.condF tR rfl<|JC.skip<|JQ.then<|jr<|jmv rfl rfl<|jc (Zae lb tR (fun e v h=>by subst h; rfl))<|jc (Zad (off:=1) lb Zhe tR) ?_
 refine jc (Zam (j:=0) lb tS3 tR rfl (Comp.trans (Comp.self (zq1 go7) ((),(qb1,(fuse2,(qh3,(qd4,())))))) (Comp.at' (Comp.inS (Comp.inF (Comp.self (rI .i64) qb1) (lE rfl))) (by rfl : _ = 1)) (lE rfl)) rfl rfl)<|jc (Zac lb tR)<|jn<|bI hm fun n17 hx1 hq1=>JC.seqJ (γ:=Unit) (stj:=fun _=>⟨[(3,ov (S (rI .i64) n17))],[cvar gb5 (zq1 go7) ((),(qb1,(fuse2,(qh3,(qd4,()))))),cqm go7 (S rS) Zaa qm8 (some x6)],[]⟩) (fun _=>?_) ?_
 · refine jr<|jmv rfl rfl<|jc (Zac lb tR)<|jn<|JC.ret ?_
   obtain rfl:=so hq1
   exact JQ.done (js:=[0,0]) (ss:=[.val (S (rI .i64) n17)]) () (.inl rfl) (.nil rfl) rfl (.cons (.tmp rfl) .nil) rfl rfl rfl
 refine jr<|jmv rfl rfl<|JL.sub ⟨[(3,ov (S (rI .i64) qb1)),(13,ov (PTR gb5 0))],[cvar gb5 (zq1 go7) ((),(qb1,(fuse2,(qh3,(qd4,()))))),cqm go7 (S rS) Zaa qm8 (some x6)],[]⟩ (.cons rfl (.cons rfl .nil)) rfl rfl<|jc (Zae lb tR (fun e v h=>by subst h; rfl))<|jc (Zad (off:=0) lb Zct tR)<|jc (Zal (j:=0) lb tS62 tR rfl (Comp.trans (Comp.self (zq1 go7) ((),(qb1,(fuse2,(qh3,(qd4,())))))) (Comp.at' (Comp.inF (Comp.self (rW (MPV go7)) ()) (lE rfl)) (by rfl : _ = 0)) (lE rfl)))<|jx (ZgX (j:=1) lb tu62 rfl tR) fun gr10=>jn<|JC.block<|JC.pre ?_ (JC.mloop (γ:=Unit) (stf:=fun s rem q=>⟨[(3,ov (S (rI .i64) s)),(17,ov (PTR gr10 0))],[cqmI go7 gr10 (S rS) Zaa qm8 (some x6) rem none,cvar gb5 (zq1 go7) ((),(qb1,(fuse2,(qh3,(qd4,())))))],[]⟩) (q:=()) hx1 ?_)
 · exact (Imp.norm (js:=[1,0]) rfl (.cons rfl (.cons rfl .nil)))
 intro n12 rem11 q hf
 obtain _:=q
 refine JC.at ⟨[(3,ov (S (rI .i64) n12)),(17,ov (PTR gr10 0))],[cqmI go7 gr10 (S rS) Zaa qm8 (some x6) rem11 none,cvar gb5 (zq1 go7) ((),(qb1,(fuse2,(qh3,(qd4,())))))],[]⟩<|jr<|JL.nextQ (j:=0) lb rfl tR (fun h0=>?_) (fun e13 rem14 hp=>?_)
 · subst h0
   replace hf:=Zhf hf
   change disk_Disk_Room_p_smvvvvm.f1 k n12 = some _ at hf
   unfold disk_Disk_Room_p_smvvvvm.f1 at hf
   refine jc (Zao (i:=0) lb tR rfl)<|jn<|JC.seq<|JC.condF tR rfl<|JC.exit<|JQ.outX ?_
   have ht:=Option.some.inj hf
   have hr:=ht
   have hq2:=cs ht
   clear hr ht
   refine JQ.outX<|JQ.pre (Imp.endItQ (j:=0) rfl)<|JQ.here ?_
   try obtain rfl:=so hq2
   exact JQ.join () (Imp.norm (js:=[1,0]) rfl (.cons rfl .nil))
 obtain ⟨x,hx,hr,hn⟩:=Zgq hf hp
 change disk_Disk_Room_p_smvvvvm.b1 k x6 n12 e13 = some x at hx
 unfold disk_Disk_Room_p_smvvvvm.b1 at hx
 refine jc (Zao (i:=0) lb tR rfl)<|jn<|JC.seq<|JC.condT tR rfl<|JC.skip<|JQ.then<|JC.block<|jr<|jc (ZgT (j:=0) lb rfl tR)<|jc (Zao (i:=1) lb tR rfl)<|jc (Zac lb tR)<|jn<|JC.region<|jmv rfl rfl<|jmv rfl rfl<|jc (Zae lb tR (fun e v h=>by subst h; rfl))<|jc (Zad (off:=0) lb Zdh tR)<|bI hx fun u15 hv_u_15 hx=>jc (ZbC (j:=0) (m:=(some x6)) lb tS31 tR rfl hv_u_15 (cT (Za9 u15) rfl) rfl rfl)<|jc (Zcc lb tu31 tR) ?_
 obtain ⟨v16,hv16,hx⟩:=Za2 hx
 refine jc (Zbx lb tR tR (cs hv16))<|jc (Zac lb tR)<|JL.sub ⟨[(3,ov (S (rI .i64) v16)),(17,ov (PTR gr10 0))],[cqmI go7 gr10 (S rS) Zaa qm8 (some x6) rem14 (some e13),cvar gb5 (zq1 go7) ((),(qb1,(fuse2,(qh3,(qd4,())))))],[]⟩ (.cons rfl (.cons rfl .nil)) rfl rfl<|JL.nil<|JQ.outNB ?_
 try obtain rfl:=so hx
 exact JQ.pre (Imp.forgetQ (j:=0) rfl)<|JQ.mnext () hp (hn _ rfl) (Imp.norm (js:=[0,0]) rfl (.cons rfl (.cons rfl .nil)))

theorem ZbV (k : Nat) (s1 : (List UInt8)) (r : (List UInt8)) (hm : Zbo k s1 = some r) : Sim Try.prog 36 [S (rL (rU UInt8)) s1] [] (γ:=Option Nat × Nat) (fun q=>[cown q.1 (rU UInt8) r 0 q.2]) (fun q=>.one (.val (HDR q.1 0 (List.length r) q.2))):=by
 unfold Zbo at hm
 refine Sim.of Try.func36 rfl rfl (lE rfl) (fun e0 w0=>?_)
 refine JC.at ⟨[(0,ov (S (rL (rU UInt8)) s1))],[],[]⟩<|jr<|jc (Zac lb HasO.nilH)<|jn<|JC.seq<|jr<|jmv rfl rfl<|JL.consX rfl (ZjF (neg:=false) (ltB rfl) tu31 tR HasO.nilH) (fun q=>?_)
 obtain ⟨hb1,hb1_⟩:=q
 cases hb1
 · refine jn<|JC.condF tR rfl<|JC.skip<|JQ.then<|jr<|jx (ZeB (r:=(rU UInt8)) lb tu31 tz5 tZ5 rfl (lE rfl) .nil rfl) fun gb2=>jmv rfl rfl<|bI hm fun x3 hv_x_3 hm=>jx (Zcg (j:=0) lb tu31 tu31 rfl tB5 rfl (Nat.lt_of_lt_of_le Nat.zero_lt_one (lE rfl)) (Nat.lt_of_lt_of_le Nat.zero_lt_one (lE rfl))  rfl tR tR hv_x_3) (fun q=>?_)
   obtain ⟨go4,gc5⟩:=q
   refine jc (Zac lb tR)<|jn<|JC.ret ?_
   obtain rfl:=so hm
   exact JQ.done (js:=[0]) (ss:=[.val (HDR go4 0 (List.length x3) gc5)]) (go4,gc5) (.inl rfl) (.nil rfl) rfl (.cons (.tmp rfl) .nil) rfl rfl rfl
 replace hm:=nilK hm (show _ = (
       some ([] : (List UInt8))
       ) by simp [hb1_ rfl,subL,apL])
 refine jn<|JC.condT tR rfl<|jr<|jc (Zac lb HasO.nilH)<|jn<|JC.ret<|JQ.outR ?_
 obtain rfl:=so hm
 exact JQ.pre (Imp.nilown (rU UInt8))<|JQ.done (js:=[0]) (ss:=[.val (HDR none 0 (List.length ([] : (List UInt8))) (0))]) (none,0) (.inl rfl) (.nil rfl) rfl (.cons (.tmp rfl) .nil) rfl rfl rfl

theorem ZbY (k : Nat) (x1 : (Option Zaf)) (x3 : (List ((List UInt8) × Zaf))) (qb7 : Int) (qg8 : Int) (qh9 : Bool) (qd10 : Int) (x12 : (List UInt8)) (x14 : (List UInt8)) (gb2 : Nat) (go4 : Option Nat) (qm5 : ((List UInt8) → Nat)) (gb6 : Nat) (gb11 : Nat) (gb13 : Nat) (gb15 : Nat) (r : (List ((List UInt8) × Zaf)) × (Option Zaf)) (hm : ZaS k x1 x3 qb7 qg8 qh9 qd10 x12 x14 = some r) : Sim Try.prog 52 [PTR gb2 0,PTR gb6 0,PTR gb13 0,PTR gb15 0] [cvar gb2 (rW (PTO (Option.map (fun _=>qm5 x12) x1))) (),cqm go4 (S rS) Zaa qm5 (some x3),cvar gb6 (rW (PTR gb11 0)) (),cvar gb11 (zq1 go4) ((),(qb7,(qg8,(qh9,(qd10,()))))),cvar gb13 rS x12,cvar gb15 (rL (rU UInt8)) x14] (γ:=((List UInt8) → Nat)) (fun q=>[cvar gb2 (rW (PTO (Option.map (fun _=>q x12) r.2))) (),cqm go4 (S rS) Zaa q (some r.1),cvar gb6 (rW (PTR gb11 0)) (),cvar gb11 (zq1 go4) ((),(qb7,(qg8,(qh9,(qd10,()))))),cvar gb13 rS x12,cvar gb15 (rL (rU UInt8)) x14]) (fun q=>.tup []):=by
 unfold ZaS at hm
 refine Sim.of Try.func52 rfl rfl (lE rfl) (fun e0 w0=>?_)
 refine JC.at ⟨[(0,ov (PTR gb2 0)),(1,ov (PTR gb6 0)),(2,ov (PTR gb13 0)),(3,ov (PTR gb15 0))],[cvar gb2 (rW (PTO (Option.map (fun _=>qm5 x12) x1))) (),cqm go4 (S rS) Zaa qm5 (some x3),cvar gb6 (rW (PTR gb11 0)) (),cvar gb11 (zq1 go4) ((),(qb7,(qg8,(qh9,(qd10,()))))),cvar gb13 rS x12,cvar gb15 (rL (rU UInt8)) x14],[]⟩ ?_
 obtain ⟨⟨x19,x20⟩,hx1,hq1⟩:=Zas hm
 refine JC.seqJ (γ:=((List UInt8) → Nat)) (stj:=fun q=>⟨[(0,ov (PTR gb2 0)),(3,ov (PTR gb15 0))],[cvar gb2 (rW (PTO (Option.map (fun _=>q x12) x20))) (),cqm go4 (S rS) Zaa q (some x19),cvar gb15 (rL (rU UInt8)) x14,cvar gb6 (rW (PTR gb11 0)) (),cvar gb11 (zq1 go4) ((),(qb7,(qg8,(qh9,(qd10,()))))),cvar gb13 rS x12],[]⟩) (fun q=>?_) ?_
 · obtain ⟨qm21,hqq⟩ : ∃ z,z = q:=⟨_,rfl⟩
   subst hqq
   refine JC.at ⟨[(0,ov (PTR gb2 0)),(3,ov (PTR gb15 0))],[cvar gb2 (rW (PTO (Option.map (fun _=>qm21 x12) x20))) (),cqm go4 (S rS) Zaa qm21 (some x19),cvar gb15 (rL (rU UInt8)) x14,cvar gb6 (rW (PTR gb11 0)) (),cvar gb11 (zq1 go4) ((),(qb7,(qg8,(qh9,(qd10,()))))),cvar gb13 rS x12],[]⟩<|bI hq1 fun u22 hv_u_22 hq1=>bI hq1 fun u23 hv_u_23 hq1=>bI hq1 fun v24 hv24 hq1=>bI hq1 fun x27 hv_x_27 hq1=>bI hq1 fun u30 hv_u_30 hq1=>?_
   obtain ⟨x32,hv_x_32,hq1⟩:=Zas hq1
   refine JC.anyF (base:=[(0,ov (PTR gb2 0)),(3,ov (PTR gb15 0))])
       (fs:=fun γ=>[⟨some 14,ov (PTO (Option.map (fun _=>qm21 x12) x20))⟩,⟨some 15,ov (PTO (Option.map (fun _=>qm21 x12) x20))⟩,⟨some 16,ov (PTR (qm21 x12) 0)⟩,⟨some 17,ov (PTR (qm21 x12) (0 + 0))⟩,⟨some 18,ov (S (rL (rU UInt8)) u23.b)⟩,⟨some 19,ov (HDR (deo (γ 5 0)) 0 (List.length v24) (γ 5 1))⟩,⟨some 20,ov (S (rL (rU UInt8)) x14)⟩,⟨some 21,ov (S (rL (rU UInt8)) x27)⟩,⟨some 22,ov (PTR (qm21 x12) 0)⟩,⟨some 23,ov (PTR (qm21 x12) (0 + 0))⟩,⟨none,.one .any⟩])
       (rs:=fun γ=>[⟨cvar gb2 (rW (PTO (Option.map (fun _=>qm21 x12) x20))) (),none,none,[0,1]⟩,⟨cqm go4 (S rS) Zaa qm21 (some x19),none,(some 10),[4]⟩,⟨cvar gb15 (rL (rU UInt8)) x14,none,none,[6]⟩,⟨cvar gb6 (rW (PTR gb11 0)) (),none,none,[]⟩,⟨cvar gb11 (zq1 go4) ((),(qb7,(qg8,(qh9,(qd10,()))))),none,none,[]⟩,⟨cvar gb13 rS x12,none,none,[]⟩,⟨cown (deo (γ 5 0)) (rU UInt8) v24 0 (γ 5 1),(some 5),(some 7),[]⟩,⟨cqm go4 (S rS) Zaa qm21 (some x32),(some 10),none,[]⟩])
       (afts:=[[],[],[],[],[],[5,7,8,9,10],[],[],[],[],[]]) (js:=[0,0,0,0,0,0]) mixed (.cons rfl (.cons rfl .nil)) (fun _=>rfl)
       (by
      refine dR 1 (fun γ ρ B hb hd=>Zag.lk ⟨ρ,(cvar gb2 (rW (PTO (Option.map (fun _=>qm21 x12) x20))) ())::B,_⟩ (Zal (j:=0) lb tS69 (.tmp (hb 0 _ rfl)) rfl (Comp.self (rW (PTO (Option.map (fun _=>qm21 x12) x20))) ())))<|dR 2 (fun γ ρ B hb hd=>Zag.lk ⟨ρ,(cvar gb2 (rW (PTO (Option.map (fun _=>qm21 x12) x20))) ())::B,_⟩ (Zal (j:=0) lb tS69 (.tmp (hb 0 _ rfl)) rfl (Comp.self (rW (PTO (Option.map (fun _=>qm21 x12) x20))) ())))<|dS 3 (fun γ ρ B hb hd=>Zae lb (HasO.wk (tl hd 1 15) (Zdp hv_u_22)) (fun e v h=>by subst h; rfl))<|dS 4 (fun γ ρ B hb hd=>Zad (off:=0) lb Zdh (tl hd 2 16))<|dR 5 (fun γ ρ B hb hd=>Zag.lk ⟨ρ,(cqm go4 (S rS) Zaa qm21 (some x19))::B,_⟩ (ZbC (j:=0) (m:=(some x19)) lb tS31 (tl hd 3 17) rfl hv_u_23 (cT (Za9 u23) rfl) rfl rfl)) ?_
      refine Zat.cons (j:=6) rfl (fun _=>rfl) (.runX (fun _ _=>rfl) (fun γ ρ B hb hd=>⟨.none,OpX.ghost (γ:=Option Nat × Nat) (st':=fun q=>setO ⟨ρ,(cown q.1 (rU UInt8) v24 0 q.2)::B,_⟩ (some 19) (ov (HDR q.1 0 (List.length v24) q.2))) (fun q c=>bif Nat.beq c 0 then eno q.1 else q.2) (Zak (js:=[]) ld cl36 (ZbV k u23.b v24 hv24) .func (.cons (tl hd 4 18) .nil) rfl) (fun q=>by obtain ⟨q0,q1⟩:=q; cases q0 <;> exact Imp.refl)⟩) (fun _ _=>rfl) (fun _ _=>rfl)) ?_
      refine dR 7 (fun γ ρ B hb hd=>Zag.lk ⟨ρ,(cvar gb15 (rL (rU UInt8)) x14)::B,_⟩ (Zam (j:=0) lb tS31 (.tmp (hb 3 _ rfl)) rfl (Comp.self (rL (rU UInt8)) x14) rfl rfl))<|dR 8 (fun γ ρ B hb hd=>Zag.at ⟨ρ,(cown (deo (γ 5 0)) (rU UInt8) v24 0 (γ 5 1))::B,_⟩ (setO ⟨ρ,B,_⟩ _ _) ((Zcg (j:=0) lb tu31 tu31 rfl tB5 rfl (Nat.lt_of_lt_of_le Nat.zero_lt_one (lE rfl)) (Nat.lt_of_lt_of_le Nat.zero_lt_one (lE rfl))  rfl (tl hd 5 19) (tl hd 6 20) hv_x_27).post (fun q=>Imp.dropF (j:=0) rfl)))<|dS 9 (fun γ ρ B hb hd=>Zae lb (HasO.wk (tl hd 0 14) (Zdp hv_u_30)) (fun e v h=>by subst h; rfl))<|dS 10 (fun γ ρ B hb hd=>Zad (off:=0) lb Zdh (tl hd 8 22))<|dR 11 (fun γ ρ B hb hd=>Zag.at ⟨ρ,(cqm go4 (S rS) Zaa qm21 (some x19))::B,_⟩ (setO ⟨ρ,(cqm go4 (S rS) Zaa qm21 (some x32))::B,_⟩ _ _) (ZcV (j:=0) tS31 (tl hd 9 23) (tl hd 7 21) rfl rfl (fun u=>(Upd.trans (Comp.self Zaa u) (Upd.self Zaa u _) (Zda u x27)).R) (Zdt hv_x_32))) ?_
      exact Zat.nil)
       (by decide +kernel) (fun _=>rfl) (fun _=>rfl) (fun _=>rfl) rfl
       (ρ':=fun γ=>[])
       (X':=fun γ=>[cvar gb2 (rW (PTO (Option.map (fun _=>qm21 x12) x20))) (),cvar gb15 (rL (rU UInt8)) x14,cvar gb6 (rW (PTR gb11 0)) (),cvar gb11 (zq1 go4) ((),(qb7,(qg8,(qh9,(qd10,()))))),cvar gb13 rS x12,cqm go4 (S rS) Zaa qm21 (some x32)])
       (fun γ ρ hb hd=>.nil) (fun _=>rfl) (fun γ=>?_)
   generalize (deo (γ 5 0)) = go25
   generalize (γ 5 1) = gc26
   clear γ
   refine JQ.at ⟨[],[cvar gb2 (rW (PTO (Option.map (fun _=>qm21 x12) x20))) (),cvar gb15 (rL (rU UInt8)) x14,cvar gb6 (rW (PTR gb11 0)) (),cvar gb11 (zq1 go4) ((),(qb7,(qg8,(qh9,(qd10,()))))),cvar gb13 rS x12,cqm go4 (S rS) Zaa qm21 (some x32)],[]⟩ ?_
   obtain rfl:=so hq1
   exact JQ.done (js:=[0,4,1,1,1,0]) (ss:=[]) qm21 (.inr rfl) (.nil rfl) rfl .nil rfl rfl rfl
 refine jr<|jc (Zal (j:=0) lb tS69 tR rfl (Comp.self (rW (PTO (Option.map (fun _=>qm5 x12) x1))) ()))<|lI hx1 fun v16 hv16 hx1=>jc (Zd7 (neg:=false) lb tu69 tR (HasO.const (p:=PTO none) fun _=>rfl) hv16)<|jn<|jif tR hx1 (fun hc2 hx1=>?_) (fun hc2 hx1=>?_)
 · refine jr<|jc (ZdI lb tZ71 zr71 tp71 .nil rfl)<|jx (Zd4 lb tR) fun gb17=>jc (Zb4 (j:=0) tS69 tR tR rfl (UpdR.self (by rfl)) rfl)<|jn ?_
   obtain ⟨x18,hv_x_18,hx1⟩:=Za2 hx1
   refine JC.anyF (base:=[(0,ov (PTR gb2 0)),(1,ov (PTR gb6 0)),(2,ov (PTR gb13 0)),(3,ov (PTR gb15 0))])
       (fs:=fun γ=>[⟨some 8,ov (PTR gb11 0)⟩,⟨some 9,ov (PTR gb11 0)⟩,⟨some 10,ov (PTR gb11 (0 + 0))⟩,⟨some 11,ov (MPV go4)⟩,⟨some 12,ov (S rS x12)⟩,⟨some 13,ov (PTR gb17 0)⟩,⟨none,.one .any⟩])
       (rs:=fun γ=>[⟨cvar gb2 (rW (PTR gb17 0)) (),none,none,[5]⟩,⟨cqm go4 (S rS) Zaa qm5 (some x3),none,(some 6),[]⟩,⟨cvar gb6 (rW (PTR gb11 0)) (),none,none,[0]⟩,⟨cvar gb11 (zq1 go4) ((),(qb7,(qg8,(qh9,(qd10,()))))),none,none,[3]⟩,⟨cvar gb13 rS x12,none,none,[4]⟩,⟨cvar gb15 (rL (rU UInt8)) x14,none,none,[]⟩,⟨cvar gb17 zq2 ((),((0 : Int),())),none,(some 6),[]⟩,⟨cqm go4 (S rS) Zaa (updF qm5 x12 gb17) (some x18),(some 6),none,[]⟩])
       (afts:=nn 7) (js:=[0,0,0,0,0,0,0]) mixed (.cons rfl (.cons rfl (.cons rfl (.cons rfl .nil)))) (fun _=>rfl)
       (by
      refine dR 1 (fun γ ρ B hb hd=>Zag.lk ⟨ρ,(cvar gb6 (rW (PTR gb11 0)) ())::B,_⟩ (Zal (j:=0) lb tS25 (.tmp (hb 1 _ rfl)) rfl (Comp.self (rW (PTR gb11 0)) ())))<|dS 2 (fun γ ρ B hb hd=>Zae lb (tl hd 0 8) (fun e v h=>by subst h; rfl))<|dS 3 (fun γ ρ B hb hd=>Zad (off:=0) lb Zct (tl hd 1 9))<|dR 4 (fun γ ρ B hb hd=>Zag.lk ⟨ρ,(cvar gb11 (zq1 go4) ((),(qb7,(qg8,(qh9,(qd10,()))))))::B,_⟩ (Zal (j:=0) lb tS62 (tl hd 2 10) rfl (Comp.trans (Comp.self (zq1 go4) ((),(qb7,(qg8,(qh9,(qd10,())))))) (Comp.at' (Comp.inF (Comp.self (rW (MPV go4)) ()) (lE rfl)) (by rfl : _ = 0)) (lE rfl))))<|dR 5 (fun γ ρ B hb hd=>Zag.lk ⟨ρ,(cvar gb13 rS x12)::B,_⟩ (Zam (j:=0) lb tS9 (.tmp (hb 2 _ rfl)) rfl (Comp.self rS x12) rfl rfl)) ?_
      refine dR 6 (fun γ ρ B hb hd=>Zag.lk ⟨ρ,(cvar gb2 (rW (PTR gb17 0)) ())::B,_⟩ (Zal (j:=0) lb tS69 (.tmp (hb 0 _ rfl)) rfl (Comp.self (rW (PTR gb17 0)) ())))<|dR 7 (fun γ ρ B hb hd=>Zag.at ⟨ρ,(cqm go4 (S rS) Zaa qm5 (some x3))::(cvar gb17 zq2 ((),((0 : Int),())))::B,_⟩ (setO ⟨ρ,(cqm go4 (S rS) Zaa (updF qm5 x12 gb17) (some x18))::B,_⟩ _ _) (ZgD (js:=[0,0]) (.inl rfl) tu62 ky9 rfl (Wk.st (Wk.pair Wk.nil (Wk.pair Wk.refl Wk.refl))) (tl hd 3 11) (tl hd 4 12) (tl hd 5 13) (congrArg (fun z=>some (some z)) hv_x_18))) ?_
      exact Zat.nil)
       (by decide +kernel) (fun _=>rfl) (fun _=>rfl) (fun _=>rfl) rfl
       (ρ':=fun γ=>[(0,ov (PTR gb2 0)),(3,ov (PTR gb15 0))])
       (X':=fun γ=>[cvar gb2 (rW (PTR gb17 0)) (),cvar gb6 (rW (PTR gb11 0)) (),cvar gb11 (zq1 go4) ((),(qb7,(qg8,(qh9,(qd10,()))))),cvar gb13 rS x12,cvar gb15 (rL (rU UInt8)) x14,cqm go4 (S rS) Zaa (updF qm5 x12 gb17) (some x18)])
       (fun γ ρ hb hd=>(.cons (hb 0 _ rfl) (.cons (hb 3 _ rfl) .nil))) (fun _=>rfl) (fun γ=>?_)
   refine JQ.at ⟨[(0,ov (PTR gb2 0)),(3,ov (PTR gb15 0))],[cvar gb2 (rW (PTR gb17 0)) (),cvar gb6 (rW (PTR gb11 0)) (),cvar gb11 (zq1 go4) ((),(qb7,(qg8,(qh9,(qd10,()))))),cvar gb13 rS x12,cvar gb15 (rL (rU UInt8)) x14,cqm go4 (S rS) Zaa (updF qm5 x12 gb17) (some x18)],[]⟩<|JQ.pre (Imp.var (j:=0) (q:=(rW (PTR ((updF qm5 x12 gb17) x12) 0))) (y:=()) rfl (Wk.w Zkl)) ?_
   have hz:=Option.some.inj hx1
   replace hz:=Prod.mk.inj hz
   obtain ⟨hz_a,hz⟩:=hz
   first | subst hz_a | clear hz_a
   first | subst hz | clear hz
   refine JQ.pre (Imp.var (j:=0) (q:=(rW (PTO (Option.map (fun _=>(updF qm5 x12 gb17) x12) (some default : Option Zaf))))) (y:=()) rfl (Wk.w Zkt)) ?_
   refine JQ.pre (Imp.var (j:=2) (q:=(zq1 go4)) (y:=((),(qb7,(qg8,(qh9,(qd10,())))))) rfl Wk.refl) ?_
   exact JQ.join (updF qm5 x12 gb17) (Imp.norm (js:=[0,4,3,0,0,0]) rfl (.cons rfl (.cons rfl .nil)))
 refine JC.skip ?_
 have hz:=Option.some.inj hx1
 replace hz:=Prod.mk.inj hz
 obtain ⟨hz_a,hz⟩:=hz
 first | subst hz_a | clear hz_a
 first | subst hz | clear hz
 refine JQ.pre (Imp.var (j:=3) (q:=(zq1 go4)) (y:=((),(qb7,(qg8,(qh9,(qd10,())))))) rfl Wk.refl) ?_
 exact JQ.join qm5 (Imp.norm (js:=[0,0,3,0,0,0]) rfl (.cons rfl (.cons rfl .nil)))

theorem Zcv (k : Nat) (qb1 : Int) (fuse2 : Int) (qh3 : Bool) (qd4 : Int) (x6 : (List ((List UInt8) × Zaf))) (x9 : (Option Zaf)) (x12 : (List UInt8)) (x14 : (List UInt8)) (gb5 : Nat) (go7 : Option Nat) (qm8 : ((List UInt8) → Nat)) (gb10 : Nat) (gb11 : Nat) (gb13 : Nat) (gb15 : Nat) (r : Int × (List ((List UInt8) × Zaf)) × Int × Bool × Int × (Option Zaf)) (hm : ZaH k qb1 fuse2 qh3 qd4 x6 x9 x12 x14 = some r) : Sim Try.prog 53 [PTR gb5 0,CLO 52 [PTR gb10 0,PTR gb11 0,PTR gb13 0,PTR gb15 0],CLO 52 [PTR gb10 0,PTR gb11 0,PTR gb13 0,PTR gb15 0]] [cvar gb5 (zq1 go7) ((),(qb1,(fuse2,(qh3,(qd4,()))))),cqm go7 (S rS) Zaa qm8 (some x6),cvar gb10 (rW (PTO (Option.map (fun _=>qm8 x12) x9))) (),cvar gb11 (rW (PTR gb5 0)) (),cvar gb13 rS x12,cvar gb15 (rL (rU UInt8)) x14] (γ:=((List UInt8) → Nat)) (fun q=>[cvar gb5 (zq1 go7) ((),(qb1,(r.2.2.1,(r.2.2.2.1,(r.2.2.2.2.1,()))))),cqm go7 (S rS) Zaa q (some r.2.1),cvar gb10 (rW (PTO (Option.map (fun _=>q x12) r.2.2.2.2.2))) (),cvar gb11 (rW (PTR gb5 0)) (),cvar gb13 rS x12,cvar gb15 (rL (rU UInt8)) x14]) (fun q=>.one (.val (S (rI .i64) r.1))):=by
 unfold ZaH at hm
 refine Sim.of Try.func53 rfl rfl (lE rfl) (fun e0 w0=>?_)
 refine JC.at ⟨[(0,ov (PTR gb5 0)),(1,ov (CLO 52 [PTR gb10 0,PTR gb11 0,PTR gb13 0,PTR gb15 0])),(2,ov (CLO 52 [PTR gb10 0,PTR gb11 0,PTR gb13 0,PTR gb15 0]))],[cvar gb5 (zq1 go7) ((),(qb1,(fuse2,(qh3,(qd4,()))))),cqm go7 (S rS) Zaa qm8 (some x6),cvar gb10 (rW (PTO (Option.map (fun _=>qm8 x12) x9))) (),cvar gb11 (rW (PTR gb5 0)) (),cvar gb13 rS x12,cvar gb15 (rL (rU UInt8)) x14],[]⟩<|jr<|jc (Zac lb .cI)<|jn<|JC.seq<|jr<|jmv rfl rfl<|jc (Zae lb tR (fun e v h=>by subst h; rfl))<|jc (Zad (off:=3) lb Zd0 tR)<|jc (Zam (j:=0) lb tS4 tR rfl (Comp.trans (Comp.self (zq1 go7) ((),(qb1,(fuse2,(qh3,(qd4,())))))) (Comp.at' (Comp.inS (Comp.inS (Comp.inS (Comp.inF (Comp.self rB qh3) (lE rfl))))) (by rfl : _ = 3)) (lE rfl)) rfl rfl)<|jn<|jif tR hm (fun hc1 hm=>?_) (fun hc1 hm=>?_)
 · refine jr<|jc (Zac lb .cI)<|jn<|JC.ret<|JQ.outR ?_
   obtain rfl:=so hm
   refine JQ.pre (Imp.var (j:=0) (q:=(zq1 go7)) (y:=((),(qb1,(fuse2,(qh3,(qd4,())))))) rfl Wk.refl) ?_
   exact JQ.done (js:=[0,0,0,0,0,0]) (ss:=[.val (S (rI .i64) (8 : Int))]) qm8 (.inl rfl) (.nil rfl) rfl (.cons (.tmp rfl) .nil) rfl rfl rfl
 refine JC.skip<|JQ.then<|jr<|jmv rfl rfl<|jc (Zae lb tR (fun e v h=>by subst h; rfl))<|jc (Zad (off:=4) lb ZdZ tR)<|jc (Zam (j:=0) lb tS3 tR rfl (Comp.trans (Comp.self (zq1 go7) ((),(qb1,(fuse2,(qh3,(qd4,())))))) (Comp.at' (Comp.inS (Comp.inS (Comp.inS (Comp.inS (Comp.inF (Comp.self (rI .i64) qd4) (lE rfl)))))) (by rfl : _ = 4)) (lE rfl)) rfl rfl)<|lI hm fun v16 hv16 hm=>jc (Zbx lb tR .cI (cs hv16))<|jc (Zae lb tR (fun e v h=>by subst h; rfl))<|jc (Zad (off:=4) lb ZdZ tR)<|JL.sub ⟨[(0,ov (PTR gb5 0)),(1,ov (CLO 52 [PTR gb10 0,PTR gb11 0,PTR gb13 0,PTR gb15 0])),(2,ov (CLO 52 [PTR gb10 0,PTR gb11 0,PTR gb13 0,PTR gb15 0])),(15,ov (S (rI .i64) v16)),(17,ov (PTR gb5 (0 + 4)))],[cvar gb5 (zq1 go7) ((),(qb1,(fuse2,(qh3,(qd4,()))))),cqm go7 (S rS) Zaa qm8 (some x6),cvar gb10 (rW (PTO (Option.map (fun _=>qm8 x12) x9))) (),cvar gb11 (rW (PTR gb5 0)) (),cvar gb13 rS x12,cvar gb15 (rL (rU UInt8)) x14],[]⟩ (.cons rfl (.cons rfl (.cons rfl (.cons rfl (.cons rfl .nil))))) rfl rfl<|jc (ZaL (j:=0) tS3 tR tR rfl rfl ((UpdR.snd (UpdR.snd (UpdR.snd (UpdR.snd (UpdR.fst (UpdR.self (by rfl))))))).at (by change (1 + (1 + (1 + (1 + 0)))) = (0 + 4); omega)) rfl)<|jn<|JC.seq<|jr<|jmv rfl rfl<|jc (Zae lb tR (fun e v h=>by subst h; rfl))<|jc (Zad (off:=2) lb Zcs tR)<|jc (Zam (j:=0) lb tS3 tR rfl (Comp.trans (Comp.self (zq1 go7) ((),(qb1,(fuse2,(qh3,(v16,())))))) (Comp.at' (Comp.inS (Comp.inS (Comp.inF (Comp.self (rI .i64) fuse2) (lE rfl)))) (by rfl : _ = 2)) (lE rfl)) rfl rfl) ?_
 obtain ⟨v17,hv17,hm⟩:=Za2 hm
 refine jc (Zan lb tR .cI (cs hv17))<|jn<|jif tR hm (fun hc2 hm=>?_) (fun hc2 hm=>?_)
 · refine jr<|jmv rfl rfl<|jc (Zae lb tR (fun e v h=>by subst h; rfl))<|jc (Zad (off:=3) lb Zd0 tR)<|jc (ZaL (j:=0) tS4 tR .cB rfl rfl ((UpdR.snd (UpdR.snd (UpdR.snd (UpdR.fst (UpdR.self (by rfl)))))).at (by change (1 + (1 + (1 + 0))) = (0 + 3); omega)) rfl)<|JL.sub ⟨[(2,ov (CLO 52 [PTR gb10 0,PTR gb11 0,PTR gb13 0,PTR gb15 0]))],[cvar gb5 (zq1 go7) ((),(qb1,(fuse2,(true,(v16,()))))),cqm go7 (S rS) Zaa qm8 (some x6),cvar gb10 (rW (PTO (Option.map (fun _=>qm8 x12) x9))) (),cvar gb11 (rW (PTR gb5 0)) (),cvar gb13 rS x12,cvar gb15 (rL (rU UInt8)) x14],[]⟩ (.cons rfl .nil) rfl rfl<|jn<|jr<|jmv rfl rfl ?_
   obtain ⟨⟨x18,x19⟩,hv_x_18,hm⟩:=Zas hm
   refine jx (Zak (js:=[2,1,1,0,0,0]) ld cl52 (ZbY k x9 x6 qb1 fuse2 true v16 x12 x14 gb10 go7 qm8 gb11 gb5 gb13 gb15 (x18,x19) hv_x_18) tR .nil rfl) fun qm20=>jn<|jr<|jc (Zac lb .cI)<|jn<|JC.ret<|JQ.outR ?_
   obtain rfl:=so hm
   exact JQ.done (js:=[3,1,0,0,0,0]) (ss:=[.val (S (rI .i64) (8 : Int))]) qm20 (.inl rfl) (.nil rfl) rfl (.cons (.tmp rfl) .nil) rfl rfl rfl
 refine JC.skip<|JQ.then<|bI hm fun x23 hx3 hq3=>JC.seqJ (γ:=Unit) (stj:=fun _=>⟨[(1,ov (CLO 52 [PTR gb10 0,PTR gb11 0,PTR gb13 0,PTR gb15 0]))],[cvar gb10 (rW (PTO (Option.map (fun _=>qm8 x12) x9))) (),cqm go7 (S rS) Zaa qm8 (some x6),cvar gb11 (rW (PTR gb5 0)) (),cvar gb5 (zq1 go7) ((),(qb1,(x23,(qh3,(v16,()))))),cvar gb13 rS x12,cvar gb15 (rL (rU UInt8)) x14],[]⟩) (fun _=>?_) ?_
 · refine jr<|jmv rfl rfl ?_
   obtain ⟨⟨x24,x25⟩,hv_x_24,hq3⟩:=Zas hq3
   refine jx (Zak (js:=[0,0,0,0,0,0]) ld cl52 (ZbY k x9 x6 qb1 x23 qh3 v16 x12 x14 gb10 go7 qm8 gb11 gb5 gb13 gb15 (x24,x25) hv_x_24) tR .nil rfl) fun qm26=>jn<|jr<|jc (Zac lb .cI)<|jn<|JC.ret ?_
   obtain rfl:=so hq3
   exact JQ.done (js:=[3,1,0,0,0,0]) (ss:=[.val (S (rI .i64) (0 : Int))]) qm26 (.inl rfl) (.nil rfl) rfl (.cons (.tmp rfl) .nil) rfl rfl rfl
 refine jr<|jmv rfl rfl<|jc (Zae lb tR (fun e v h=>by subst h; rfl))<|jc (Zad (off:=2) lb Zcs tR)<|jc (Zam (j:=0) lb tS3 tR rfl (Comp.trans (Comp.self (zq1 go7) ((),(qb1,(fuse2,(qh3,(v16,())))))) (Comp.at' (Comp.inS (Comp.inS (Comp.inF (Comp.self (rI .i64) fuse2) (lE rfl)))) (by rfl : _ = 2)) (lE rfl)) rfl rfl)<|JL.sub ⟨[(0,ov (PTR gb5 0)),(1,ov (CLO 52 [PTR gb10 0,PTR gb11 0,PTR gb13 0,PTR gb15 0])),(31,ov (S (rI .i64) fuse2))],[cvar gb5 (zq1 go7) ((),(qb1,(fuse2,(qh3,(v16,()))))),cqm go7 (S rS) Zaa qm8 (some x6),cvar gb10 (rW (PTO (Option.map (fun _=>qm8 x12) x9))) (),cvar gb11 (rW (PTR gb5 0)) (),cvar gb13 rS x12,cvar gb15 (rL (rU UInt8)) x14],[]⟩ (.cons rfl (.cons rfl (.cons rfl .nil))) rfl rfl<|lI hx3 fun v21 hv21 hx3=>jc (Zan lb tR .cI (cs hv21))<|jn<|jif tR hx3 (fun hc4 hx3=>?_) (fun hc4 hx3=>?_)
 · refine JC.region<|jmv rfl rfl<|jc (Zae lb tR (fun e v h=>by subst h; rfl))<|jc (Zad (off:=2) lb Zcs tR)<|jc (Zam (j:=0) lb tS3 tR rfl (Comp.trans (Comp.self (zq1 go7) ((),(qb1,(fuse2,(qh3,(v16,())))))) (Comp.at' (Comp.inS (Comp.inS (Comp.inF (Comp.self (rI .i64) fuse2) (lE rfl)))) (by rfl : _ = 2)) (lE rfl)) rfl rfl)<|lI hx3 fun v22 hv22 hx3=>jc (Zbx lb tR .cI (cs hv22))<|jc (Zae lb tR (fun e v h=>by subst h; rfl))<|jc (Zad (off:=2) lb Zcs tR)<|jc (ZaL (j:=0) tS3 tR tR rfl rfl ((UpdR.snd (UpdR.snd (UpdR.fst (UpdR.self (by rfl))))).at (by change (1 + (1 + 0)) = (0 + 2); omega)) rfl)<|JL.nil ?_
   try obtain rfl:=so hx3
   refine JQ.pre (Imp.var (j:=0) (q:=(zq1 go7)) (y:=((),(qb1,(v22,(qh3,(v16,())))))) rfl Wk.refl) ?_
   exact JQ.join () (Imp.norm (js:=[2,1,1,0,0,0]) rfl (.cons rfl .nil))
 refine JC.skip ?_
 try obtain rfl:=so hx3
 refine JQ.pre (Imp.var (j:=0) (q:=(zq1 go7)) (y:=((),(qb1,(fuse2,(qh3,(v16,())))))) rfl Wk.refl) ?_
 exact JQ.join () (Imp.norm (js:=[2,1,1,0,0,0]) rfl (.cons rfl .nil))

end Go.Proofs.Ytipchpbcjkhnaaa
