/- Walks. -/
import Derived.Test.YtipchpbcjkhnaaaT
import Derived.Test.YtipchpbcjkhnaaaW8
namespace Go.Proofs.Ytipchpbcjkhnaaa
open Go Fw
set_option linter.unusedVariables false
set_option maxRecDepth 100000
set_option maxHeartbeats 4000000

theorem ZdC (k : Nat) (a1 : (List UInt8)) (a2 : Int) (qc3 : Int) (ql4 : Int) (qj5 : Bool) (qe6 : Int) (x8 : (List Zah)) (gb7 : Nat) (go9 : Option Nat) (gc10 : Nat) (r : Int × (List Zah) × Int × Bool × Int) (hm : ZaI k a1 a2 qc3 ql4 qj5 qe6 x8 = some r) : Sim Try.prog 46 [PTR gb7 0,S rS a1,S (rI .i64) a2] [zq16 gb7 go9 x8 gc10 qc3 ql4 qj5 qe6,cown go9 Zab x8 0 gc10] (γ:=Unit) (fun q=>[cvar gb7 (rP (rW (HDR go9 0 (List.length r.2.1) gc10)) (rP (rI .i64) (rP (rI .i64) (rP rB (rP (rI .i64) r0))))) ((),(qc3,(r.2.2.1,(r.2.2.2.1,(r.2.2.2.2,()))))),cown go9 Zab r.2.1 0 gc10]) (fun q=>.one (.val (S (rI .i64) r.1))):=by
 unfold ZaI at hm
 refine Sim.of Try.func46 rfl rfl (lE rfl) (fun e0 w0=>?_)
 refine JC.at ⟨[(0,ov (PTR gb7 0)),(1,ov (S rS a1)),(2,ov (S (rI .i64) a2))],[zq16 gb7 go9 x8 gc10 qc3 ql4 qj5 qe6,cown go9 Zab x8 0 gc10],[]⟩<|jr<|jc (Zac lb .cI)<|jn<|jr<|jmv rfl rfl<|jmv rfl rfl ?_
 obtain ⟨⟨v11,v12⟩,hv11,hm⟩:=Zas hm
 refine jx (Zak (js:=[0,0]) ld cl41 (Zbr k a1 qc3 ql4 qj5 qe6 x8 gb7 go9 gc10 (v11,v12) hv11) .func (.cons tR (.cons tR .nil)) rfl) fun _=>jmv rfl rfl<|jc (Zao (i:=0) lb tR rfl)<|jc (Zao (i:=1) lb tR rfl)<|jc (Zac lb tR)<|jc (Zac lb tR)<|jn<|JC.seq<|bI hm fun x20 hx1 hq1=>JC.seqJ (γ:=Unit) (stj:=fun _=>⟨[(0,ov (PTR gb7 0)),(2,ov (S (rI .i64) a2)),(7,ov (S (rI .i64) v11)),(8,ov (S (rI .i64) v12)),(39,ov (S rB x20))],[zq16 gb7 go9 x8 gc10 qc3 ql4 qj5 qe6,cown go9 Zab x8 0 gc10],[]⟩) (fun _=>?_) ?_
 · refine jif tR hq1 (fun hc16 hq1=>?_) (fun hc16 hq1=>?_)
   · refine jr<|jc (Zac lb .cI)<|jn<|JC.ret<|JQ.outR ?_
     obtain rfl:=so hq1
     exact JQ.done (js:=[0,0]) (ss:=[.val (S (rI .i64) (2 : Int))]) () (.inl rfl) (.nil rfl) rfl (.cons (.tmp rfl) .nil) rfl rfl rfl
   refine JC.skip<|JQ.then<|JC.seq<|jr<|jmv rfl rfl<|lI hq1 fun v21 hv21 hq1=>jc (Zan lb tR .cI (cs hv21))<|jn<|jif tR hq1 (fun hc17 hq1=>?_) (fun hc17 hq1=>?_)
   · refine jr<|jmv rfl rfl<|jc (Zac lb tR)<|jn<|JC.ret<|JQ.outR ?_
     obtain rfl:=so hq1
     exact JQ.done (js:=[0,0]) (ss:=[.val (S (rI .i64) v12)]) () (.inl rfl) (.nil rfl) rfl (.cons (.tmp rfl) .nil) rfl rfl rfl
   refine JC.skip<|JQ.then<|jr<|jmv rfl rfl ?_
   obtain ⟨⟨v22,v23,x24,x25,x26⟩,hv22,hq1⟩:=Zas hq1
   refine jx (Zak (js:=[0,0]) ld cl63 (Zbs k qc3 ql4 qj5 qe6 x8 gb7 go9 gc10 (v22,v23,x24,x25,x26) hv22) .func (.cons tR .nil) rfl) fun _=>jmv rfl rfl<|jc (Zao (i:=0) lb tR rfl)<|jc (Zao (i:=1) lb tR rfl)<|jc (Zac lb tR)<|jc (Zac lb tR)<|jn<|bI hq1 fun x37 hx18 hq18=>JC.seqJ (γ:=Unit) (stj:=fun _=>⟨[(9,ov (S rB v22))],[cvar gb7 (zq10 go9 x37 gc10) ((),(qc3,(x24,(x25,(x26,()))))),cown go9 Zab x37 0 gc10],[]⟩) (fun _=>?_) ?_
   · refine jr<|jmv rfl rfl<|bI hq18 fun v38 hv38 hq18=>jx (Zak (js:=[]) ld cl64 (ZcS k v22 v38 hv38) .func (.cons tR .nil) rfl) fun _=>jc (Zac lb tR)<|jn<|JC.ret ?_
     obtain rfl:=so hq18
     exact JQ.done (js:=[0,0]) (ss:=[.val (S (rI .i64) v38)]) () (.inl rfl) (.nil rfl) rfl (.cons (.tmp rfl) .nil) rfl rfl rfl
   refine jr<|jmv rfl rfl<|JL.sub ⟨[(0,ov (PTR gb7 0)),(2,ov (S (rI .i64) a2)),(7,ov (S (rI .i64) v11)),(9,ov (S rB v22)),(48,ov (S rB v22))],[cvar gb7 (zq10 go9 x8 gc10) ((),(qc3,(x24,(x25,(x26,()))))),cown go9 Zab x8 0 gc10],[]⟩ (.cons rfl (.cons rfl (.cons rfl (.cons rfl (.cons rfl .nil))))) rfl rfl<|jn<|jif tR hx18 (fun hc19 hx18=>?_) (fun hc19 hx18=>?_)
   · refine JC.seq<|bI hx18 fun i27 hv_i_27 hx18=>bI hx18 fun u28 hv_u_28 hx18=>bI hx18 fun v29 hv29 hx18=>bI hx18 fun i30 hv_i_30 hx18=>?_
     obtain ⟨x31,hv_x_31,hx18⟩:=Zas hx18
     refine JC.anyF (base:=[(0,ov (PTR gb7 0)),(2,ov (S (rI .i64) a2)),(7,ov (S (rI .i64) v11)),(9,ov (S rB v22))])
         (fs:=fun γ=>[⟨some 49,ov (PTR gb7 0)⟩,⟨some 50,ov (PTR gb7 0)⟩,⟨some 51,ov (PTR gb7 (0 + 0))⟩,⟨some 52,ov (HDR go9 0 (List.length x8) gc10)⟩,⟨some 53,ov (S (rI .i64) v11)⟩,⟨some 54,ov (PTR gb7 0)⟩,⟨some 55,ov (PTR gb7 0)⟩,⟨some 56,ov (PTR gb7 (0 + 0))⟩,⟨some 57,ov (HDR go9 0 (List.length x8) gc10)⟩,⟨some 58,ov (S (rI .i64) v11)⟩,⟨some 59,ov (EPT go9 (i27 * 3))⟩,⟨some 60,ov (EPT go9 ((i27 * 3) + 1))⟩,⟨some 61,ov (S (rL (rU UInt8)) u28.B)⟩,⟨some 62,ov (S (rI .i64) a2)⟩,⟨some 63,ov (S (rL (rU UInt8)) v29)⟩,⟨some 64,ov (EPT go9 (i30 * 3))⟩,⟨some 65,ov (EPT go9 ((i30 * 3) + 1))⟩,⟨none,.one .any⟩])
         (rs:=fun γ=>[⟨cvar gb7 (zq10 go9 x8 gc10) ((),(qc3,(x24,(x25,(x26,()))))),none,none,[3,8]⟩,⟨cown go9 Zab x8 0 gc10,none,(some 17),[10,12,15]⟩,⟨cown go9 Zab x31 0 gc10,(some 17),none,[]⟩])
         (afts:=nn 18) (js:=[0,0]) mixed (.cons rfl (.cons rfl (.cons rfl (.cons rfl .nil)))) (fun _=>rfl)
         (by
      refine db 1 0<|dS 2 (fun γ ρ B hb hd=>Zae lb (tl hd 0 49) (fun e v h=>by subst h; rfl))<|dS 3 (fun γ ρ B hb hd=>Zad (off:=0) lb Za6 (tl hd 1 50))<|dR 4 (fun γ ρ B hb hd=>Zag.lk ⟨ρ,(cvar gb7 (zq10 go9 x8 gc10) ((),(qc3,(x24,(x25,(x26,()))))))::B,_⟩ (Zal (j:=0) lb tS46 (tl hd 2 51) rfl (Comp.trans (Comp.self (zq10 go9 x8 gc10) ((),(qc3,(x24,(x25,(x26,())))))) (Comp.at' (Comp.inF (Comp.self (rW (HDR go9 0 (List.length x8) gc10)) ()) (lE rfl)) (by rfl : _ = 0)) (lE rfl))))<|db 5 7 ?_
      refine db 6 0<|dS 7 (fun γ ρ B hb hd=>Zae lb (tl hd 5 54) (fun e v h=>by subst h; rfl))<|dS 8 (fun γ ρ B hb hd=>Zad (off:=0) lb Za6 (tl hd 6 55))<|dR 9 (fun γ ρ B hb hd=>Zag.lk ⟨ρ,(cvar gb7 (zq10 go9 x8 gc10) ((),(qc3,(x24,(x25,(x26,()))))))::B,_⟩ (Zal (j:=0) lb tS46 (tl hd 7 56) rfl (Comp.trans (Comp.self (zq10 go9 x8 gc10) ((),(qc3,(x24,(x25,(x26,())))))) (Comp.at' (Comp.inF (Comp.self (rW (HDR go9 0 (List.length x8) gc10)) ()) (lE rfl)) (by rfl : _ = 0)) (lE rfl))))<|db 10 7 ?_
      refine dR 11 (fun γ ρ B hb hd=>Zag.lk ⟨ρ,(cown go9 Zab x8 0 gc10)::B,_⟩ (Zap (r:=Zab) (j:=0) lb tu46 tz84 rfl (tl hd 8 57) (tl hd 9 58) hv_i_27))<|dS 12 (fun γ ρ B hb hd=>ZaB (off:=1) lb Zdn (tl hd 10 59))<|dR 13 (fun γ ρ B hb hd=>Zag.lk ⟨ρ,(cown go9 Zab x8 0 gc10)::B,_⟩ (Zbf (r:=Zab) (i:=i27) (off:=1) (j:=0) lb tS31 rfl rfl (tl hd 11 60) hv_u_28 (Comp.at' (cT (Za5 u28) rfl) rfl) (by decide)))<|db 14 2<|dS 15 (fun γ ρ B hb hd=>ZcJ lb tu31 tz5 (tl hd 12 61) .none (.some (tl hd 13 62)) hv29) ?_
      refine dR 16 (fun γ ρ B hb hd=>Zag.lk ⟨ρ,(cown go9 Zab x8 0 gc10)::B,_⟩ (Zap (r:=Zab) (j:=0) lb tu46 tz84 rfl (tl hd 3 52) (tl hd 4 53) hv_i_30))<|dS 17 (fun γ ρ B hb hd=>ZaB (off:=1) lb Zdn (tl hd 15 64))<|dR 18 (fun γ ρ B hb hd=>Zag.at ⟨ρ,(cown go9 Zab x8 0 gc10)::B,_⟩ (setO ⟨ρ,(cown go9 Zab x31 0 gc10)::B,_⟩ _ _) (Zel (r:=Zab) (i:=i30) (off:=1) (j:=0) tS31 rfl rfl (tl hd 16 65) (tl hd 14 63) (fun u=>(Upd.trans (Comp.self Zab u) (Upd.self Zab u _) (ZdB u v29))) hv_x_31)) ?_
      exact Zat.nil)
         (by decide +kernel) (fun _=>rfl) (fun _=>rfl) (fun _=>rfl) rfl
         (ρ':=fun γ=>[(0,ov (PTR gb7 0)),(2,ov (S (rI .i64) a2)),(7,ov (S (rI .i64) v11)),(9,ov (S rB v22))])
         (X':=fun γ=>[cvar gb7 (zq10 go9 x8 gc10) ((),(qc3,(x24,(x25,(x26,()))))),cown go9 Zab x31 0 gc10])
         (fun γ ρ hb hd=>(.cons (hb 0 _ rfl) (.cons (hb 2 _ rfl) (.cons (hb 7 _ rfl) (.cons (hb 9 _ rfl) .nil))))) (fun _=>rfl) (fun γ=>?_)
     refine JQ.at ⟨[(0,ov (PTR gb7 0)),(2,ov (S (rI .i64) a2)),(7,ov (S (rI .i64) v11)),(9,ov (S rB v22))],[cvar gb7 (zq10 go9 x8 gc10) ((),(qc3,(x24,(x25,(x26,()))))),cown go9 Zab x31 0 gc10],[]⟩<|JQ.pre (Imp.var (j:=0) (q:=(zq10 go9 x31 gc10)) (y:=((),(qc3,(x24,(x25,(x26,())))))) rfl (Wk.pair (Wk.w (fun e v h=>ZgA (Ze8 hv_x_31) e v (h))) (Wk.pair Wk.refl (Wk.pair Wk.refl (Wk.pair Wk.refl (Wk.pair Wk.refl Wk.refl)))))) ?_
     refine JQ.then<|jr<|jmv rfl rfl<|jc (Zae lb tR (fun e v h=>by subst h; rfl))<|jc (Zad (off:=0) lb Za6 tR)<|jc (Zal (j:=0) lb tS46 tR rfl (Comp.trans (Comp.self (zq10 go9 x31 gc10) ((),(qc3,(x24,(x25,(x26,())))))) (Comp.at' (Comp.inF (Comp.self (rW (HDR go9 0 (List.length x31) gc10)) ()) (lE rfl)) (by rfl : _ = 0)) (lE rfl)))<|jmv rfl rfl<|bI hx18 fun i32 hv_i_32 hx18=>jc (Zap (r:=Zab) (j:=1) lb tu46 tz84 rfl tR tR hv_i_32)<|jc (ZaB (off:=2) lb ZeQ tR)<|bI hx18 fun u33 hv_u_33 hx18=>jc (Zbf (r:=Zab) (i:=i32) (off:=2) (j:=1) lb tS3 rfl rfl tR hv_u_33 (Comp.at' (cT (ZbD u33) rfl) rfl) (by decide))<|jmv rfl rfl<|lI hx18 fun v34 hv34 hx18=>jc (Zan lb tR tR (cs hv34))<|jn<|jif tR hx18 (fun hc20 hx18=>?_) (fun hc20 hx18=>?_)
     · refine JC.region<|jmv rfl rfl<|jc (Zae lb tR (fun e v h=>by subst h; rfl))<|JL.sub ⟨[(2,ov (S (rI .i64) a2)),(7,ov (S (rI .i64) v11)),(9,ov (S rB v22)),(77,ov (PTR gb7 0))],[cvar gb7 (zq10 go9 x31 gc10) ((),(qc3,(x24,(x25,(x26,()))))),cown go9 Zab x31 0 gc10],[]⟩ (.cons rfl (.cons rfl (.cons rfl (.cons rfl .nil)))) rfl rfl<|jc (Zad (off:=0) lb Za6 tR)<|jc (Zal (j:=0) lb tS46 tR rfl (Comp.trans (Comp.self (zq10 go9 x31 gc10) ((),(qc3,(x24,(x25,(x26,())))))) (Comp.at' (Comp.inF (Comp.self (rW (HDR go9 0 (List.length x31) gc10)) ()) (lE rfl)) (by rfl : _ = 0)) (lE rfl)))<|jmv rfl rfl<|jmv rfl rfl<|bI hx18 fun i35 hv_i_35 hx18=>jc (Zap (r:=Zab) (j:=1) lb tu46 tz84 rfl tR tR hv_i_35)<|jc (ZaB (off:=2) lb ZeQ tR)<|bI hx18 fun x36 hv_x_36 hx18=>jc (Zel (r:=Zab) (i:=i35) (off:=2) (j:=1) tS3 rfl rfl tR tR (fun u=>(Upd.trans (Comp.self Zab u) (Upd.self Zab u _) (ZcQ u a2))) hv_x_36)<|JL.pre (Imp.slot (s:=79) (q:=HDR go9 0 (List.length x36) gc10) rfl (ZgA (Ze8 hv_x_36)))<|JL.pre (Imp.var (j:=0) (q:=(zq10 go9 x36 gc10)) (y:=((),(qc3,(x24,(x25,(x26,())))))) rfl (Wk.pair (Wk.len (Ze8 hv_x_36)) (Wk.pair Wk.refl (Wk.pair Wk.refl (Wk.pair Wk.refl (Wk.pair Wk.refl Wk.refl)))))) ?_
       refine JL.nil ?_
       try obtain rfl:=so hx18
       exact JQ.join () (Imp.norm (js:=[0,0]) rfl (.cons rfl .nil))
     refine JC.skip ?_
     try obtain rfl:=so hx18
     exact JQ.join () (Imp.norm (js:=[0,0]) rfl (.cons rfl .nil))
   refine JC.skip ?_
   try obtain rfl:=so hx18
   exact JQ.join () (Imp.norm (js:=[0,0]) rfl (.cons rfl .nil))
 refine JC.region<|jmv rfl rfl<|JL.sub ⟨[(0,ov (PTR gb7 0)),(2,ov (S (rI .i64) a2)),(7,ov (S (rI .i64) v11)),(8,ov (S (rI .i64) v12)),(17,ov (S (rI .i64) v12))],[zq16 gb7 go9 x8 gc10 qc3 ql4 qj5 qe6,cown go9 Zab x8 0 gc10],[]⟩ (.cons rfl (.cons rfl (.cons rfl (.cons rfl (.cons rfl .nil))))) rfl rfl<|lI hx1 fun v13 hv13 hx1=>jc (Zan lb tR .cI (cs hv13))<|jmv rfl rfl<|jF (ov (S (rI .i64) a2)) rfl rfl rfl rfl (fun hq2=>Zai lb tR)<|lI hx1 fun v14 hv14 hx1=>jF (ov (S rB v14)) rfl rfl rfl rfl (fun hq3=>Zan lb (HasO.cnd tR (notT (notF hq3))) .cI (cs hv14))<|lI hx1 fun v15 hv15 hx1=>jc (Za8 lb tR (fun hb4=>.cB) (fun hb4=>(HasO.cnd tR (notT hb4))) hv15)<|jmv rfl rfl ?_
 refine jF (ov (S (rI .i64) v12)) rfl rfl rfl rfl (fun hq5=>Zai lb tR)<|lI hx1 fun v16 hv16 hx1=>jF (ov (S rB v16)) rfl rfl rfl rfl (fun hq6=>Zan lb (HasO.cnd tR (notT (notF hq6))) .cI (cs hv16))<|jF (ov (S rB v16)) rfl rfl rfl rfl (fun hq7=>Zai lb (HasO.cnd tR (notT (notF hq7))))<|JL.cnd (sv:=ov (S (rI .i64) a2)) (ZaY.cT (q:=(!v15)) (ltB rfl) rfl rfl) rfl (ltB rfl) (fun hq8=>Zai lb tR)<|JL.cnd (sv:=ov (PTR gb7 0)) (ZaY.cT (q:=(!v15)) (ltB rfl) rfl rfl) rfl (ltB rfl) (fun hq9=>Zai lb tR)<|JL.cnd (sv:=ov (PTR gb7 0)) (ZaY.cT (q:=(!v15)) (ltB rfl) rfl rfl) rfl (ltB rfl) (fun hq10=>Zae lb (HasO.cnd tR (andI (notT (notF (andL hq10))) (andR hq10))) (fun e v h=>by subst h; rfl))<|JL.sub ⟨[(0,ov (PTR gb7 0)),(2,ov (S (rI .i64) a2)),(7,ov (S (rI .i64) v11)),(8,ov (S (rI .i64) v12)),(23,ov (S rB v15)),(26,bif (!v15) then ov (S rB v16) else .one .und),(27,bif ((!v15) && v16) then ov (S (rI .i64) a2) else .one .und),(29,bif ((!v15) && v16) then ov (PTR gb7 0) else .one .und)],[zq16 gb7 go9 x8 gc10 qc3 ql4 qj5 qe6,cown go9 Zab x8 0 gc10],[]⟩ (.cons rfl (.cons rfl (.cons rfl (.cons rfl (.cons rfl (.cons rfl (.cons rfl (.cons rfl .nil)))))))) rfl rfl<|JL.cnd (sv:=ov (PTR gb7 (0 + 0))) (ZaY.cT (q:=(!v15)) (ltB rfl) rfl rfl) rfl (ltB rfl) (fun hq11=>Zad (off:=0) lb Za6 (HasO.cnd tR (andI (notT (notF (andL hq11))) (andR hq11)))) ?_
 rcases Zbc hx1 with ⟨hc13,hx1⟩ | ⟨hc13,hx1⟩
 · refine JL.sk ((ZaY.eqB (ZaY.cT (q:=(!v15)) (ltB rfl) rfl rfl) (Zga (Zgc hc13))))<|JL.sk ((ZaY.eqB (ZaY.cT (q:=(!v15)) (ltB rfl) rfl rfl) (Zga (Zgc hc13))))<|JL.sk ((ZaY.eqB (ZaY.cT (q:=(!v15)) (ltB rfl) rfl rfl) (Zga (Zgc hc13))))<|JL.sk ((ZaY.eqB (ZaY.cT (q:=(!v15)) (ltB rfl) rfl rfl) (Zga (Zgc hc13))))<|JL.sk ((ZaY.eqB (ZaY.cT (q:=(!v15)) (ltB rfl) rfl rfl) (Zga (Zgc hc13))))<|JL.sk ((ZaY.eqB (ZaY.cT (q:=(!v15)) (ltB rfl) rfl rfl) (Zga (Zgc hc13))))<|JL.sk ((ZaY.eqB (ZaY.cT (q:=(!v15)) (ltB rfl) rfl rfl) (Zga (Zgc hc13))))<|jk rfl hc13<|jc (Zaw lb tR hc13 .cB)<|JL.nil ?_
   try obtain rfl:=so hx1
   exact JQ.join () (Imp.norm (js:=[0,0]) rfl (.cons rfl (.cons rfl (.cons rfl (.cons rfl (.cons rfl .nil))))))
 rcases Zbc hx1 with ⟨hc15,hx1⟩ | ⟨hc15,hx1⟩
 · refine JL.run ((ZaY.eqB (ZaY.cT (q:=(!v15)) (ltB rfl) rfl rfl) (andI (notT hc13) hc15))) (Zal (j:=0) lb tS46 (HasO.cnd tR (andI (notT hc13) hc15)) rfl (Comp.trans (Comp.self (zq10 go9 x8 gc10) ((),(qc3,(ql4,(qj5,(qe6,())))))) (Comp.at' (Comp.inF (Comp.self (rW (HDR go9 0 (List.length x8) gc10)) ()) (lE rfl)) (by rfl : _ = 0)) (lE rfl)))<|JL.run ((ZaY.eqB (ZaY.cT (q:=(!v15)) (ltB rfl) rfl rfl) (andI (notT hc13) hc15))) (Zai lb tR)<|bI hx1 fun i17 hv_i_17 hx1=>JL.run ((ZaY.eqB (ZaY.cT (q:=(!v15)) (ltB rfl) rfl rfl) (andI (notT hc13) hc15))) (Zap (r:=Zab) (j:=1) lb tu46 tz84 rfl tR tR hv_i_17)<|JL.run ((ZaY.eqB (ZaY.cT (q:=(!v15)) (ltB rfl) rfl rfl) (andI (notT hc13) hc15))) (ZaB (off:=1) lb Zdn tR)<|bI hx1 fun u18 hv_u_18 hx1=>JL.run ((ZaY.eqB (ZaY.cT (q:=(!v15)) (ltB rfl) rfl rfl) (andI (notT hc13) hc15))) (Zbf (r:=Zab) (i:=i17) (off:=1) (j:=1) lb tS31 rfl rfl tR hv_u_18 (Comp.at' (cT (Za5 u18) rfl) rfl) (by decide))<|JL.run ((ZaY.eqB (ZaY.cT (q:=(!v15)) (ltB rfl) rfl rfl) (andI (notT hc13) hc15))) (Zcc lb tu31 tR) ?_
   obtain ⟨v19,hv19,hx1⟩:=Za2 hx1
   refine JL.run ((ZaY.eqB (ZaY.cT (q:=(!v15)) (ltB rfl) rfl rfl) (andI (notT hc13) hc15))) (Zan lb (HasO.cnd tR (andI (notT hc13) hc15)) tR (cs hv19))<|JL.run (.yes rfl (ltB rfl) rfl hc13) (Zaw lb (HasO.cnd tR (notT hc13)) hc15 tR)<|jc (Zar lb tR hc13 tR)<|JL.nil ?_
   try obtain rfl:=so hx1
   exact JQ.join () (Imp.norm (js:=[0,0]) rfl (.cons rfl (.cons rfl (.cons rfl (.cons rfl (.cons rfl .nil))))))
 refine JL.sk ((ZaY.eqB (ZaY.cT (q:=(!v15)) (ltB rfl) rfl rfl) (Zf7 hc15)))<|JL.sk ((ZaY.eqB (ZaY.cT (q:=(!v15)) (ltB rfl) rfl rfl) (Zf7 hc15)))<|JL.sk ((ZaY.eqB (ZaY.cT (q:=(!v15)) (ltB rfl) rfl rfl) (Zf7 hc15)))<|JL.sk ((ZaY.eqB (ZaY.cT (q:=(!v15)) (ltB rfl) rfl rfl) (Zf7 hc15)))<|JL.sk ((ZaY.eqB (ZaY.cT (q:=(!v15)) (ltB rfl) rfl rfl) (Zf7 hc15)))<|JL.sk ((ZaY.eqB (ZaY.cT (q:=(!v15)) (ltB rfl) rfl rfl) (Zf7 hc15)))<|JL.sk ((ZaY.eqB (ZaY.cT (q:=(!v15)) (ltB rfl) rfl rfl) (Zf7 hc15)))<|JL.run (.yes rfl (ltB rfl) rfl hc13) (Zar lb (HasO.cnd tR (notT hc13)) hc15 .cB)<|jc (Zar lb tR hc13 tR)<|JL.nil ?_
 try obtain rfl:=so hx1
 exact JQ.join () (Imp.norm (js:=[0,0]) rfl (.cons rfl (.cons rfl (.cons rfl (.cons rfl (.cons rfl .nil))))))

theorem Zb1 (k : Nat) (i1 : Int) (qc2 : Int) (ql3 : Int) (qj4 : Bool) (qe5 : Int) (x7 : (List Zah)) (gb6 : Nat) (go8 : Option Nat) (gc9 : Nat) (r : (List Zah)) (hm : Zbl k i1 qc2 ql3 qj4 qe5 x7 = some r) : Sim Try.prog 65 [PTR gb6 0,S (rI .i64) i1] [zq16 gb6 go8 x7 gc9 qc2 ql3 qj4 qe5,cown go8 Zab x7 0 gc9] (γ:=Option Nat × Nat) (fun q=>[cvar gb6 (rP (rW (HDR q.1 0 (List.length r) q.2)) (rP (rI .i64) (rP (rI .i64) (rP rB (rP (rI .i64) r0))))) ((),(qc2,(ql3,(qj4,(qe5,()))))),cown q.1 Zab r 0 q.2,cown go8 Zab x7 (List.length x7) gc9]) (fun q=>.tup []):=by
 unfold Zbl at hm
 refine Sim.of Try.func65 rfl rfl (lE rfl) (fun e0 w0=>?_)
 refine JC.at ⟨[(0,ov (PTR gb6 0)),(1,ov (S (rI .i64) i1))],[zq16 gb6 go8 x7 gc9 qc2 ql3 qj4 qe5,cown go8 Zab x7 0 gc9],[]⟩<|JC.pre (Imp.frz (j:=1) rfl (ImpK.var (j:=0) (q:=(zq15 go8 x7 gc9)) (y:=((),(qc2,(ql3,(qj4,(qe5,())))))) rfl (Wk.pair Wk.own (Wk.pair Wk.refl (Wk.pair Wk.refl (Wk.pair Wk.refl (Wk.pair Wk.refl Wk.refl))))) ImpK.refl))<|bI hm fun v10 hv10 hm=>bI hm fun v11 hv11 hm=>lI hm fun v14 hv14 hm=>bI hm fun v15 hv15 hm=>?_
 obtain ⟨x16,hv_x_16,hm⟩:=Zas hm
 refine JC.anyF (base:=[(0,ov (PTR gb6 0)),(1,ov (S (rI .i64) i1))])
     (fs:=fun γ=>[⟨some 4,ov (PTR gb6 0)⟩,⟨some 5,ov (PTR gb6 0)⟩,⟨some 6,ov (PTR gb6 0)⟩,⟨some 7,ov (PTR gb6 (0 + 0))⟩,⟨some 8,ov (HL go8 Zab x7 gc9)⟩,⟨some 9,ov (S (rI .i64) i1)⟩,⟨some 10,ov (S (rL Zab) v10)⟩,⟨some 11,ov (HDR (deo (γ 7 0)) 0 (List.length v11) (γ 7 1))⟩,⟨some 12,ov (PTR gb6 0)⟩,⟨some 13,ov (PTR gb6 0)⟩,⟨some 14,ov (PTR gb6 (0 + 0))⟩,⟨some 15,ov (HL go8 Zab x7 gc9)⟩,⟨some 16,ov (S (rI .i64) i1)⟩,⟨some 17,ov (S (rI .i64) v14)⟩,⟨some 18,ov (S (rL Zab) v15)⟩,⟨some 19,ov (HDR (deo (γ 15 0)) 0 (List.length x16) (γ 15 1))⟩,⟨some 20,ov (PTR gb6 0)⟩,⟨some 21,ov (PTR gb6 (0 + 0))⟩,⟨none,.one .any⟩])
     (rs:=fun γ=>[⟨zq18 gb6 go8 x7 gc9 qc2 ql3 qj4 qe5,none,(some 18),[4,11]⟩,⟨cown go8 Zab x7 (List.length x7) gc9,none,none,[]⟩,⟨cown (deo (γ 7 0)) Zab v11 0 (γ 7 1),(some 7),(some 15),[]⟩,⟨cown (deo (γ 15 0)) Zab x16 0 (γ 15 1),(some 15),none,[]⟩,⟨zq16 gb6 (deo (γ 15 0)) x16 (γ 15 1) qc2 ql3 qj4 qe5,(some 18),none,[]⟩])
     (afts:=[[],[],[],[],[],[],[],[7,15,16,17,18],[],[],[],[],[],[],[],[15,16,17,18],[],[],[]]) (js:=[0,0]) mixed (.cons rfl (.cons rfl .nil)) (fun _=>rfl)
     (by
      refine db 1 0<|db 2 0<|dS 3 (fun γ ρ B hb hd=>Zae lb (tl hd 1 5) (fun e v h=>by subst h; rfl))<|dS 4 (fun γ ρ B hb hd=>Zad (off:=0) lb Za6 (tl hd 2 6))<|dR 5 (fun γ ρ B hb hd=>Zag.lk ⟨ρ,(zq18 gb6 go8 x7 gc9 qc2 ql3 qj4 qe5)::B,_⟩ (Zal (j:=0) lb tS46 (tl hd 3 7) rfl (Comp.trans (Comp.self (zq15 go8 x7 gc9) ((),(qc2,(ql3,(qj4,(qe5,())))))) (Comp.at' (Comp.inF (Comp.self (rW (HL go8 Zab x7 gc9)) ()) (lE rfl)) (by rfl : _ = 0)) (lE rfl)))) ?_
      refine db 6 1<|dS 7 (fun γ ρ B hb hd=>ZcJ lb tu46 tz84 (HasO.wk (tl hd 4 8) wkHL) .none (.some (tl hd 5 9)) hv10)<|Zat.cons (j:=8) rfl (fun _=>rfl) (.runX (fun _ _=>rfl) (fun γ ρ B hb hd=>⟨.none,OpX.ghost (γ:=Option Nat × Nat) (st':=fun q=>setO ⟨ρ,(cown q.1 Zab v11 0 q.2)::B,_⟩ (some 11) (ov (HDR q.1 0 (List.length v11) q.2))) (fun q c=>bif Nat.beq c 0 then eno q.1 else q.2) (OpX.front (ZeN (r:=Zab) lb tu46 tu46 rfl tB84 rfl (Nat.lt_of_lt_of_le Nat.zero_lt_one (lE rfl)) (Nat.lt_of_lt_of_le Nat.zero_lt_one (lE rfl)) HasO.nilH (fun _ _ _ h=>Src.list h (tl hd 6 10)) (Zek hv11))) (fun q=>by obtain ⟨q0,q1⟩:=q; cases q0 <;> exact Imp.refl)⟩) (fun _ _=>rfl) (fun _ _=>rfl)) ?_
      refine db 9 0<|dS 10 (fun γ ρ B hb hd=>Zae lb (tl hd 8 12) (fun e v h=>by subst h; rfl))<|dS 11 (fun γ ρ B hb hd=>Zad (off:=0) lb Za6 (tl hd 9 13))<|dR 12 (fun γ ρ B hb hd=>Zag.lk ⟨ρ,(zq18 gb6 go8 x7 gc9 qc2 ql3 qj4 qe5)::B,_⟩ (Zal (j:=0) lb tS46 (tl hd 10 14) rfl (Comp.trans (Comp.self (zq15 go8 x7 gc9) ((),(qc2,(ql3,(qj4,(qe5,())))))) (Comp.at' (Comp.inF (Comp.self (rW (HL go8 Zab x7 gc9)) ()) (lE rfl)) (by rfl : _ = 0)) (lE rfl))))<|db 13 1 ?_
      refine dS 14 (fun γ ρ B hb hd=>Zbx lb (tl hd 12 16) .cI (cs hv14))<|dS 15 (fun γ ρ B hb hd=>ZcJ lb tu46 tz84 (HasO.wk (tl hd 11 15) wkHL) (.some (tl hd 13 17)) .none hv15) ?_
      refine Zat.cons (j:=16) rfl (fun _=>rfl) (.runX (fun _ _=>rfl) (fun γ ρ B hb hd=>⟨.none,OpX.ghost (γ:=Option Nat × Nat) (st':=fun q=>setO ⟨ρ,(cown q.1 Zab x16 0 q.2)::B,_⟩ (some 19) (ov (HDR q.1 0 (List.length x16) q.2))) (fun q c=>bif Nat.beq c 0 then eno q.1 else q.2) (Zcg (j:=0) lb tu46 tu46 rfl tB84 rfl (Nat.lt_of_lt_of_le Nat.zero_lt_one (lE rfl)) (Nat.lt_of_lt_of_le Nat.zero_lt_one (lE rfl))  rfl (tl hd 7 11) (tl hd 14 18) hv_x_16) (fun q=>by obtain ⟨q0,q1⟩:=q; cases q0 <;> exact Imp.refl)⟩) (fun _ _=>rfl) (fun _ _=>rfl)) ?_
      refine dS 17 (fun γ ρ B hb hd=>Zae lb (tl hd 0 4) (fun e v h=>by subst h; rfl))<|dS 18 (fun γ ρ B hb hd=>Zad (off:=0) lb Za6 (tl hd 16 20))<|dR 19 (fun γ ρ B hb hd=>Zag.at ⟨ρ,(zq18 gb6 go8 x7 gc9 qc2 ql3 qj4 qe5)::B,_⟩ (setO ⟨ρ,(zq16 gb6 (deo (γ 15 0)) x16 (γ 15 1) qc2 ql3 qj4 qe5)::B,_⟩ _ _) (Zb4 (j:=0) tS46 (tl hd 17 21) (tl hd 15 19) rfl ((UpdR.fst (UpdR.self (by rfl))).at (by change 0 = (0 + 0); omega)) rfl)) ?_
      exact Zat.nil)
     (by decide +kernel) (fun _=>rfl) (fun _=>rfl) (fun _=>rfl) rfl
     (ρ':=fun γ=>[])
     (X':=fun γ=>[cown go8 Zab x7 (List.length x7) gc9,cown (deo (γ 15 0)) Zab x16 0 (γ 15 1),zq16 gb6 (deo (γ 15 0)) x16 (γ 15 1) qc2 ql3 qj4 qe5])
     (fun γ ρ hb hd=>.nil) (fun _=>rfl) (fun γ=>?_)
 generalize (deo (γ 7 0)) = go12
 generalize (γ 7 1) = gc13
 generalize (deo (γ 15 0)) = go17
 generalize (γ 15 1) = gc18
 clear γ
 refine JQ.at ⟨[],[cown go8 Zab x7 (List.length x7) gc9,cown go17 Zab x16 0 gc18,zq16 gb6 go17 x16 gc18 qc2 ql3 qj4 qe5],[]⟩ ?_
 obtain rfl:=so hm
 refine JQ.pre (Imp.var (j:=2) (q:=(zq10 go17 x16 gc18)) (y:=((),(qc2,(ql3,(qj4,(qe5,())))))) rfl Wk.refl) ?_
 exact JQ.done (js:=[2,1,0]) (ss:=[]) (go17,gc18) (.inr rfl) (.nil rfl) rfl .nil rfl rfl rfl

theorem ZeG (k : Nat) (a1 : (List UInt8)) (b2 : (List UInt8)) (r : Bool) (hm : Zdo k a1 b2 = some r) : Sim Try.prog 51 [S (rL (rU UInt8)) a1,S (rL (rU UInt8)) b2] [] (γ:=Unit) (fun q=>[]) (fun q=>.one (.val (S rB r))):=by
 unfold Zdo at hm
 refine Sim.of Try.func51 rfl rfl (lE rfl) (fun e0 w0=>?_)
 refine JC.at ⟨[(0,ov (S (rL (rU UInt8)) a1)),(1,ov (S (rL (rU UInt8)) b2))],[],[]⟩<|jr<|jc (Zac lb .cB)<|jn<|jr<|jmv rfl rfl<|jc (Zdb lb tu31 tu5 tu9 tR)<|jmv rfl rfl<|jc (Zdb lb tu31 tu5 tu9 tR)<|lI hm fun v3 hv3 hm=>jc (ZcP lb tR tR (cs hv3))<|jc (Zac lb tR)<|jn<|JC.ret ?_
 obtain rfl:=so hm
 exact jd (.val (S rB v3)) rfl rfl rfl rfl rfl rfl

end Go.Proofs.Ytipchpbcjkhnaaa
