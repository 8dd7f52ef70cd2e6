/- Walks. -/
import Derived.Test.YtipchpbcjkhnaaaT
import Derived.Test.YtipchpbcjkhnaaaW10
import Derived.Test.YtipchpbcjkhnaaaW4
import Derived.Test.YtipchpbcjkhnaaaW8
import Derived.Test.YtipchpbcjkhnaaaW9
namespace Go.Proofs.Ytipchpbcjkhnaaa
open Go Fw
set_option linter.unusedVariables false
set_option maxRecDepth 100000
set_option maxHeartbeats 4000000

theorem Zdk (k : Nat) (a1 : (List UInt8)) (a2 : (List UInt8)) (qc3 : Int) (ql4 : Int) (qj5 : Bool) (qe6 : Int) (x8 : (List Zah)) (gb7 : Nat) (go9 : Option Nat) (gc10 : Nat) (r : Int × (List Zah) × Int × Bool × Int) (hm : Zay k a1 a2 qc3 ql4 qj5 qe6 x8 = some r) : Sim Try.prog 44 [PTR gb7 0,S rS a1,S (rL (rU UInt8)) a2] [zq16 gb7 go9 x8 gc10 qc3 ql4 qj5 qe6,cown go9 Zab x8 0 gc10] (γ:=Option Nat × Nat) (fun q=>[cvar gb7 (rP (rW (HDR q.1 0 (List.length r.2.1) q.2)) (rP (rI .i64) (rP (rI .i64) (rP rB (rP (rI .i64) r0))))) ((),(qc3,(r.2.2.1,(r.2.2.2.1,(r.2.2.2.2,()))))),cown q.1 Zab r.2.1 0 q.2]) (fun q=>.one (.val (S (rI .i64) r.1))):=by
 unfold Zay at hm
 refine Sim.of Try.func44 rfl rfl (lE rfl) (fun e0 w0=>?_)
 refine JC.at ⟨[(0,ov (PTR gb7 0)),(1,ov (S rS a1)),(2,ov (S (rL (rU UInt8)) a2))],[zq16 gb7 go9 x8 gc10 qc3 ql4 qj5 qe6,cown go9 Zab x8 0 gc10],[]⟩<|jr<|jc (Zac lb .cI)<|jn<|JC.seq<|jr<|jmv rfl rfl<|bI hm fun v11 hv11 hm=>jx (Zak (js:=[]) ld cl23 (Zco k a1 v11 hv11) .func (.cons tR .nil) rfl) fun _=>lI hm fun v12 hv12 hm=>jc (Zce lb tR hv12)<|jn<|jif tR hm (fun hc1 hm=>?_) (fun hc1 hm=>?_)
 · refine jr<|jc (Zac lb .cI)<|jn<|JC.ret<|JQ.outR ?_
   obtain rfl:=so hm
   refine JQ.pre (Imp.var (j:=0) (q:=(zq10 go9 x8 gc10)) (y:=((),(qc3,(ql4,(qj5,(qe6,())))))) rfl Wk.refl) ?_
   exact JQ.done (js:=[0,0]) (ss:=[.val (S (rI .i64) (2 : Int))]) (go9,gc10) (.inl rfl) (.nil rfl) rfl (.cons (.tmp rfl) .nil) rfl rfl rfl
 refine JC.skip<|JQ.then<|jr<|jmv rfl rfl<|jmv rfl rfl ?_
 obtain ⟨⟨v13,v14⟩,hv13,hm⟩:=Zas hm
 refine jx (Zak (js:=[0,0]) ld cl62 (Zcb k a1 qc3 ql4 qj5 qe6 x8 gb7 go9 gc10 (v13,v14) hv13) .func (.cons tR (.cons tR .nil)) rfl) fun _=>jmv rfl rfl<|jc (Zao (i:=0) lb tR rfl)<|jc (Zao (i:=1) lb tR rfl)<|JL.sub ⟨[(0,ov (PTR gb7 0)),(1,ov (S rS a1)),(2,ov (S (rL (rU UInt8)) a2)),(18,ov (S (rI .i64) v13)),(19,ov (S rB v14))],[zq16 gb7 go9 x8 gc10 qc3 ql4 qj5 qe6,cown go9 Zab x8 0 gc10],[]⟩ (.cons rfl (.cons rfl (.cons rfl (.cons rfl (.cons rfl .nil))))) rfl rfl<|jc (Zac lb tR)<|jc (Zac lb tR)<|jn<|JC.seq<|bI hm fun x19 hx2 hq2=>JC.seqJ (γ:=Unit) (stj:=fun _=>⟨[(0,ov (PTR gb7 0)),(1,ov (S rS a1)),(2,ov (S (rL (rU UInt8)) a2)),(7,ov (S (rI .i64) v13)),(8,ov (S rB v14)),(36,ov (S rB x19))],[zq16 gb7 go9 x8 gc10 qc3 ql4 qj5 qe6,cown go9 Zab x8 0 gc10],[]⟩) (fun _=>?_) ?_
 · refine jif tR hq2 (fun hc13 hq2=>?_) (fun hc13 hq2=>?_)
   · refine jr<|jc (Zac lb .cI)<|jn<|JC.ret<|JQ.outR ?_
     obtain rfl:=so hq2
     exact JQ.done (js:=[0,0]) (ss:=[.val (S (rI .i64) (5 : Int))]) (go9,gc10) (.inl rfl) (.nil rfl) rfl (.cons (.tmp rfl) .nil) rfl rfl rfl
   refine JC.skip<|JQ.then<|jr<|jmv rfl rfl ?_
   obtain ⟨⟨v20,v21,x22,x23,x24⟩,hv20,hq2⟩:=Zas hq2
   refine jx (Zak (js:=[0,0]) ld cl63 (Zbs k qc3 ql4 qj5 qe6 x8 gb7 go9 gc10 (v20,v21,x22,x23,x24) hv20) .func (.cons tR .nil) rfl) fun _=>jmv rfl rfl<|jc (Zao (i:=0) lb tR rfl)<|jc (Zao (i:=1) lb tR rfl)<|jc (Zac lb tR)<|jc (Zac lb tR)<|jn<|bI hq2 fun x52 hx14 hq14=>JC.seqJ (γ:=Option Nat × Nat) (stj:=fun q=>⟨[(9,ov (S rB v20))],[cvar gb7 (rP (rW (HDR q.1 0 (List.length x52) q.2)) (rP (rI .i64) (rP (rI .i64) (rP rB (rP (rI .i64) r0))))) ((),(qc3,(x22,(x23,(x24,()))))),cown q.1 Zab x52 0 q.2],[]⟩) (fun q=>?_) ?_
   · obtain ⟨go53,gc54⟩:=q
     refine JC.at ⟨[(9,ov (S rB v20))],[zq16 gb7 go53 x52 gc54 qc3 x22 x23 x24,cown go53 Zab x52 0 gc54],[]⟩<|jr<|jmv rfl rfl<|bI hq14 fun v55 hv55 hq14=>jx (Zak (js:=[]) ld cl64 (ZcS k v20 v55 hv55) .func (.cons tR .nil) rfl) fun _=>jc (Zac lb tR)<|jn<|JC.ret ?_
     obtain rfl:=so hq14
     exact JQ.done (js:=[0,0]) (ss:=[.val (S (rI .i64) v55)]) (go53,gc54) (.inl rfl) (.nil rfl) rfl (.cons (.tmp rfl) .nil) rfl rfl rfl
   refine bI hx14 fun x26 hx15 hq15=>JC.seqJ (γ:=Unit) (stj:=fun _=>⟨[(0,ov (PTR gb7 0)),(1,ov (S rS a1)),(2,ov (S (rL (rU UInt8)) a2)),(7,ov (S (rI .i64) v13)),(8,ov (S rB v14)),(9,ov (S rB v20)),(45,ov (S rB x26))],[cvar gb7 (zq10 go9 x8 gc10) ((),(qc3,(x22,(x23,(x24,()))))),cown go9 Zab x8 0 gc10],[]⟩) (fun _=>?_) ?_
   · refine jif tR hq15 (fun hc18 hq15=>?_) (fun hc18 hq15=>?_)
     · refine bI hq15 fun L39 hx19 hq19=>JC.seqJ (γ:=Option Nat × Nat) (stj:=fun q=>⟨[(0,ov (PTR gb7 0)),(2,ov (S (rL (rU UInt8)) a2)),(7,ov (S (rI .i64) v13)),(9,ov (S rB v20))],[cvar gb7 (rP (rW (HDR q.1 0 (List.length L39) q.2)) (rP (rI .i64) (rP (rI .i64) (rP rB (rP (rI .i64) r0))))) ((),(qc3,(x22,(x23,(x24,()))))),cown q.1 Zab L39 0 q.2],[]⟩) (fun q=>?_) ?_
       · obtain ⟨go40,gc41⟩:=q
         refine JC.at ⟨[(0,ov (PTR gb7 0)),(2,ov (S (rL (rU UInt8)) a2)),(7,ov (S (rI .i64) v13)),(9,ov (S rB v20))],[zq16 gb7 go40 L39 gc41 qc3 x22 x23 x24,cown go40 Zab L39 0 gc41],[]⟩<|bI hq19 fun i42 hv_i_42 hq19=>bI hq19 fun u43 hv_u_43 hq19=>bI hq19 fun v44 hv44 hq19=>bI hq19 fun x47 hv_x_47 hq19=>bI hq19 fun i50 hv_i_50 hq19=>?_
         obtain ⟨x51,hv_x_51,hq19⟩:=Zas hq19
         refine JC.anyF (base:=[(0,ov (PTR gb7 0)),(2,ov (S (rL (rU UInt8)) a2)),(7,ov (S (rI .i64) v13)),(9,ov (S rB v20))])
             (fs:=fun γ=>[⟨some 69,ov (PTR gb7 0)⟩,⟨some 70,ov (PTR gb7 0)⟩,⟨some 71,ov (PTR gb7 (0 + 0))⟩,⟨some 72,ov (HDR go40 0 (List.length L39) gc41)⟩,⟨some 73,ov (S (rI .i64) v13)⟩,⟨some 74,ov (PTR gb7 0)⟩,⟨some 75,ov (PTR gb7 0)⟩,⟨some 76,ov (PTR gb7 (0 + 0))⟩,⟨some 77,ov (HDR go40 0 (List.length L39) gc41)⟩,⟨some 78,ov (S (rI .i64) v13)⟩,⟨some 79,ov (EPT go40 (i42 * 3))⟩,⟨some 80,ov (EPT go40 ((i42 * 3) + 1))⟩,⟨some 81,ov (S (rL (rU UInt8)) u43.B)⟩,⟨some 82,ov (HDR (deo (γ 13 0)) 0 (List.length v44) (γ 13 1))⟩,⟨some 83,ov (S (rL (rU UInt8)) a2)⟩,⟨some 84,ov (S (rL (rU UInt8)) x47)⟩,⟨some 85,ov (EPT go40 (i50 * 3))⟩,⟨some 86,ov (EPT go40 ((i50 * 3) + 1))⟩,⟨none,.one .any⟩])
             (rs:=fun γ=>[⟨zq16 gb7 go40 L39 gc41 qc3 x22 x23 x24,none,none,[3,8]⟩,⟨cown go40 Zab L39 0 gc41,none,(some 18),[10,12,16]⟩,⟨cown (deo (γ 13 0)) (rU UInt8) v44 0 (γ 13 1),(some 13),(some 15),[]⟩,⟨cown go40 Zab x51 0 gc41,(some 18),none,[]⟩])
             (afts:=[[],[],[],[],[],[],[],[],[],[],[],[],[],[13,15,16,17,18],[],[],[],[],[]]) (js:=[0,0]) mixed (.cons rfl (.cons rfl (.cons rfl (.cons rfl .nil)))) (fun _=>rfl)
             (by
      refine db 1 0<|dS 2 (fun γ ρ B hb hd=>Zae lb (tl hd 0 69) (fun e v h=>by subst h; rfl))<|dS 3 (fun γ ρ B hb hd=>Zad (off:=0) lb Za6 (tl hd 1 70))<|dR 4 (fun γ ρ B hb hd=>Zag.lk ⟨ρ,(zq16 gb7 go40 L39 gc41 qc3 x22 x23 x24)::B,_⟩ (Zal (j:=0) lb tS46 (tl hd 2 71) rfl (Comp.trans (Comp.self (zq10 go40 L39 gc41) ((),(qc3,(x22,(x23,(x24,())))))) (Comp.at' (Comp.inF (Comp.self (rW (HDR go40 0 (List.length L39) gc41)) ()) (lE rfl)) (by rfl : _ = 0)) (lE rfl))))<|db 5 7 ?_
      refine db 6 0<|dS 7 (fun γ ρ B hb hd=>Zae lb (tl hd 5 74) (fun e v h=>by subst h; rfl))<|dS 8 (fun γ ρ B hb hd=>Zad (off:=0) lb Za6 (tl hd 6 75))<|dR 9 (fun γ ρ B hb hd=>Zag.lk ⟨ρ,(zq16 gb7 go40 L39 gc41 qc3 x22 x23 x24)::B,_⟩ (Zal (j:=0) lb tS46 (tl hd 7 76) rfl (Comp.trans (Comp.self (zq10 go40 L39 gc41) ((),(qc3,(x22,(x23,(x24,())))))) (Comp.at' (Comp.inF (Comp.self (rW (HDR go40 0 (List.length L39) gc41)) ()) (lE rfl)) (by rfl : _ = 0)) (lE rfl))))<|db 10 7 ?_
      refine dR 11 (fun γ ρ B hb hd=>Zag.lk ⟨ρ,(cown go40 Zab L39 0 gc41)::B,_⟩ (Zap (r:=Zab) (j:=0) lb tu46 tz84 rfl (tl hd 8 77) (tl hd 9 78) hv_i_42))<|dS 12 (fun γ ρ B hb hd=>ZaB (off:=1) lb Zdn (tl hd 10 79))<|dR 13 (fun γ ρ B hb hd=>Zag.lk ⟨ρ,(cown go40 Zab L39 0 gc41)::B,_⟩ (Zbf (r:=Zab) (i:=i42) (off:=1) (j:=0) lb tS31 rfl rfl (tl hd 11 80) hv_u_43 (Comp.at' (cT (Za5 u43) rfl) rfl) (by decide))) ?_
      refine Zat.cons (j:=14) rfl (fun _=>rfl) (.runX (fun _ _=>rfl) (fun γ ρ B hb hd=>⟨.none,OpX.ghost (γ:=Option Nat × Nat) (st':=fun q=>setO ⟨ρ,(cown q.1 (rU UInt8) v44 0 q.2)::B,_⟩ (some 82) (ov (HDR q.1 0 (List.length v44) q.2))) (fun q c=>bif Nat.beq c 0 then eno q.1 else q.2) (OpX.front (ZeN (r:=(rU UInt8)) lb tu31 tu31 rfl tB5 rfl (Nat.lt_of_lt_of_le Nat.zero_lt_one (lE rfl)) (Nat.lt_of_lt_of_le Nat.zero_lt_one (lE rfl)) HasO.nilH (fun _ _ _ h=>Src.list h (tl hd 12 81)) (Zek hv44))) (fun q=>by obtain ⟨q0,q1⟩:=q; cases q0 <;> exact Imp.refl)⟩) (fun _ _=>rfl) (fun _ _=>rfl)) ?_
      refine db 15 2<|dR 16 (fun γ ρ B hb hd=>Zag.at ⟨ρ,(cown (deo (γ 13 0)) (rU UInt8) v44 0 (γ 13 1))::B,_⟩ (setO ⟨ρ,B,_⟩ _ _) ((Zcg (j:=0) lb tu31 tu31 rfl tB5 rfl (Nat.lt_of_lt_of_le Nat.zero_lt_one (lE rfl)) (Nat.lt_of_lt_of_le Nat.zero_lt_one (lE rfl))  rfl (tl hd 13 82) (tl hd 14 83) hv_x_47).post (fun q=>Imp.dropF (j:=0) rfl)))<|dR 17 (fun γ ρ B hb hd=>Zag.lk ⟨ρ,(cown go40 Zab L39 0 gc41)::B,_⟩ (Zap (r:=Zab) (j:=0) lb tu46 tz84 rfl (tl hd 3 72) (tl hd 4 73) hv_i_50))<|dS 18 (fun γ ρ B hb hd=>ZaB (off:=1) lb Zdn (tl hd 16 85))<|dR 19 (fun γ ρ B hb hd=>Zag.at ⟨ρ,(cown go40 Zab L39 0 gc41)::B,_⟩ (setO ⟨ρ,(cown go40 Zab x51 0 gc41)::B,_⟩ _ _) (Zel (r:=Zab) (i:=i50) (off:=1) (j:=0) tS31 rfl rfl (tl hd 17 86) (tl hd 15 84) (fun u=>(Upd.trans (Comp.self Zab u) (Upd.self Zab u _) (ZdB u x47))) hv_x_51)) ?_
      exact Zat.nil)
             (by decide +kernel) (fun _=>rfl) (fun _=>rfl) (fun _=>rfl) rfl
             (ρ':=fun γ=>[(9,ov (S rB v20))])
             (X':=fun γ=>[zq16 gb7 go40 L39 gc41 qc3 x22 x23 x24,cown go40 Zab x51 0 gc41])
             (fun γ ρ hb hd=>(.cons (hb 9 _ rfl) .nil)) (fun _=>rfl) (fun γ=>?_)
         generalize (deo (γ 13 0)) = go45
         generalize (γ 13 1) = gc46
         clear γ
         refine JQ.at ⟨[(9,ov (S rB v20))],[zq16 gb7 go40 L39 gc41 qc3 x22 x23 x24,cown go40 Zab x51 0 gc41],[]⟩<|JQ.pre (Imp.var (j:=0) (q:=(zq10 go40 x51 gc41)) (y:=((),(qc3,(x22,(x23,(x24,())))))) rfl (Wk.pair (Wk.w (fun e v h=>ZgA (Ze8 hv_x_51) e v (h))) (Wk.pair Wk.refl (Wk.pair Wk.refl (Wk.pair Wk.refl (Wk.pair Wk.refl Wk.refl)))))) ?_
         try obtain rfl:=so hq19
         exact JQ.join (go40,gc41) (Imp.norm (js:=[0,0]) rfl (.cons rfl .nil))
       refine jr<|jmv rfl rfl<|lI hx19 fun v27 hv27 hx19=>jc (Zce lb tR hv27)<|jn ?_
       rcases Zbc hx19 with ⟨hc20,hx19⟩ | ⟨hc20,hx19⟩
       · refine JC.condT tR hc20<|JC.pre (Imp.frz (j:=1) rfl (ImpK.var (j:=0) (q:=(zq15 go9 x8 gc10)) (y:=((),(qc3,(x22,(x23,(x24,())))))) rfl (Wk.pair Wk.own (Wk.pair Wk.refl (Wk.pair Wk.refl (Wk.pair Wk.refl (Wk.pair Wk.refl Wk.refl))))) ImpK.refl))<|bI hx19 fun v28 hv28 hx19=>bI hx19 fun v29 hv29 hx19=>bI hx19 fun x32 hv_x_32 hx19=>bI hx19 fun v35 hv35 hx19=>?_
         obtain ⟨x36,hv_x_36,hx19⟩:=Zas hx19
         refine JC.anyF (base:=[(0,ov (PTR gb7 0)),(1,ov (S rS a1)),(2,ov (S (rL (rU UInt8)) a2)),(7,ov (S (rI .i64) v13)),(9,ov (S rB v20))])
             (fs:=fun γ=>[⟨some 48,ov (PTR gb7 0)⟩,⟨some 49,ov (PTR gb7 0)⟩,⟨some 50,ov (PTR gb7 0)⟩,⟨some 51,ov (PTR gb7 (0 + 0))⟩,⟨some 52,ov (HL go9 Zab x8 gc10)⟩,⟨some 53,ov (S (rI .i64) v13)⟩,⟨some 54,ov (S (rL Zab) v28)⟩,⟨some 55,ov (HDR (deo (γ 7 0)) 0 (List.length v29) (γ 7 1))⟩,⟨some 56,ov (S rS a1)⟩,⟨some 57,ov (A zq11 (a1,((),((0 : Int),()))))⟩,⟨some 58,ov (S (rL Zab) ([(Zah.mk a1 ([] : (List UInt8)) (0 : Int))] : (List Zah)))⟩,⟨some 59,ov (HDR (deo (γ 11 0)) 0 (List.length x32) (γ 11 1))⟩,⟨some 60,ov (PTR gb7 0)⟩,⟨some 61,ov (PTR gb7 0)⟩,⟨some 62,ov (PTR gb7 (0 + 0))⟩,⟨some 63,ov (HL go9 Zab x8 gc10)⟩,⟨some 64,ov (S (rI .i64) v13)⟩,⟨some 65,ov (S (rL Zab) v35)⟩,⟨some 66,ov (HDR (deo (γ 18 0)) 0 (List.length x36) (γ 18 1))⟩,⟨some 67,ov (PTR gb7 0)⟩,⟨some 68,ov (PTR gb7 (0 + 0))⟩,⟨none,.one .any⟩])
             (rs:=fun γ=>[⟨cvar gb7 (zq15 go9 x8 gc10) ((),(qc3,(x22,(x23,(x24,()))))),none,(some 21),[4,15]⟩,⟨cown go9 Zab x8 (List.length x8) gc10,none,none,[]⟩,⟨cown (deo (γ 7 0)) Zab v29 0 (γ 7 1),(some 7),(some 11),[]⟩,⟨cown (deo (γ 11 0)) Zab x32 0 (γ 11 1),(some 11),(some 18),[]⟩,⟨cown (deo (γ 18 0)) Zab x36 0 (γ 18 1),(some 18),none,[]⟩,⟨zq16 gb7 (deo (γ 18 0)) x36 (γ 18 1) qc3 x22 x23 x24,(some 21),none,[]⟩])
             (afts:=[[],[],[],[],[],[],[],[7,11,18,19,20,21],[],[],[],[11,18,19,20,21],[],[],[],[],[],[],[18,19,20,21],[],[],[]]) (js:=[0,0]) mixed (.cons rfl (.cons rfl (.cons rfl (.cons rfl (.cons rfl .nil))))) (fun _=>rfl)
             (by
      refine db 1 0<|db 2 0<|dS 3 (fun γ ρ B hb hd=>Zae lb (tl hd 1 49) (fun e v h=>by subst h; rfl))<|dS 4 (fun γ ρ B hb hd=>Zad (off:=0) lb Za6 (tl hd 2 50))<|dR 5 (fun γ ρ B hb hd=>Zag.lk ⟨ρ,(cvar gb7 (zq15 go9 x8 gc10) ((),(qc3,(x22,(x23,(x24,()))))))::B,_⟩ (Zal (j:=0) lb tS46 (tl hd 3 51) rfl (Comp.trans (Comp.self (zq15 go9 x8 gc10) ((),(qc3,(x22,(x23,(x24,())))))) (Comp.at' (Comp.inF (Comp.self (rW (HL go9 Zab x8 gc10)) ()) (lE rfl)) (by rfl : _ = 0)) (lE rfl)))) ?_
      refine db 6 7<|dS 7 (fun γ ρ B hb hd=>ZcJ lb tu46 tz84 (HasO.wk (tl hd 4 52) wkHL) .none (.some (tl hd 5 53)) hv28)<|Zat.cons (j:=8) rfl (fun _=>rfl) (.runX (fun _ _=>rfl) (fun γ ρ B hb hd=>⟨.none,OpX.ghost (γ:=Option Nat × Nat) (st':=fun q=>setO ⟨ρ,(cown q.1 Zab v29 0 q.2)::B,_⟩ (some 55) (ov (HDR q.1 0 (List.length v29) q.2))) (fun q c=>bif Nat.beq c 0 then eno q.1 else q.2) (OpX.front (ZeN (r:=Zab) lb tu46 tu46 rfl tB84 rfl (Nat.lt_of_lt_of_le Nat.zero_lt_one (lE rfl)) (Nat.lt_of_lt_of_le Nat.zero_lt_one (lE rfl)) HasO.nilH (fun _ _ _ h=>Src.list h (tl hd 6 54)) (Zek hv29))) (fun q=>by obtain ⟨q0,q1⟩:=q; cases q0 <;> exact Imp.refl)⟩) (fun _ _=>rfl) (fun _ _=>rfl)) ?_
      refine db 9 1<|dS 10 (fun γ ρ B hb hd=>ZdI lb tZ84 zr84 tp84 (.S (off:=0) rfl (tl hd 8 56) rfl ((UpdR.fst (UpdR.self (by rfl))).at (by rfl)) .nil) rfl)<|dS 11 (fun γ ρ B hb hd=>Zd8 (r:=Zab) lb tu46 tz84 tZ84 rfl (lE rfl) (.A (HasO.wk (q:=A Zab (Zah.mk a1 ([] : (List UInt8)) (0 : Int))) (tl hd 9 57) (wkAK (Wk.st (Wk.pair Wk.refl (Wk.pair Wk.nil (Wk.pair Wk.refl Wk.refl)))))) .nil) rfl)<|Zat.cons (j:=12) rfl (fun _=>rfl) (.runX (fun _ _=>rfl) (fun γ ρ B hb hd=>⟨.none,OpX.ghost (γ:=Option Nat × Nat) (st':=fun q=>setO ⟨ρ,(cown q.1 Zab x32 0 q.2)::B,_⟩ (some 59) (ov (HDR q.1 0 (List.length x32) q.2))) (fun q c=>bif Nat.beq c 0 then eno q.1 else q.2) (Zcg (j:=0) lb tu46 tu46 rfl tB84 rfl (Nat.lt_of_lt_of_le Nat.zero_lt_one (lE rfl)) (Nat.lt_of_lt_of_le Nat.zero_lt_one (lE rfl))  rfl (tl hd 7 55) (tl hd 10 58) hv_x_32) (fun q=>by obtain ⟨q0,q1⟩:=q; cases q0 <;> exact Imp.refl)⟩) (fun _ _=>rfl) (fun _ _=>rfl)) ?_
      refine db 13 0<|dS 14 (fun γ ρ B hb hd=>Zae lb (tl hd 12 60) (fun e v h=>by subst h; rfl))<|dS 15 (fun γ ρ B hb hd=>Zad (off:=0) lb Za6 (tl hd 13 61))<|dR 16 (fun γ ρ B hb hd=>Zag.lk ⟨ρ,(cvar gb7 (zq15 go9 x8 gc10) ((),(qc3,(x22,(x23,(x24,()))))))::B,_⟩ (Zal (j:=0) lb tS46 (tl hd 14 62) rfl (Comp.trans (Comp.self (zq15 go9 x8 gc10) ((),(qc3,(x22,(x23,(x24,())))))) (Comp.at' (Comp.inF (Comp.self (rW (HL go9 Zab x8 gc10)) ()) (lE rfl)) (by rfl : _ = 0)) (lE rfl))))<|db 17 7 ?_
      refine dS 18 (fun γ ρ B hb hd=>ZcJ lb tu46 tz84 (HasO.wk (tl hd 15 63) wkHL) (.some (tl hd 16 64)) .none hv35) ?_
      refine Zat.cons (j:=19) rfl (fun _=>rfl) (.runX (fun _ _=>rfl) (fun γ ρ B hb hd=>⟨.none,OpX.ghost (γ:=Option Nat × Nat) (st':=fun q=>setO ⟨ρ,(cown q.1 Zab x36 0 q.2)::B,_⟩ (some 66) (ov (HDR q.1 0 (List.length x36) q.2))) (fun q c=>bif Nat.beq c 0 then eno q.1 else q.2) (Zcg (j:=0) lb tu46 tu46 rfl tB84 rfl (Nat.lt_of_lt_of_le Nat.zero_lt_one (lE rfl)) (Nat.lt_of_lt_of_le Nat.zero_lt_one (lE rfl))  rfl (tl hd 11 59) (tl hd 17 65) hv_x_36) (fun q=>by obtain ⟨q0,q1⟩:=q; cases q0 <;> exact Imp.refl)⟩) (fun _ _=>rfl) (fun _ _=>rfl)) ?_
      refine dS 20 (fun γ ρ B hb hd=>Zae lb (tl hd 0 48) (fun e v h=>by subst h; rfl))<|dS 21 (fun γ ρ B hb hd=>Zad (off:=0) lb Za6 (tl hd 19 67))<|dR 22 (fun γ ρ B hb hd=>Zag.at ⟨ρ,(cvar gb7 (zq15 go9 x8 gc10) ((),(qc3,(x22,(x23,(x24,()))))))::B,_⟩ (setO ⟨ρ,(zq16 gb7 (deo (γ 18 0)) x36 (γ 18 1) qc3 x22 x23 x24)::B,_⟩ _ _) (Zb4 (j:=0) tS46 (tl hd 20 68) (tl hd 18 66) rfl ((UpdR.fst (UpdR.self (by rfl))).at (by change 0 = (0 + 0); omega)) rfl)) ?_
      exact Zat.nil)
             (by decide +kernel) (fun _=>rfl) (fun _=>rfl) (fun _=>rfl) rfl
             (ρ':=fun γ=>[(0,ov (PTR gb7 0)),(2,ov (S (rL (rU UInt8)) a2)),(7,ov (S (rI .i64) v13)),(9,ov (S rB v20))])
             (X':=fun γ=>[cown go9 Zab x8 (List.length x8) gc10,cown (deo (γ 18 0)) Zab x36 0 (γ 18 1),zq16 gb7 (deo (γ 18 0)) x36 (γ 18 1) qc3 x22 x23 x24])
             (fun γ ρ hb hd=>(.cons (hb 0 _ rfl) (.cons (hb 2 _ rfl) (.cons (hb 7 _ rfl) (.cons (hb 9 _ rfl) .nil))))) (fun _=>rfl) (fun γ=>?_)
         generalize (deo (γ 7 0)) = go30
         generalize (γ 7 1) = gc31
         generalize (deo (γ 11 0)) = go33
         generalize (γ 11 1) = gc34
         generalize (deo (γ 18 0)) = go37
         generalize (γ 18 1) = gc38
         clear γ
         refine JQ.at ⟨[(0,ov (PTR gb7 0)),(2,ov (S (rL (rU UInt8)) a2)),(7,ov (S (rI .i64) v13)),(9,ov (S rB v20))],[cown go9 Zab x8 (List.length x8) gc10,cown go37 Zab x36 0 gc38,zq16 gb7 go37 x36 gc38 qc3 x22 x23 x24],[]⟩ ?_
         try obtain rfl:=so hx19
         exact JQ.join (go37,gc38) (Imp.norm (js:=[2,1]) rfl (.cons rfl (.cons rfl (.cons rfl (.cons rfl .nil)))))
       refine JC.condF tR hc20<|JC.skip ?_
       try obtain rfl:=so hx19
       exact JQ.join (go9,gc10) (Imp.norm (js:=[0,0]) rfl (.cons rfl (.cons rfl (.cons rfl (.cons rfl .nil)))))
     refine JC.skip ?_
     try obtain rfl:=so hq15
     exact JQ.join (go9,gc10) (Imp.norm (js:=[0,0]) rfl (.cons rfl .nil))
   refine JC.region<|jmv rfl rfl<|jmv rfl rfl<|jF (ov (S rB v21)) rfl rfl rfl rfl (fun hq16=>Zai lb tR)<|JL.sub ⟨[(0,ov (PTR gb7 0)),(1,ov (S rS a1)),(2,ov (S (rL (rU UInt8)) a2)),(7,ov (S (rI .i64) v13)),(8,ov (S rB v14)),(9,ov (S rB v20)),(43,ov (S rB v20)),(44,bif (!v20) then ov (S rB v21) else .one .und)],[cvar gb7 (zq10 go9 x8 gc10) ((),(qc3,(x22,(x23,(x24,()))))),cown go9 Zab x8 0 gc10],[]⟩ (.cons rfl (.cons rfl (.cons rfl (.cons rfl (.cons rfl (.cons rfl (.cons rfl (.cons rfl .nil)))))))) rfl rfl<|lI hx15 fun v25 hv25 hx15=>jc (Za8 lb tR (fun hb17=>.cB) (fun hb17=>(HasO.cnd tR (notT hb17))) hv25)<|JL.nil ?_
   try obtain rfl:=so hx15
   exact JQ.join () (Imp.norm (js:=[0,0]) rfl (.cons rfl (.cons rfl (.cons rfl (.cons rfl (.cons rfl (.cons rfl (.cons rfl .nil))))))))
 refine JC.region<|jmv rfl rfl<|jc (Zcc lb tu31 tR)<|jmv rfl rfl<|bI hx2 fun v15 hv15 hx2=>jx (Zak (js:=[0,0]) ld cl42 (Zbm k qc3 ql4 qj5 qe6 x8 gb7 go9 gc10 v15 hv15) .func (.cons tR .nil) rfl) fun _=>lI hx2 fun v16 hv16 hx2=>jc (Zan lb tR tR (cs hv16))<|jmv rfl rfl<|jF (ov (S rB v14)) rfl rfl rfl rfl (fun hq3=>Zai lb tR)<|lI hx2 fun v17 hv17 hx2=>jF (ov (S rB v17)) rfl rfl rfl rfl (fun hq4=>Zce lb (HasO.cnd tR (notT (notF hq4))) hv17)<|jF (ov (S rB v17)) rfl rfl rfl rfl (fun hq5=>Zai lb (HasO.cnd tR (notT (notF hq5)))) ?_
 refine JL.cnd (sv:=ov (PTR gb7 0)) (ZaY.cT (q:=(!v16)) (ltB rfl) rfl rfl) rfl (ltB rfl) (fun hq6=>Zai lb tR)<|JL.sub ⟨[(0,ov (PTR gb7 0)),(1,ov (S rS a1)),(2,ov (S (rL (rU UInt8)) a2)),(7,ov (S (rI .i64) v13)),(8,ov (S rB v14)),(25,ov (S rB v16)),(28,bif (!v16) then ov (S rB v17) else .one .und),(29,bif ((!v16) && v17) then ov (PTR gb7 0) else .one .und)],[zq16 gb7 go9 x8 gc10 qc3 ql4 qj5 qe6,cown go9 Zab x8 0 gc10],[]⟩ (.cons rfl (.cons rfl (.cons rfl (.cons rfl (.cons rfl (.cons rfl (.cons rfl (.cons rfl .nil)))))))) rfl rfl<|JL.cnd (sv:=ov (PTR gb7 0)) (ZaY.cT (q:=(!v16)) (ltB rfl) rfl rfl) rfl (ltB rfl) (fun hq7=>Zae lb (HasO.cnd tR (andI (notT (notF (andL hq7))) (andR hq7))) (fun e v h=>by subst h; rfl))<|JL.cnd (sv:=ov (PTR gb7 (0 + 0))) (ZaY.cT (q:=(!v16)) (ltB rfl) rfl rfl) rfl (ltB rfl) (fun hq_8=>Zad (off:=0) lb Za6 (HasO.cnd tR (andI (notT (notF (andL hq_8))) (andR hq_8)))) ?_
 rcases Zbc hx2 with ⟨hc10,hx2⟩ | ⟨hc10,hx2⟩
 · refine JL.sk ((ZaY.eqB (ZaY.cT (q:=(!v16)) (ltB rfl) rfl rfl) (Zga (Zgc hc10))))<|JL.sk ((ZaY.eqB (ZaY.cT (q:=(!v16)) (ltB rfl) rfl rfl) (Zga (Zgc hc10))))<|JL.sk ((ZaY.eqB (ZaY.cT (q:=(!v16)) (ltB rfl) rfl rfl) (Zga (Zgc hc10))))<|jk rfl hc10<|jc (Zaw lb tR hc10 .cB)<|JL.nil ?_
   try obtain rfl:=so hx2
   exact JQ.join () (Imp.norm (js:=[0,0]) rfl (.cons rfl (.cons rfl (.cons rfl (.cons rfl (.cons rfl (.cons rfl .nil)))))))
 rcases Zbc hx2 with ⟨hc12,hx2⟩ | ⟨hc12,hx2⟩
 · refine JL.run ((ZaY.eqB (ZaY.cT (q:=(!v16)) (ltB rfl) rfl rfl) (andI (notT hc10) hc12))) (Zal (j:=0) lb tS46 (HasO.cnd tR (andI (notT hc10) hc12)) rfl (Comp.trans (Comp.self (zq10 go9 x8 gc10) ((),(qc3,(ql4,(qj5,(qe6,())))))) (Comp.at' (Comp.inF (Comp.self (rW (HDR go9 0 (List.length x8) gc10)) ()) (lE rfl)) (by rfl : _ = 0)) (lE rfl)))<|JL.run ((ZaY.eqB (ZaY.cT (q:=(!v16)) (ltB rfl) rfl rfl) (andI (notT hc10) hc12))) (Zb2 lb tu46 tR)<|lI hx2 fun v18 hv18 hx2=>JL.run ((ZaY.eqB (ZaY.cT (q:=(!v16)) (ltB rfl) rfl rfl) (andI (notT hc10) hc12))) (Zan lb tR .cI (cs hv18))<|JL.run (.yes rfl (ltB rfl) rfl hc10) (Zaw lb (HasO.cnd tR (notT hc10)) hc12 tR)<|jc (Zar lb tR hc10 tR)<|JL.nil ?_
   try obtain rfl:=so hx2
   exact JQ.join () (Imp.norm (js:=[0,0]) rfl (.cons rfl (.cons rfl (.cons rfl (.cons rfl (.cons rfl (.cons rfl .nil)))))))
 refine JL.sk ((ZaY.eqB (ZaY.cT (q:=(!v16)) (ltB rfl) rfl rfl) (Zf7 hc12)))<|JL.sk ((ZaY.eqB (ZaY.cT (q:=(!v16)) (ltB rfl) rfl rfl) (Zf7 hc12)))<|JL.sk ((ZaY.eqB (ZaY.cT (q:=(!v16)) (ltB rfl) rfl rfl) (Zf7 hc12)))<|JL.run (.yes rfl (ltB rfl) rfl hc10) (Zar lb (HasO.cnd tR (notT hc10)) hc12 .cB)<|jc (Zar lb tR hc10 tR)<|JL.nil ?_
 try obtain rfl:=so hx2
 exact JQ.join () (Imp.norm (js:=[0,0]) rfl (.cons rfl (.cons rfl (.cons rfl (.cons rfl (.cons rfl (.cons rfl .nil)))))))

theorem Zdl (k : Nat) (a1 : (List UInt8)) (a2 : (List UInt8)) (qc3 : Int) (ql4 : Int) (qj5 : Bool) (qe6 : Int) (x8 : (List Zah)) (gb7 : Nat) (go9 : Option Nat) (gc10 : Nat) (r : Int × (List Zah) × Int × Bool × Int) (hm : Zaz k a1 a2 qc3 ql4 qj5 qe6 x8 = some r) : Sim Try.prog 47 [PTR gb7 0,S rS a1,S rS a2] [zq16 gb7 go9 x8 gc10 qc3 ql4 qj5 qe6,cown go9 Zab x8 0 gc10] (γ:=Option Nat × Nat) (fun q=>[cvar gb7 (rP (rW (HDR q.1 0 (List.length r.2.1) q.2)) (rP (rI .i64) (rP (rI .i64) (rP rB (rP (rI .i64) r0))))) ((),(qc3,(r.2.2.1,(r.2.2.2.1,(r.2.2.2.2,()))))),cown q.1 Zab r.2.1 0 q.2]) (fun q=>.one (.val (S (rI .i64) r.1))):=by
 unfold Zaz at hm
 refine Sim.of Try.func47 rfl rfl (lE rfl) (fun e0 w0=>?_)
 refine JC.at ⟨[(0,ov (PTR gb7 0)),(1,ov (S rS a1)),(2,ov (S rS a2))],[zq16 gb7 go9 x8 gc10 qc3 ql4 qj5 qe6,cown go9 Zab x8 0 gc10],[]⟩<|jr<|jc (Zac lb .cI)<|jn<|jr<|jmv rfl rfl<|jmv rfl rfl ?_
 obtain ⟨⟨v11,v12⟩,hv11,hm⟩:=Zas hm
 refine jx (Zak (js:=[0,0]) ld cl41 (Zbr k a1 qc3 ql4 qj5 qe6 x8 gb7 go9 gc10 (v11,v12) hv11) .func (.cons tR (.cons tR .nil)) rfl) fun _=>jmv rfl rfl<|jc (Zao (i:=0) lb tR rfl)<|jc (Zao (i:=1) lb tR rfl)<|jc (Zac lb tR)<|jc (Zac lb tR)<|jn<|JC.seq<|bI hm fun x17 hx1 hq1=>JC.seqJ (γ:=Unit) (stj:=fun _=>⟨[(0,ov (PTR gb7 0)),(1,ov (S rS a1)),(2,ov (S rS a2)),(7,ov (S (rI .i64) v11)),(8,ov (S (rI .i64) v12)),(26,ov (S rB x17))],[zq16 gb7 go9 x8 gc10 qc3 ql4 qj5 qe6,cown go9 Zab x8 0 gc10],[]⟩) (fun _=>?_) ?_
 · refine jif tR hq1 (fun hc6 hq1=>?_) (fun hc6 hq1=>?_)
   · refine jr<|jc (Zac lb .cI)<|jn<|JC.ret<|JQ.outR ?_
     obtain rfl:=so hq1
     exact JQ.done (js:=[0,0]) (ss:=[.val (S (rI .i64) (2 : Int))]) (go9,gc10) (.inl rfl) (.nil rfl) rfl (.cons (.tmp rfl) .nil) rfl rfl rfl
   refine JC.skip<|JQ.then<|JC.seq<|jr<|jmv rfl rfl<|lI hq1 fun v18 hv18 hq1=>jc (Zan lb tR .cI (cs hv18))<|jn<|jif tR hq1 (fun hc7 hq1=>?_) (fun hc7 hq1=>?_)
   · refine jr<|jmv rfl rfl<|jc (Zac lb tR)<|jn<|JC.ret<|JQ.outR ?_
     obtain rfl:=so hq1
     exact JQ.done (js:=[0,0]) (ss:=[.val (S (rI .i64) v12)]) (go9,gc10) (.inl rfl) (.nil rfl) rfl (.cons (.tmp rfl) .nil) rfl rfl rfl
   refine JC.skip<|JQ.then<|jr<|jmv rfl rfl ?_
   obtain ⟨⟨v19,v20,x21,x22,x23⟩,hv19,hq1⟩:=Zas hq1
   refine jx (Zak (js:=[0,0]) ld cl63 (Zbs k qc3 ql4 qj5 qe6 x8 gb7 go9 gc10 (v19,v20,x21,x22,x23) hv19) .func (.cons tR .nil) rfl) fun _=>jmv rfl rfl<|jc (Zao (i:=0) lb tR rfl)<|jc (Zao (i:=1) lb tR rfl)<|jc (Zac lb tR)<|jc (Zac lb tR)<|jn<|bI hq1 fun x53 hx8 hq8=>JC.seqJ (γ:=Option Nat × Nat) (stj:=fun q=>⟨[(9,ov (S rB v19))],[cvar gb7 (rP (rW (HDR q.1 0 (List.length x53) q.2)) (rP (rI .i64) (rP (rI .i64) (rP rB (rP (rI .i64) r0))))) ((),(qc3,(x21,(x22,(x23,()))))),cown q.1 Zab x53 0 q.2],[]⟩) (fun q=>?_) ?_
   · obtain ⟨go54,gc55⟩:=q
     refine JC.at ⟨[(9,ov (S rB v19))],[zq16 gb7 go54 x53 gc55 qc3 x21 x22 x23,cown go54 Zab x53 0 gc55],[]⟩<|jr<|jmv rfl rfl<|bI hq8 fun v56 hv56 hq8=>jx (Zak (js:=[]) ld cl64 (ZcS k v19 v56 hv56) .func (.cons tR .nil) rfl) fun _=>jc (Zac lb tR)<|jn<|JC.ret ?_
     obtain rfl:=so hq8
     exact JQ.done (js:=[0,0]) (ss:=[.val (S (rI .i64) v56)]) (go54,gc55) (.inl rfl) (.nil rfl) rfl (.cons (.tmp rfl) .nil) rfl rfl rfl
   refine bI hx8 fun x26 hx9 hq9=>JC.seqJ (γ:=Unit) (stj:=fun _=>⟨[(0,ov (PTR gb7 0)),(2,ov (S rS a2)),(7,ov (S (rI .i64) v11)),(9,ov (S rB v19)),(40,ov (S rB x26))],[cvar gb7 (zq10 go9 x8 gc10) ((),(qc3,(x21,(x22,(x23,()))))),cown go9 Zab x8 0 gc10],[]⟩) (fun _=>?_) ?_
   · refine jif tR hq9 (fun hc14 hq9=>?_) (fun hc14 hq9=>?_)
     · refine jr<|jmv rfl rfl<|jc (Zae lb tR (fun e v h=>by subst h; rfl))<|jc (Zad (off:=0) lb Za6 tR)<|jc (Zal (j:=0) lb tS46 tR rfl (Comp.trans (Comp.self (zq10 go9 x8 gc10) ((),(qc3,(x21,(x22,(x23,())))))) (Comp.at' (Comp.inF (Comp.self (rW (HDR go9 0 (List.length x8) gc10)) ()) (lE rfl)) (by rfl : _ = 0)) (lE rfl)))<|jmv rfl rfl<|bI hq9 fun i27 hv_i_27 hq9=>jc (Zap (r:=Zab) (j:=1) lb tu46 tz84 rfl tR tR hv_i_27)<|bI hq9 fun v28 hv28 hq9=>jc (Zg6 (r:=Zab) (i:=i27) (off:=0) (j:=1) lb tA84 rfl tR hv28 (Comp.self Zab v28) (by decide))<|jx (Zcd lb tZ84 zr84) fun gb29=>jc (Zfe (j:=2) tA84 tR tR rfl (UpdR.self (by rfl)) rfl)<|JL.sub ⟨[(0,ov (PTR gb7 0)),(2,ov (S rS a2)),(7,ov (S (rI .i64) v11)),(9,ov (S rB v19)),(11,ov (PTR gb29 0))],[cvar gb7 (zq10 go9 x8 gc10) ((),(qc3,(x21,(x22,(x23,()))))),cown go9 Zab x8 0 gc10,cvar gb29 Zab v28],[]⟩ (.cons rfl (.cons rfl (.cons rfl (.cons rfl (.cons rfl .nil))))) rfl rfl ?_
       refine jn<|jr<|jmv rfl rfl<|jc (Zad (off:=0) lb Zey tR)<|lI hq9 fun x30 hv_x_30 hq9=>jc (ZaL (j:=2) tS9 tR tR rfl rfl (Upd.trans (Comp.self Zab v28) (Upd.self Zab v28 _) (Ze2 v28 a2)).R hv_x_30)<|jn<|jr<|jmv rfl rfl<|jmv rfl rfl<|bI hq9 fun x31 hv_x_31 hq9=>jx (Zak (js:=[0,0]) ld cl65 (Zb1 k v11 qc3 x21 x22 x23 x8 gb7 go9 gc10 x31 hv_x_31) .func (.cons tR (.cons tR .nil)) rfl) (fun q=>?_)
       obtain ⟨go32,gc33⟩:=q
       refine jn<|jr<|jmv rfl rfl<|jmv rfl rfl<|JL.sub ⟨[(0,ov (PTR gb7 0)),(9,ov (S rB v19)),(11,ov (PTR gb29 0)),(54,ov (PTR gb7 0)),(55,ov (S rS a2))],[zq16 gb7 go32 x31 gc33 qc3 x21 x22 x23,cown go32 Zab x31 0 gc33,cown go9 Zab x8 (List.length x8) gc10,cvar gb29 Zab x30],[]⟩ (.cons rfl (.cons rfl (.cons rfl (.cons rfl (.cons rfl .nil))))) rfl rfl ?_
       obtain ⟨⟨v34,v35⟩,hv34,hq9⟩:=Zas hq9
       refine jx (Zak (js:=[0,0]) ld cl62 (Zcb k a2 qc3 x21 x22 x23 x31 gb7 go32 gc33 (v34,v35) hv34) .func (.cons tR (.cons tR .nil)) rfl) fun _=>jmv rfl rfl<|jc (Zao (i:=0) lb tR rfl)<|jc (Zao (i:=1) lb tR rfl)<|jc (Zac lb tR)<|jc (Zac lb tR)<|jn<|bI hq9 fun L39 hx15 hq15=>JC.seqJ (γ:=Option Nat × Nat) (stj:=fun q=>⟨[(0,ov (PTR gb7 0)),(9,ov (S rB v19)),(11,ov (PTR gb29 0)),(12,ov (S (rI .i64) v34))],[cvar gb7 (rP (rW (HDR q.1 0 (List.length L39) q.2)) (rP (rI .i64) (rP (rI .i64) (rP rB (rP (rI .i64) r0))))) ((),(qc3,(x21,(x22,(x23,()))))),cown q.1 Zab L39 0 q.2,cvar gb29 Zab x30,cown go9 Zab x8 (List.length x8) gc10],[]⟩) (fun q=>?_) ?_
       · obtain ⟨go40,gc41⟩:=q
         refine JC.at ⟨[(0,ov (PTR gb7 0)),(9,ov (S rB v19)),(11,ov (PTR gb29 0)),(12,ov (S (rI .i64) v34))],[zq16 gb7 go40 L39 gc41 qc3 x21 x22 x23,cown go40 Zab L39 0 gc41,cvar gb29 Zab x30,cown go9 Zab x8 (List.length x8) gc10],[]⟩<|JC.pre (Imp.frz (j:=1) rfl (ImpK.var (j:=0) (q:=(zq15 go40 L39 gc41)) (y:=((),(qc3,(x21,(x22,(x23,())))))) rfl (Wk.pair Wk.own (Wk.pair Wk.refl (Wk.pair Wk.refl (Wk.pair Wk.refl (Wk.pair Wk.refl Wk.refl))))) ImpK.refl))<|bI hq15 fun v42 hv42 hq15=>bI hq15 fun v43 hv43 hq15=>bI hq15 fun x46 hv_x_46 hq15=>bI hq15 fun v49 hv49 hq15=>?_
         obtain ⟨x50,hv_x_50,hq15⟩:=Zas hq15
         refine JC.anyF (base:=[(0,ov (PTR gb7 0)),(9,ov (S rB v19)),(11,ov (PTR gb29 0)),(12,ov (S (rI .i64) v34))])
             (fs:=fun γ=>[⟨some 63,ov (PTR gb7 0)⟩,⟨some 64,ov (PTR gb7 0)⟩,⟨some 65,ov (PTR gb7 0)⟩,⟨some 66,ov (PTR gb7 (0 + 0))⟩,⟨some 67,ov (HL go40 Zab L39 gc41)⟩,⟨some 68,ov (S (rI .i64) v34)⟩,⟨some 69,ov (S (rL Zab) v42)⟩,⟨some 70,ov (HDR (deo (γ 7 0)) 0 (List.length v43) (γ 7 1))⟩,⟨some 71,ov (A Zab x30)⟩,⟨some 72,ov (S (rL Zab) ([x30] : (List Zah)))⟩,⟨some 73,ov (HDR (deo (γ 10 0)) 0 (List.length x46) (γ 10 1))⟩,⟨some 74,ov (PTR gb7 0)⟩,⟨some 75,ov (PTR gb7 0)⟩,⟨some 76,ov (PTR gb7 (0 + 0))⟩,⟨some 77,ov (HL go40 Zab L39 gc41)⟩,⟨some 78,ov (S (rI .i64) v34)⟩,⟨some 79,ov (S (rL Zab) v49)⟩,⟨some 80,ov (HDR (deo (γ 17 0)) 0 (List.length x50) (γ 17 1))⟩,⟨some 81,ov (PTR gb7 0)⟩,⟨some 82,ov (PTR gb7 (0 + 0))⟩,⟨none,.one .any⟩])
             (rs:=fun γ=>[⟨zq18 gb7 go40 L39 gc41 qc3 x21 x22 x23,none,(some 20),[4,14]⟩,⟨cown go40 Zab L39 (List.length L39) gc41,none,none,[]⟩,⟨cvar gb29 Zab x30,none,none,[8]⟩,⟨cown go9 Zab x8 (List.length x8) gc10,none,none,[]⟩,⟨cown (deo (γ 7 0)) Zab v43 0 (γ 7 1),(some 7),(some 10),[]⟩,⟨cown (deo (γ 10 0)) Zab x46 0 (γ 10 1),(some 10),(some 17),[]⟩,⟨cown (deo (γ 17 0)) Zab x50 0 (γ 17 1),(some 17),none,[]⟩,⟨zq16 gb7 (deo (γ 17 0)) x50 (γ 17 1) qc3 x21 x22 x23,(some 20),none,[]⟩])
             (afts:=[[],[],[],[],[],[],[],[7,10,17,18,19,20],[],[],[10,17,18,19,20],[],[],[],[],[],[],[17,18,19,20],[],[],[]]) (js:=[0,0,0,0]) mixed (.cons rfl (.cons rfl (.cons rfl (.cons rfl .nil)))) (fun _=>rfl)
             (by
      refine db 1 0<|db 2 0<|dS 3 (fun γ ρ B hb hd=>Zae lb (tl hd 1 64) (fun e v h=>by subst h; rfl))<|dS 4 (fun γ ρ B hb hd=>Zad (off:=0) lb Za6 (tl hd 2 65))<|dR 5 (fun γ ρ B hb hd=>Zag.lk ⟨ρ,(zq18 gb7 go40 L39 gc41 qc3 x21 x22 x23)::B,_⟩ (Zal (j:=0) lb tS46 (tl hd 3 66) rfl (Comp.trans (Comp.self (zq15 go40 L39 gc41) ((),(qc3,(x21,(x22,(x23,())))))) (Comp.at' (Comp.inF (Comp.self (rW (HL go40 Zab L39 gc41)) ()) (lE rfl)) (by rfl : _ = 0)) (lE rfl)))) ?_
      refine db 6 12<|dS 7 (fun γ ρ B hb hd=>ZcJ lb tu46 tz84 (HasO.wk (tl hd 4 67) wkHL) .none (.some (tl hd 5 68)) hv42)<|Zat.cons (j:=8) rfl (fun _=>rfl) (.runX (fun _ _=>rfl) (fun γ ρ B hb hd=>⟨.none,OpX.ghost (γ:=Option Nat × Nat) (st':=fun q=>setO ⟨ρ,(cown q.1 Zab v43 0 q.2)::B,_⟩ (some 70) (ov (HDR q.1 0 (List.length v43) q.2))) (fun q c=>bif Nat.beq c 0 then eno q.1 else q.2) (OpX.front (ZeN (r:=Zab) lb tu46 tu46 rfl tB84 rfl (Nat.lt_of_lt_of_le Nat.zero_lt_one (lE rfl)) (Nat.lt_of_lt_of_le Nat.zero_lt_one (lE rfl)) HasO.nilH (fun _ _ _ h=>Src.list h (tl hd 6 69)) (Zek hv43))) (fun q=>by obtain ⟨q0,q1⟩:=q; cases q0 <;> exact Imp.refl)⟩) (fun _ _=>rfl) (fun _ _=>rfl)) ?_
      refine dR 9 (fun γ ρ B hb hd=>Zag.lk ⟨ρ,(cvar gb29 Zab x30)::B,_⟩ (Zfy (j:=0) lb tA84 (.tmp (hb 11 _ rfl)) rfl (Comp.self Zab x30) rfl))<|dS 10 (fun γ ρ B hb hd=>Zd8 (r:=Zab) lb tu46 tz84 tZ84 rfl (lE rfl) (.A (tl hd 8 71) .nil) rfl) ?_
      refine Zat.cons (j:=11) rfl (fun _=>rfl) (.runX (fun _ _=>rfl) (fun γ ρ B hb hd=>⟨.none,OpX.ghost (γ:=Option Nat × Nat) (st':=fun q=>setO ⟨ρ,(cown q.1 Zab x46 0 q.2)::B,_⟩ (some 73) (ov (HDR q.1 0 (List.length x46) q.2))) (fun q c=>bif Nat.beq c 0 then eno q.1 else q.2) (Zcg (j:=0) lb tu46 tu46 rfl tB84 rfl (Nat.lt_of_lt_of_le Nat.zero_lt_one (lE rfl)) (Nat.lt_of_lt_of_le Nat.zero_lt_one (lE rfl))  rfl (tl hd 7 70) (tl hd 9 72) hv_x_46) (fun q=>by obtain ⟨q0,q1⟩:=q; cases q0 <;> exact Imp.refl)⟩) (fun _ _=>rfl) (fun _ _=>rfl)) ?_
      refine db 12 0<|dS 13 (fun γ ρ B hb hd=>Zae lb (tl hd 11 74) (fun e v h=>by subst h; rfl))<|dS 14 (fun γ ρ B hb hd=>Zad (off:=0) lb Za6 (tl hd 12 75))<|dR 15 (fun γ ρ B hb hd=>Zag.lk ⟨ρ,(zq18 gb7 go40 L39 gc41 qc3 x21 x22 x23)::B,_⟩ (Zal (j:=0) lb tS46 (tl hd 13 76) rfl (Comp.trans (Comp.self (zq15 go40 L39 gc41) ((),(qc3,(x21,(x22,(x23,())))))) (Comp.at' (Comp.inF (Comp.self (rW (HL go40 Zab L39 gc41)) ()) (lE rfl)) (by rfl : _ = 0)) (lE rfl))))<|db 16 12 ?_
      refine dS 17 (fun γ ρ B hb hd=>ZcJ lb tu46 tz84 (HasO.wk (tl hd 14 77) wkHL) (.some (tl hd 15 78)) .none hv49) ?_
      refine Zat.cons (j:=18) rfl (fun _=>rfl) (.runX (fun _ _=>rfl) (fun γ ρ B hb hd=>⟨.none,OpX.ghost (γ:=Option Nat × Nat) (st':=fun q=>setO ⟨ρ,(cown q.1 Zab x50 0 q.2)::B,_⟩ (some 80) (ov (HDR q.1 0 (List.length x50) q.2))) (fun q c=>bif Nat.beq c 0 then eno q.1 else q.2) (Zcg (j:=0) lb tu46 tu46 rfl tB84 rfl (Nat.lt_of_lt_of_le Nat.zero_lt_one (lE rfl)) (Nat.lt_of_lt_of_le Nat.zero_lt_one (lE rfl))  rfl (tl hd 10 73) (tl hd 16 79) hv_x_50) (fun q=>by obtain ⟨q0,q1⟩:=q; cases q0 <;> exact Imp.refl)⟩) (fun _ _=>rfl) (fun _ _=>rfl)) ?_
      refine dS 19 (fun γ ρ B hb hd=>Zae lb (tl hd 0 63) (fun e v h=>by subst h; rfl))<|dS 20 (fun γ ρ B hb hd=>Zad (off:=0) lb Za6 (tl hd 18 81))<|dR 21 (fun γ ρ B hb hd=>Zag.at ⟨ρ,(zq18 gb7 go40 L39 gc41 qc3 x21 x22 x23)::B,_⟩ (setO ⟨ρ,(zq16 gb7 (deo (γ 17 0)) x50 (γ 17 1) qc3 x21 x22 x23)::B,_⟩ _ _) (Zb4 (j:=0) tS46 (tl hd 19 82) (tl hd 17 80) rfl ((UpdR.fst (UpdR.self (by rfl))).at (by change 0 = (0 + 0); omega)) rfl)) ?_
      exact Zat.nil)
             (by decide +kernel) (fun _=>rfl) (fun _=>rfl) (fun _=>rfl) rfl
             (ρ':=fun γ=>[(9,ov (S rB v19))])
             (X':=fun γ=>[cown go40 Zab L39 (List.length L39) gc41,cvar gb29 Zab x30,cown go9 Zab x8 (List.length x8) gc10,cown (deo (γ 17 0)) Zab x50 0 (γ 17 1),zq16 gb7 (deo (γ 17 0)) x50 (γ 17 1) qc3 x21 x22 x23])
             (fun γ ρ hb hd=>(.cons (hb 9 _ rfl) .nil)) (fun _=>rfl) (fun γ=>?_)
         generalize (deo (γ 7 0)) = go44
         generalize (γ 7 1) = gc45
         generalize (deo (γ 10 0)) = go47
         generalize (γ 10 1) = gc48
         generalize (deo (γ 17 0)) = go51
         generalize (γ 17 1) = gc52
         clear γ
         refine JQ.at ⟨[(9,ov (S rB v19))],[cown go40 Zab L39 (List.length L39) gc41,cvar gb29 Zab x30,cown go9 Zab x8 (List.length x8) gc10,cown go51 Zab x50 0 gc52,zq16 gb7 go51 x50 gc52 qc3 x21 x22 x23],[]⟩ ?_
         try obtain rfl:=so hq15
         exact JQ.join (go51,gc52) (Imp.norm (js:=[4,3]) rfl (.cons rfl .nil))
       refine jr<|jmv rfl rfl<|jn<|jif tR hx15 (fun hc16 hx15=>?_) (fun hc16 hx15=>?_)
       · refine JC.region<|jmv rfl rfl<|jmv rfl rfl<|bI hx15 fun x36 hv_x_36 hx15=>jx (Zak (js:=[0,0]) ld cl65 (Zb1 k v34 qc3 x21 x22 x23 x31 gb7 go32 gc33 x36 hv_x_36) .func (.cons tR (.cons tR .nil)) rfl) (fun q=>?_)
         obtain ⟨go37,gc38⟩:=q
         refine JL.nrm ⟨[(0,ov (PTR gb7 0)),(9,ov (S rB v19)),(11,ov (PTR gb29 0)),(12,ov (S (rI .i64) v34))],[zq16 gb7 go37 x36 gc38 qc3 x21 x22 x23,cown go37 Zab x36 0 gc38,cown go9 Zab x8 (List.length x8) gc10,cvar gb29 Zab x30],[]⟩ [0,0,1,1] rfl (.cons rfl (.cons rfl (.cons rfl (.cons rfl .nil)))) rfl<|JL.nil ?_
         try obtain rfl:=so hx15
         exact JQ.join (go37,gc38) (Imp.norm (js:=[0,0,1,0]) rfl (.cons rfl (.cons rfl (.cons rfl (.cons rfl .nil)))))
       refine JC.skip ?_
       try obtain rfl:=so hx15
       exact JQ.join (go32,gc33) (Imp.norm (js:=[0,0,1,0]) rfl (.cons rfl (.cons rfl (.cons rfl (.cons rfl .nil)))))
     refine JC.skip ?_
     try obtain rfl:=so hq9
     exact JQ.join (go9,gc10) (Imp.norm (js:=[0,0]) rfl (.cons rfl .nil))
   refine JC.region<|jmv rfl rfl<|JL.sub ⟨[(0,ov (PTR gb7 0)),(1,ov (S rS a1)),(2,ov (S rS a2)),(7,ov (S (rI .i64) v11)),(9,ov (S rB v19)),(35,ov (S rB v19))],[cvar gb7 (zq10 go9 x8 gc10) ((),(qc3,(x21,(x22,(x23,()))))),cown go9 Zab x8 0 gc10],[]⟩ (.cons rfl (.cons rfl (.cons rfl (.cons rfl (.cons rfl (.cons rfl .nil)))))) rfl rfl<|jmv rfl rfl<|jT (ov (S rS a1)) rfl rfl rfl rfl (fun hq10=>Zai lb tR)<|jT (ov (S rS a2)) rfl rfl rfl rfl (fun hq11=>Zai lb tR)<|lI hx9 fun v24 hv24 hx9=>jT (ov (S rB v24)) rfl rfl rfl rfl (fun hq12=>ZcP lb (HasO.cnd tR hq12) (HasO.cnd tR hq12) (cs hv24))<|lI hx9 fun v25 hv25 hx9=>jc (Za8 lb tR (fun hb13=>(HasO.cnd tR hb13)) (fun hb13=>.cB) hv25)<|JL.nil ?_
   try obtain rfl:=so hx9
   exact JQ.join () (Imp.norm (js:=[0,0]) rfl (.cons rfl (.cons rfl (.cons rfl (.cons rfl (.cons rfl .nil))))))
 refine JC.region<|jmv rfl rfl<|JL.sub ⟨[(0,ov (PTR gb7 0)),(1,ov (S rS a1)),(2,ov (S rS a2)),(7,ov (S (rI .i64) v11)),(8,ov (S (rI .i64) v12)),(20,ov (S (rI .i64) v12))],[zq16 gb7 go9 x8 gc10 qc3 ql4 qj5 qe6,cown go9 Zab x8 0 gc10],[]⟩ (.cons rfl (.cons rfl (.cons rfl (.cons rfl (.cons rfl (.cons rfl .nil)))))) rfl rfl<|lI hx1 fun v13 hv13 hx1=>jc (Zan lb tR .cI (cs hv13))<|jmv rfl rfl<|jF (ov (S rS a2)) rfl rfl rfl rfl (fun hq_2=>Zai lb tR)<|bI hx1 fun v14 hv14 hx1=>jF (ov (S rB v14)) rfl rfl rfl rfl (fun hq3=>(Zak (js:=[]) ld cl23 (Zco k a2 v14 (ifT hv14 hq3)) .func (.cons (HasO.cnd tR (notT (notF hq3))) .nil) rfl).post (fun _=>Imp.refl))<|lI hx1 fun v15 hv15 hx1=>jF (ov (S rB v15)) rfl rfl rfl rfl (fun hq4=>Zce lb (HasO.cnd tR (notT (notF hq4))) hv15) ?_
 refine lI hx1 fun v16 hv16 hx1=>jc (Za8 lb tR (fun hb5=>.cB) (fun hb5=>(HasO.cnd tR (notT hb5))) hv16)<|JL.nil ?_
 try obtain rfl:=so hx1
 exact JQ.join () (Imp.norm (js:=[0,0]) rfl (.cons rfl (.cons rfl (.cons rfl (.cons rfl (.cons rfl (.cons rfl .nil)))))))

theorem Zdv (k : Nat) (qn1 : (List UInt8)) (qc2 : Int) (ql3 : Int) (qj4 : Bool) (qe5 : Int) (x7 : (List Zah)) (gb6 : Nat) (go8 : Option Nat) (gc9 : Nat) (r : Int × (List Zah) × Int × Bool × Int) (hm : Zbd k qn1 qc2 ql3 qj4 qe5 x7 = some r) : Sim Try.prog 48 [PTR gb6 0,S rS qn1] [zq16 gb6 go8 x7 gc9 qc2 ql3 qj4 qe5,cown go8 Zab x7 0 gc9] (γ:=Option Nat × Nat) (fun q=>[cvar gb6 (rP (rW (HDR q.1 0 (List.length r.2.1) q.2)) (rP (rI .i64) (rP (rI .i64) (rP rB (rP (rI .i64) r0))))) ((),(qc2,(r.2.2.1,(r.2.2.2.1,(r.2.2.2.2,()))))),cown q.1 Zab r.2.1 0 q.2]) (fun q=>.one (.val (S (rI .i64) r.1))):=by
 unfold Zbd at hm
 refine Sim.of Try.func48 rfl rfl (lE rfl) (fun e0 w0=>?_)
 refine JC.at ⟨[(0,ov (PTR gb6 0)),(1,ov (S rS qn1))],[zq16 gb6 go8 x7 gc9 qc2 ql3 qj4 qe5,cown go8 Zab x7 0 gc9],[]⟩<|jr<|jc (Zac lb .cI)<|jn<|jr<|jmv rfl rfl<|jmv rfl rfl ?_
 obtain ⟨⟨v10,v11⟩,hv10,hm⟩:=Zas hm
 refine jx (Zak (js:=[0,0]) ld cl41 (Zbr k qn1 qc2 ql3 qj4 qe5 x7 gb6 go8 gc9 (v10,v11) hv10) .func (.cons tR (.cons tR .nil)) rfl) fun _=>jmv rfl rfl<|jc (Zao (i:=0) lb tR rfl)<|jc (Zao (i:=1) lb tR rfl)<|jc (Zac lb tR)<|jc (Zac lb tR)<|jn<|JC.seq<|jr<|jmv rfl rfl<|JL.sub ⟨[(0,ov (PTR gb6 0)),(5,ov (S (rI .i64) v10)),(6,ov (S (rI .i64) v11)),(15,ov (S (rI .i64) v11))],[zq16 gb6 go8 x7 gc9 qc2 ql3 qj4 qe5,cown go8 Zab x7 0 gc9],[]⟩ (.cons rfl (.cons rfl (.cons rfl (.cons rfl .nil)))) rfl rfl<|lI hm fun v12 hv12 hm=>jc (Zan lb tR .cI (cs hv12))<|jn<|jif tR hm (fun hc1 hm=>?_) (fun hc1 hm=>?_)
 · refine jr<|jmv rfl rfl<|jc (Zac lb tR)<|jn<|JC.ret<|JQ.outR ?_
   obtain rfl:=so hm
   exact JQ.done (js:=[0,0]) (ss:=[.val (S (rI .i64) v11)]) (go8,gc9) (.inl rfl) (.nil rfl) rfl (.cons (.tmp rfl) .nil) rfl rfl rfl
 refine JC.skip<|JQ.then<|jr<|jmv rfl rfl ?_
 obtain ⟨⟨v13,v14,x15,x16,x17⟩,hv13,hm⟩:=Zas hm
 refine jx (Zak (js:=[0,0]) ld cl63 (Zbs k qc2 ql3 qj4 qe5 x7 gb6 go8 gc9 (v13,v14,x15,x16,x17) hv13) .func (.cons tR .nil) rfl) fun _=>jmv rfl rfl<|jc (Zao (i:=0) lb tR rfl)<|jc (Zao (i:=1) lb tR rfl)<|jc (Zac lb tR)<|jc (Zac lb tR)<|jn<|bI hm fun x21 hx2 hq2=>JC.seqJ (γ:=Option Nat × Nat) (stj:=fun q=>⟨[(7,ov (S rB v13))],[cvar gb6 (rP (rW (HDR q.1 0 (List.length x21) q.2)) (rP (rI .i64) (rP (rI .i64) (rP rB (rP (rI .i64) r0))))) ((),(qc2,(x15,(x16,(x17,()))))),cown q.1 Zab x21 0 q.2],[]⟩) (fun q=>?_) ?_
 · obtain ⟨go22,gc23⟩:=q
   refine JC.at ⟨[(7,ov (S rB v13))],[zq16 gb6 go22 x21 gc23 qc2 x15 x16 x17,cown go22 Zab x21 0 gc23],[]⟩<|jr<|jmv rfl rfl<|bI hq2 fun v24 hv24 hq2=>jx (Zak (js:=[]) ld cl64 (ZcS k v13 v24 hv24) .func (.cons tR .nil) rfl) fun _=>jc (Zac lb tR)<|jn<|JC.ret ?_
   obtain rfl:=so hq2
   exact JQ.done (js:=[0,0]) (ss:=[.val (S (rI .i64) v24)]) (go22,gc23) (.inl rfl) (.nil rfl) rfl (.cons (.tmp rfl) .nil) rfl rfl rfl
 refine jr<|jmv rfl rfl<|jn<|jif tR hx2 (fun hc3 hx2=>?_) (fun hc3 hx2=>?_)
 · refine JC.region<|jmv rfl rfl<|JL.sub ⟨[(5,ov (S (rI .i64) v10)),(7,ov (S rB v13)),(24,ov (PTR gb6 0))],[cvar gb6 (zq10 go8 x7 gc9) ((),(qc2,(x15,(x16,(x17,()))))),cown go8 Zab x7 0 gc9],[]⟩ (.cons rfl (.cons rfl (.cons rfl .nil))) rfl rfl<|jmv rfl rfl<|bI hx2 fun x18 hv_x_18 hx2=>jx (Zak (js:=[0,0]) ld cl65 (Zb1 k v10 qc2 x15 x16 x17 x7 gb6 go8 gc9 x18 hv_x_18) .func (.cons tR (.cons tR .nil)) rfl) (fun q=>?_)
   obtain ⟨go19,gc20⟩:=q
   refine JL.nil ?_
   try obtain rfl:=so hx2
   exact JQ.join (go19,gc20) (Imp.norm (js:=[0,0]) rfl (.cons rfl .nil))
 refine JC.skip ?_
 try obtain rfl:=so hx2
 exact JQ.join (go8,gc9) (Imp.norm (js:=[0,0]) rfl (.cons rfl .nil))

theorem ZdL (k : Nat) (n1 : Int) (qc2 : Int) (ql3 : Int) (qj4 : Bool) (qe5 : Int) (x7 : (List Zah)) (gb6 : Nat) (go8 : Option Nat) (gc9 : Nat) (r : Int) (hm : ZbL k n1 qc2 ql3 qj4 qe5 x7 = some r) : Sim Try.prog 49 [PTR gb6 0,S (rI .i64) n1] [zq16 gb6 go8 x7 gc9 qc2 ql3 qj4 qe5,cown go8 Zab x7 0 gc9] (γ:=Unit) (fun q=>[cvar gb6 (zq10 go8 x7 gc9) ((),(qc2,(r,(qj4,(qe5,()))))),cown go8 Zab x7 0 gc9]) (fun q=>.tup []):=by
 unfold ZbL at hm
 refine Sim.of Try.func49 rfl rfl (lE rfl) (fun e0 w0=>?_)
 refine JC.at ⟨[(0,ov (PTR gb6 0)),(1,ov (S (rI .i64) n1))],[zq16 gb6 go8 x7 gc9 qc2 ql3 qj4 qe5,cown go8 Zab x7 0 gc9],[]⟩<|jr<|jmv rfl rfl<|jmv rfl rfl<|jc (Zae lb tR (fun e v h=>by subst h; rfl))<|jc (Zad (off:=2) lb Zgr tR)<|jc (ZaL (j:=0) tS3 tR tR rfl rfl ((UpdR.snd (UpdR.snd (UpdR.fst (UpdR.self (by rfl))))).at (by change (1 + (1 + 0)) = (0 + 2); omega)) rfl)<|jn<|jr<|jmv rfl rfl<|lI hm fun v10 hv10 hm=>jc (Zan lb tR .cI (cs hv10))<|jn<|jif tR hm (fun hc1 hm=>?_) (fun hc1 hm=>?_)
 · refine JC.region<|jmv rfl rfl<|jc (Zae lb tR (fun e v h=>by subst h; rfl))<|jc (Zad (off:=2) lb Zgr tR)<|JL.sub ⟨[(12,ov (PTR gb6 (0 + 2)))],[zq16 gb6 go8 x7 gc9 qc2 n1 qj4 qe5,cown go8 Zab x7 0 gc9],[]⟩ (.cons rfl .nil) rfl rfl<|jc (ZaL (j:=0) tS3 tR .cI rfl rfl ((UpdR.snd (UpdR.snd (UpdR.fst (UpdR.self (by rfl))))).at (by change (1 + (1 + 0)) = (0 + 2); omega)) rfl)<|JL.nil ?_
   obtain rfl:=so hm
   refine JQ.pre (Imp.var (j:=0) (q:=(zq10 go8 x7 gc9)) (y:=((),(qc2,((-1 : Int),(qj4,(qe5,())))))) rfl Wk.refl) ?_
   exact JQ.done (js:=[0,0]) (ss:=[]) () (.inr rfl) (.nil rfl) rfl .nil rfl rfl rfl
 refine JC.skip ?_
 obtain rfl:=so hm
 refine JQ.pre (Imp.var (j:=0) (q:=(zq10 go8 x7 gc9)) (y:=((),(qc2,(n1,(qj4,(qe5,())))))) rfl Wk.refl) ?_
 exact JQ.done (js:=[0,0]) (ss:=[]) () (.inr rfl) (.nil rfl) rfl .nil rfl rfl rfl

end Go.Proofs.Ytipchpbcjkhnaaa
