/- Walks. -/
import Derived.Test.YtipchpbcjkhnaaaT
import Derived.Test.YtipchpbcjkhnaaaW13
import Derived.Test.YtipchpbcjkhnaaaW8
import Derived.Test.YtipchpbcjkhnaaaW9
namespace Go.Proofs.Ytipchpbcjkhnaaa
open Go Fw
set_option linter.unusedVariables false
set_option maxRecDepth 100000
set_option maxHeartbeats 4000000

theorem Zdy (k : Nat) (a1 : (List Int)) (qc2 : Int) (ql3 : Int) (qj4 : Bool) (qe5 : Int) (x7 : (List Zah)) (gb6 : Nat) (go8 : Option Nat) (gc9 : Nat) (r : (List Zah)) (hm : ref05_Disk_Crash_pv_sovvvv k a1 qc2 ql3 qj4 qe5 x7 = some r) : Sim Try.prog 50 [PTR gb6 0,S (rL (rI .i64)) a1] [zq16 gb6 go8 x7 gc9 qc2 ql3 qj4 qe5,cown go8 Zab x7 0 gc9] (γ:=Nat × Option Nat × Nat) (fun q=>[cvar q.1 (rP (rW (HDR q.2.1 0 (List.length r) q.2.2)) (rP (rI .i64) (rP (rI .i64) (rP rB (rP (rI .i64) r0))))) ((),(qc2,((-1 : Int),(false,((0 : Int),()))))),cown q.2.1 Zab r 0 q.2.2,zq16 gb6 go8 x7 gc9 qc2 ql3 qj4 qe5,cown go8 Zab x7 0 gc9]) (fun q=>.one (.val (PTR q.1 0))):=by
 unfold ref05_Disk_Crash_pv_sovvvv at hm
 refine Sim.of Try.func50 rfl rfl (lE rfl) (fun e0 w0=>?_)
 refine JC.at ⟨[(0,ov (PTR gb6 0)),(1,ov (S (rL (rI .i64)) a1))],[zq16 gb6 go8 x7 gc9 qc2 ql3 qj4 qe5,cown go8 Zab x7 0 gc9],[]⟩<|jr<|jc (Zac lb (HasO.const (p:=PTO none) fun _=>rfl))<|jn<|jr<|jmv rfl rfl<|jc (Zae lb tR (fun e v h=>by subst h; rfl))<|jc (Zad (off:=1) lb Zf0 tR)<|jc (Zam (j:=0) lb tS3 tR rfl (Comp.trans (Comp.self (zq10 go8 x7 gc9) ((),(qc2,(ql3,(qj4,(qe5,())))))) (Comp.at' (Comp.inS (Comp.inF (Comp.self (rI .i64) qc2) (lE rfl))) (by rfl : _ = 1)) (lE rfl)) rfl rfl)<|jc (ZdI lb tZ48 zr48 tp48 (.S (off:=1) rfl tR rfl ((UpdR.snd (UpdR.fst (UpdR.self (by rfl)))).at (by rfl)) (.S (off:=2) rfl .cI rfl ((UpdR.snd (UpdR.snd (UpdR.fst (UpdR.self (by rfl))))).at (by rfl)) .nil)) rfl)<|jx (Zd4 lb tR) fun gb10=>jc (Zac lb tR)<|jn<|jr<|jc (Zac lb .cI)<|jn<|bI hm fun L42 hx1 hq1=>JC.seqJ (γ:=Option Nat × Nat) (stj:=fun q=>⟨[(5,ov (PTR gb10 0))],[cvar gb10 (rP (rW (HDR q.1 0 (List.length L42) q.2)) (rP (rI .i64) (rP (rI .i64) (rP rB (rP (rI .i64) r0))))) ((),(qc2,((-1 : Int),(false,((0 : Int),()))))),cown q.1 Zab L42 0 q.2,zq16 gb6 go8 x7 gc9 qc2 ql3 qj4 qe5,cown go8 Zab x7 0 gc9],[]⟩) (fun q=>?_) ?_
 · obtain ⟨go43,gc44⟩:=q
   refine JC.at ⟨[(5,ov (PTR gb10 0))],[zq21 gb10 go43 L42 gc44 qc2,cown go43 Zab L42 0 gc44,zq16 gb6 go8 x7 gc9 qc2 ql3 qj4 qe5,cown go8 Zab x7 0 gc9],[]⟩<|jr<|jmv rfl rfl<|jc (Zac lb tR)<|jn<|JC.ret ?_
   obtain rfl:=so hq1
   exact JQ.done (js:=[0,0,0,0]) (ss:=[.val (PTR gb10 0)]) (gb10,go43,gc44) (.inl rfl) (.nil rfl) rfl (.cons (.tmp rfl) .nil) rfl rfl rfl
 refine jr<|jc (Zac lb .cI)<|JL.sub ⟨[(0,ov (PTR gb6 0)),(1,ov (S (rL (rI .i64)) a1)),(5,ov (PTR gb10 0)),(6,ov (S (rI .i64) (0 : Int))),(7,ov (S (rI .i64) (0 : Int)))],[zq16 gb6 go8 x7 gc9 qc2 ql3 qj4 qe5,cown go8 Zab x7 0 gc9,cvar gb10 zq9 ((),(qc2,((-1 : Int),(false,((0 : Int),())))))],[]⟩ (.cons rfl (.cons rfl (.cons rfl (.cons rfl (.cons rfl .nil))))) rfl rfl<|jn<|JC.block<|JC.pre (Imp.nilown Zab)<|JC.pre (Imp.var (j:=0) (q:=(zq10 go8 x7 gc9)) (y:=((),(qc2,(ql3,(qj4,(qe5,())))))) rfl Wk.refl) ?_
 refine JC.pre (Imp.var (j:=2) (q:=zq23) (y:=((),(qc2,((-1 : Int),(false,((0 : Int),())))))) rfl Wk.refl) ?_
 refine JC.pre ?_ (JC.loop (γ:=Option Nat × Nat) (stf:=fun s q=>⟨[(0,ov (PTR gb6 0)),(1,ov (S (rL (rI .i64)) a1)),(5,ov (PTR gb10 0)),(6,ov (S (rI .i64) s.2.1)),(7,ov (S (rI .i64) s.2.2))],[zq16 gb6 go8 x7 gc9 qc2 ql3 qj4 qe5,cown go8 Zab x7 0 gc9,cvar gb10 (rP (rW (HDR q.1 0 (List.length s.1) q.2)) (rP (rI .i64) (rP (rI .i64) (rP rB (rP (rI .i64) r0))))) ((),(qc2,((-1 : Int),(false,((0 : Int),()))))),cown q.1 Zab s.1 0 q.2],[]⟩) (q:=(none,0)) hx1 ?_)
 · exact (Imp.norm (js:=[0,0,0,0]) rfl (.cons rfl (.cons rfl (.cons rfl (.cons rfl (.cons rfl .nil))))))
 intro s q x hx hr
 obtain ⟨L11,x12,x13⟩:=s
 obtain ⟨go14,gc15⟩:=q
 change ref05_Disk_Crash_pv_sovvvv.b1 k x7 a1 L11 x12 x13 = some x at hx
 unfold ref05_Disk_Crash_pv_sovvvv.b1 at hx
 refine JC.at ⟨[(0,ov (PTR gb6 0)),(1,ov (S (rL (rI .i64)) a1)),(5,ov (PTR gb10 0)),(6,ov (S (rI .i64) x12)),(7,ov (S (rI .i64) x13))],[zq16 gb6 go8 x7 gc9 qc2 ql3 qj4 qe5,cown go8 Zab x7 0 gc9,zq21 gb10 go14 L11 gc15 qc2,cown go14 Zab L11 0 gc15],[]⟩<|JC.seq<|jr<|jmv rfl rfl<|jmv rfl rfl<|jc (Zae lb tR (fun e v h=>by subst h; rfl))<|jc (Zad (off:=0) lb Za6 tR)<|jc (Zal (j:=0) lb tS46 tR rfl (Comp.trans (Comp.self (zq10 go8 x7 gc9) ((),(qc2,(ql3,(qj4,(qe5,())))))) (Comp.at' (Comp.inF (Comp.self (rW (HDR go8 0 (List.length x7) gc9)) ()) (lE rfl)) (by rfl : _ = 0)) (lE rfl)))<|jc (Zb2 lb tu46 tR)<|lI hx fun v16 hv16 hx=>jc (Zan lb tR tR (cs hv16))<|jn<|jif tR hx (fun hc3 hx=>?_) (fun hc3 hx=>?_)
 · refine JC.skip<|JQ.then<|JC.seq<|JC.block<|jr<|jmv rfl rfl<|jc (Zae lb tR (fun e v h=>by subst h; rfl))<|jc (Zad (off:=0) lb Za6 tR)<|jc (Zal (j:=0) lb tS46 tR rfl (Comp.trans (Comp.self (zq10 go8 x7 gc9) ((),(qc2,(ql3,(qj4,(qe5,())))))) (Comp.at' (Comp.inF (Comp.self (rW (HDR go8 0 (List.length x7) gc9)) ()) (lE rfl)) (by rfl : _ = 0)) (lE rfl)))<|jmv rfl rfl<|JL.sub ⟨[(0,ov (PTR gb6 0)),(1,ov (S (rL (rI .i64)) a1)),(5,ov (PTR gb10 0)),(6,ov (S (rI .i64) x12)),(7,ov (S (rI .i64) x13)),(29,ov (HDR go8 0 (List.length x7) gc9)),(30,ov (S (rI .i64) x13))],[zq16 gb6 go8 x7 gc9 qc2 ql3 qj4 qe5,cown go8 Zab x7 0 gc9,zq21 gb10 go14 L11 gc15 qc2,cown go14 Zab L11 0 gc15],[]⟩ (.cons rfl (.cons rfl (.cons rfl (.cons rfl (.cons rfl (.cons rfl (.cons rfl .nil))))))) rfl rfl<|bI hx fun i17 hv_i_17 hx=>jc (Zap (r:=Zab) (j:=1) lb tu46 tz84 rfl tR tR hv_i_17)<|bI hx fun v18 hv18 hx=>jc (Zg6 (r:=Zab) (i:=i17) (off:=0) (j:=1) lb tA84 rfl tR hv18 (Comp.self Zab v18) (by decide))<|jx (Zcd lb tZ84 zr84) (fun gb19=>?_)
   refine jc (Zfe (j:=4) tA84 tR tR rfl (UpdR.self (by rfl)) rfl)<|jn<|jr<|jc (Zad (off:=1) lb Zdn tR)<|jc (Zam (j:=4) lb tS31 tR rfl (cT (Za5 v18) rfl) rfl rfl)<|jc (Zcc lb tu31 tR)<|jc (Zad (off:=2) lb ZeQ tR)<|JL.sub ⟨[(0,ov (PTR gb6 0)),(1,ov (S (rL (rI .i64)) a1)),(5,ov (PTR gb10 0)),(6,ov (S (rI .i64) x12)),(7,ov (S (rI .i64) x13)),(8,ov (PTR gb19 0)),(35,ov (S (rI .i64) (List.length v18.B : Int))),(36,ov (PTR gb19 (0 + 2)))],[zq16 gb6 go8 x7 gc9 qc2 ql3 qj4 qe5,cown go8 Zab x7 0 gc9,zq21 gb10 go14 L11 gc15 qc2,cown go14 Zab L11 0 gc15,cvar gb19 Zab v18],[]⟩ (.cons rfl (.cons rfl (.cons rfl (.cons rfl (.cons rfl (.cons rfl (.cons rfl (.cons rfl .nil)))))))) rfl rfl<|jc (Zam (j:=4) lb tS3 tR rfl (cT (ZbD v18) rfl) rfl rfl)<|lI hx fun v20 hv20 hx=>jc (Zbx lb tR tR (cs hv20))<|jc (Zac lb tR)<|jn<|jr<|jc (Zad (off:=2) lb ZeQ tR)<|jc (Zam (j:=4) lb tS3 tR rfl (cT (ZbD v18) rfl) rfl rfl)<|jc (Zac lb tR)<|jn ?_
   obtain ⟨⟨x33,x34⟩,hx4,hq4⟩:=Zas hx
   refine JC.seqJ (γ:=Unit) (stj:=fun _=>⟨[(0,ov (PTR gb6 0)),(1,ov (S (rL (rI .i64)) a1)),(5,ov (PTR gb10 0)),(6,ov (S (rI .i64) x33)),(7,ov (S (rI .i64) x13)),(8,ov (PTR gb19 0)),(10,ov (S (rI .i64) x34))],[zq16 gb6 go8 x7 gc9 qc2 ql3 qj4 qe5,cown go8 Zab x7 0 gc9,zq21 gb10 go14 L11 gc15 qc2,cown go14 Zab L11 0 gc15,cvar gb19 Zab v18],[]⟩) (fun _=>?_) ?_
   · refine jr<|jc (Zad (off:=1) lb Zdn tR)<|jc (Zam (j:=4) lb tS31 tR rfl (cT (Za5 v18) rfl) rfl rfl)<|jmv rfl rfl<|bI hq4 fun v35 hv35 hq4=>jc (ZcJ lb tu31 tz5 tR .none (.some tR) hv35)<|jc (Zad (off:=1) lb Zdn tR)<|lI hq4 fun x36 hv_x_36 hq4=>jc (ZaL (j:=4) tS31 tR tR rfl rfl (Upd.trans (Comp.self Zab v18) (Upd.self Zab v18 _) (ZdB v18 v35)).R hv_x_36)<|jn<|jr<|jmv rfl rfl<|jc (Zad (off:=2) lb ZeQ tR)<|lI hq4 fun x37 hv_x_37 hq4=>jc (ZaL (j:=4) tS3 tR tR rfl rfl (Upd.trans (Comp.self Zab x36) (Upd.self Zab x36 _) (ZcQ x36 x34)).R hv_x_37)<|JL.sub ⟨[(0,ov (PTR gb6 0)),(1,ov (S (rL (rI .i64)) a1)),(5,ov (PTR gb10 0)),(6,ov (S (rI .i64) x33)),(7,ov (S (rI .i64) x13)),(8,ov (PTR gb19 0))],[zq16 gb6 go8 x7 gc9 qc2 ql3 qj4 qe5,cown go8 Zab x7 0 gc9,zq21 gb10 go14 L11 gc15 qc2,cown go14 Zab L11 0 gc15,cvar gb19 Zab x37],[]⟩ (.cons rfl (.cons rfl (.cons rfl (.cons rfl (.cons rfl (.cons rfl .nil)))))) rfl rfl<|jn ?_
     obtain ⟨x38,hv_x_38,hq4⟩:=Zas hq4
     refine JC.anyF (base:=[(0,ov (PTR gb6 0)),(1,ov (S (rL (rI .i64)) a1)),(5,ov (PTR gb10 0)),(6,ov (S (rI .i64) x33)),(7,ov (S (rI .i64) x13)),(8,ov (PTR gb19 0))])
         (fs:=fun γ=>[⟨some 72,ov (PTR gb10 0)⟩,⟨some 73,ov (PTR gb10 0)⟩,⟨some 74,ov (PTR gb10 0)⟩,⟨some 75,ov (PTR gb10 (0 + 0))⟩,⟨some 76,ov (HDR go14 0 (List.length L11) gc15)⟩,⟨some 77,ov (A Zab x37)⟩,⟨some 78,ov (S (rL Zab) ([x37] : (List Zah)))⟩,⟨some 79,ov (HDR (deo (γ 7 0)) 0 (List.length x38) (γ 7 1))⟩,⟨some 80,ov (PTR gb10 0)⟩,⟨some 81,ov (PTR gb10 (0 + 0))⟩,⟨none,.one .any⟩])
         (rs:=fun γ=>[⟨zq16 gb6 go8 x7 gc9 qc2 ql3 qj4 qe5,none,none,[]⟩,⟨cown go8 Zab x7 0 gc9,none,none,[]⟩,⟨zq21 gb10 go14 L11 gc15 qc2,none,(some 10),[4]⟩,⟨cown go14 Zab L11 0 gc15,none,(some 7),[]⟩,⟨cvar gb19 Zab x37,none,none,[5]⟩,⟨cown (deo (γ 7 0)) Zab x38 0 (γ 7 1),(some 7),none,[]⟩,⟨zq21 gb10 (deo (γ 7 0)) x38 (γ 7 1) qc2,(some 10),none,[]⟩])
         (afts:=[[],[],[],[],[],[],[],[7,8,9,10],[],[],[]]) (js:=[0,0,0,0,0]) mixed (.cons rfl (.cons rfl (.cons rfl (.cons rfl (.cons rfl (.cons rfl .nil)))))) (fun _=>rfl)
         (by
      refine db 1 5<|db 2 5<|dS 3 (fun γ ρ B hb hd=>Zae lb (tl hd 1 73) (fun e v h=>by subst h; rfl))<|dS 4 (fun γ ρ B hb hd=>Zad (off:=0) lb Za6 (tl hd 2 74))<|dR 5 (fun γ ρ B hb hd=>Zag.lk ⟨ρ,(zq21 gb10 go14 L11 gc15 qc2)::B,_⟩ (Zal (j:=0) lb tS46 (tl hd 3 75) rfl (Comp.trans (Comp.self (zq10 go14 L11 gc15) ((),(qc2,((-1 : Int),(false,((0 : Int),())))))) (Comp.at' (Comp.inF (Comp.self (rW (HDR go14 0 (List.length L11) gc15)) ()) (lE rfl)) (by rfl : _ = 0)) (lE rfl)))) ?_
      refine dR 6 (fun γ ρ B hb hd=>Zag.lk ⟨ρ,(cvar gb19 Zab x37)::B,_⟩ (Zfy (j:=0) lb tA84 (.tmp (hb 8 _ rfl)) rfl (Comp.self Zab x37) rfl))<|dS 7 (fun γ ρ B hb hd=>Zd8 (r:=Zab) lb tu46 tz84 tZ84 rfl (lE rfl) (.A (tl hd 5 77) .nil) rfl) ?_
      refine Zat.cons (j:=8) rfl (fun _=>rfl) (.runX (fun _ _=>rfl) (fun γ ρ B hb hd=>⟨.none,OpX.ghost (γ:=Option Nat × Nat) (st':=fun q=>setO ⟨ρ,(cown q.1 Zab x38 0 q.2)::B,_⟩ (some 79) (ov (HDR q.1 0 (List.length x38) q.2))) (fun q c=>bif Nat.beq c 0 then eno q.1 else q.2) (Zcg (j:=0) lb tu46 tu46 rfl tB84 rfl (Nat.lt_of_lt_of_le Nat.zero_lt_one (lE rfl)) (Nat.lt_of_lt_of_le Nat.zero_lt_one (lE rfl))  rfl (tl hd 4 76) (tl hd 6 78) hv_x_38) (fun q=>by obtain ⟨q0,q1⟩:=q; cases q0 <;> exact Imp.refl)⟩) (fun _ _=>rfl) (fun _ _=>rfl)) ?_
      refine dS 9 (fun γ ρ B hb hd=>Zae lb (tl hd 0 72) (fun e v h=>by subst h; rfl))<|dS 10 (fun γ ρ B hb hd=>Zad (off:=0) lb Za6 (tl hd 8 80))<|dR 11 (fun γ ρ B hb hd=>Zag.at ⟨ρ,(zq21 gb10 go14 L11 gc15 qc2)::B,_⟩ (setO ⟨ρ,(zq21 gb10 (deo (γ 7 0)) x38 (γ 7 1) qc2)::B,_⟩ _ _) (Zb4 (j:=0) tS46 (tl hd 9 81) (tl hd 7 79) rfl ((UpdR.fst (UpdR.self (by rfl))).at (by change 0 = (0 + 0); omega)) rfl)) ?_
      exact Zat.nil)
         (by decide +kernel) (fun _=>rfl) (fun _=>rfl) (fun _=>rfl) rfl
         (ρ':=fun γ=>[(0,ov (PTR gb6 0)),(1,ov (S (rL (rI .i64)) a1)),(5,ov (PTR gb10 0)),(6,ov (S (rI .i64) x33)),(7,ov (S (rI .i64) x13))])
         (X':=fun γ=>[zq16 gb6 go8 x7 gc9 qc2 ql3 qj4 qe5,cown go8 Zab x7 0 gc9,cvar gb19 Zab x37,cown (deo (γ 7 0)) Zab x38 0 (γ 7 1),zq21 gb10 (deo (γ 7 0)) x38 (γ 7 1) qc2])
         (fun γ ρ hb hd=>(.cons (hb 0 _ rfl) (.cons (hb 1 _ rfl) (.cons (hb 5 _ rfl) (.cons (hb 6 _ rfl) (.cons (hb 7 _ rfl) .nil)))))) (fun _=>rfl) (fun γ=>?_)
     generalize (deo (γ 7 0)) = go39
     generalize (γ 7 1) = gc40
     clear γ
     refine JQ.at ⟨[(0,ov (PTR gb6 0)),(1,ov (S (rL (rI .i64)) a1)),(5,ov (PTR gb10 0)),(6,ov (S (rI .i64) x33)),(7,ov (S (rI .i64) x13))],[zq16 gb6 go8 x7 gc9 qc2 ql3 qj4 qe5,cown go8 Zab x7 0 gc9,cvar gb19 Zab x37,cown go39 Zab x38 0 gc40,zq21 gb10 go39 x38 gc40 qc2],[]⟩<|JQ.outNB<|JQ.then<|JC.region<|jmv rfl rfl<|lI hq4 fun v41 hv41 hq4=>jc (Zbx lb tR .cI (cs hv41))<|jc (Zac lb tR)<|JL.nil ?_
     try obtain rfl:=so hq4
     exact JQ.next (go39,gc40) rfl (Imp.norm (js:=[0,0,2,1]) rfl (.cons rfl (.cons rfl (.cons rfl (.cons rfl (.cons rfl .nil))))))
   refine jr<|jmv rfl rfl<|lI hx4 fun v21 hv21 hx4=>jc (Zan lb tR .cI (cs hv21))<|jn<|jif tR hx4 (fun hc5 hx4=>?_) (fun hc5 hx4=>?_)
   · refine bI hx4 fun x31 hx6 hq6=>JC.seqJ (γ:=Unit) (stj:=fun _=>⟨[(0,ov (PTR gb6 0)),(1,ov (S (rL (rI .i64)) a1)),(5,ov (PTR gb10 0)),(6,ov (S (rI .i64) x12)),(7,ov (S (rI .i64) x13)),(8,ov (PTR gb19 0)),(10,ov (S (rI .i64) x31))],[zq16 gb6 go8 x7 gc9 qc2 ql3 qj4 qe5,cown go8 Zab x7 0 gc9,zq21 gb10 go14 L11 gc15 qc2,cown go14 Zab L11 0 gc15,cvar gb19 Zab v18],[]⟩) (fun _=>?_) ?_
     · refine JC.region<|jmv rfl rfl<|lI hq6 fun v32 hv32 hq6=>jc (Zbx lb tR .cI (cs hv32))<|jc (Zac lb tR)<|JL.nil ?_
       have hz:=Option.some.inj hq6
       replace hz:=Prod.mk.inj hz
       obtain ⟨hz_a,hz⟩:=hz
       first | subst hz_a | clear hz_a
       first | subst hz | clear hz
       exact JQ.join () (Imp.norm (js:=[0,0,0,0,0]) rfl (.cons rfl (.cons rfl (.cons rfl (.cons rfl (.cons rfl (.cons rfl (.cons rfl .nil))))))))
     refine bI hx6 fun x26 hx7 hq7=>JC.seqJ (γ:=Unit) (stj:=fun _=>⟨[(0,ov (PTR gb6 0)),(1,ov (S (rL (rI .i64)) a1)),(5,ov (PTR gb10 0)),(6,ov (S (rI .i64) x12)),(7,ov (S (rI .i64) x13)),(8,ov (PTR gb19 0)),(9,ov (S (rI .i64) v20)),(10,ov (S (rI .i64) v18.Lasts)),(53,ov (S rB x26))],[zq16 gb6 go8 x7 gc9 qc2 ql3 qj4 qe5,cown go8 Zab x7 0 gc9,zq21 gb10 go14 L11 gc15 qc2,cown go14 Zab L11 0 gc15,cvar gb19 Zab v18],[]⟩) (fun _=>?_) ?_
     · refine jif tR hq7 (fun hc14 hq7=>?_) (fun hc14 hq7=>?_)
       · refine JC.region<|jmv rfl rfl<|jmv rfl rfl<|jmv rfl rfl<|bI hq7 fun v27 hv27 hq7=>jc (ZaZ lb tu34 tz3 tR tR hv27)<|jc (ZbE lb tS3 rfl tR rfl)<|jmv rfl rfl<|lI hq7 fun v28 hv28 hq7=>jc (Zbx lb tR .cI (cs hv28))<|bI hq7 fun v29 hv29 hq7=>jc (Zbx lb tR tR hv29)<|lI hq7 fun v30 hv30 hq7=>jc (Zbx lb tR tR (cs hv30))<|jc (Zac lb tR)<|JL.nil ?_
         try obtain rfl:=so hq7
         exact JQ.join () (Imp.norm (js:=[0,0,0,0,0]) rfl (.cons rfl (.cons rfl (.cons rfl (.cons rfl (.cons rfl (.cons rfl (.cons rfl .nil))))))))
       refine JC.skip ?_
       try obtain rfl:=so hq7
       exact JQ.join () (Imp.norm (js:=[0,0,0,0,0]) rfl (.cons rfl (.cons rfl (.cons rfl (.cons rfl (.cons rfl (.cons rfl (.cons rfl .nil))))))))
     refine JC.region<|jmv rfl rfl<|jmv rfl rfl<|jc (Zcc lb tu34 tR)<|lI hx7 fun v22 hv22 hx7=>jc (Zan lb tR tR (cs hv22))<|JL.sub ⟨[(0,ov (PTR gb6 0)),(1,ov (S (rL (rI .i64)) a1)),(5,ov (PTR gb10 0)),(6,ov (S (rI .i64) x12)),(7,ov (S (rI .i64) x13)),(8,ov (PTR gb19 0)),(9,ov (S (rI .i64) v20)),(10,ov (S (rI .i64) v18.Lasts)),(46,ov (S rB v22))],[zq16 gb6 go8 x7 gc9 qc2 ql3 qj4 qe5,cown go8 Zab x7 0 gc9,zq21 gb10 go14 L11 gc15 qc2,cown go14 Zab L11 0 gc15,cvar gb19 Zab v18],[]⟩ (.cons rfl (.cons rfl (.cons rfl (.cons rfl (.cons rfl (.cons rfl (.cons rfl (.cons rfl (.cons rfl .nil))))))))) rfl rfl<|jmv rfl rfl<|jT (ov (S (rL (rI .i64)) a1)) rfl rfl rfl rfl (fun hq8=>Zai lb tR)<|jT (ov (S (rI .i64) x12)) rfl rfl rfl rfl (fun hq9=>Zai lb tR)<|bI hx7 fun v23 hv23 hx7=>jT (ov (PT (rI .i64) v23)) rfl rfl rfl rfl (fun hq10=>ZaZ lb tu34 tz3 (HasO.cnd tR hq10) (HasO.cnd tR hq10) (ifT hv23 hq10)) ?_
     refine jT (ov (S (rI .i64) v23)) rfl rfl rfl rfl (fun hq11=>ZbE lb tS3 rfl (HasO.cnd tR hq11) rfl)<|lI hx7 fun v24 hv24 hx7=>jT (ov (S rB v24)) rfl rfl rfl rfl (fun hq12=>Zan lb (HasO.cnd tR hq12) .cI (cs hv24))<|lI hx7 fun v25 hv25 hx7=>jc (Za8 lb tR (fun hb13=>(HasO.cnd tR hb13)) (fun hb13=>.cB) hv25)<|JL.nil ?_
     try obtain rfl:=so hx7
     exact JQ.join () (Imp.norm (js:=[0,0,0,0,0]) rfl (.cons rfl (.cons rfl (.cons rfl (.cons rfl (.cons rfl (.cons rfl (.cons rfl (.cons rfl (.cons rfl .nil))))))))))
   refine JC.skip ?_
   have hz:=Option.some.inj hx4
   replace hz:=Prod.mk.inj hz
   obtain ⟨hz_a,hz⟩:=hz
   first | subst hz_a | clear hz_a
   first | subst hz | clear hz
   exact JQ.join () (Imp.norm (js:=[0,0,0,0,0]) rfl (.cons rfl (.cons rfl (.cons rfl (.cons rfl (.cons rfl (.cons rfl (.cons rfl .nil))))))))
 refine JC.exit<|JQ.outX ?_
 try obtain rfl:=so hx
 have ht:=hr _ rfl
 have hq2:=cs ht
 clear hr ht
 refine JQ.outX<|JQ.here ?_
 try obtain rfl:=so hq2
 exact JQ.join (go14,gc15) (Imp.norm (js:=[2,2,0,0]) rfl (.cons rfl .nil))

theorem ZdP (k : Nat) (a1 : Za7) (qc2 : Int) (ql3 : Int) (qj4 : Bool) (qe5 : Int) (x7 : (List Zah)) (gb6 : Nat) (go8 : Option Nat) (gc9 : Nat) (r : Int × (List Zah) × Int × Bool × Int) (hm : ZaD k a1 qc2 ql3 qj4 qe5 x7 = some r) : Sim Try.prog 20 [PTR gb6 0,A Zaj a1] [zq16 gb6 go8 x7 gc9 qc2 ql3 qj4 qe5,cown go8 Zab x7 0 gc9] (γ:=Nat × Option Nat × Nat) (fun q=>[cvar q.1 (rP (rW (HDR q.2.1 0 (List.length r.2.1) q.2.2)) (rP (rI .i64) (rP (rI .i64) (rP rB (rP (rI .i64) r0))))) ((),(qc2,(r.2.2.1,(r.2.2.2.1,(r.2.2.2.2,()))))),cown q.2.1 Zab r.2.1 0 q.2.2]) (fun q=>.tup [.val (S (rI .i64) r.1),.val (PTR q.1 0)]):=by
 unfold ZaD at hm
 refine Sim.of Try.func20 rfl rfl (lE rfl) (fun e0 w0=>?_)
 refine JC.at ⟨[(0,ov (PTR gb6 0)),(1,ov (A Zaj a1))],[zq16 gb6 go8 x7 gc9 qc2 ql3 qj4 qe5,cown go8 Zab x7 0 gc9],[]⟩<|jr<|jx (Zd4 lb tR) fun gb10=>jc (Zac lb .cI)<|jc (Zac lb (HasO.const (p:=PTO none) fun _=>rfl))<|jn<|bI hm fun tv1 hx1 hq1=>JC.seqK (α:=Int) (γ:=Unit) (stj:=fun v q=>⟨[(0,ov (PTR gb6 0))],[cvar gb6 (zq10 go8 x7 gc9) ((),(qc2,(v,(qj4,(qe5,()))))),cown go8 Zab x7 0 gc9],[]⟩) (p:=fun v=>tv1 = (.inl v)) (fun v q hv=>?_) ?_
 · subst hv
   obtain ⟨ql55,hvv⟩ : ∃ z,z = v:=⟨_,rfl⟩
   subst hvv
   obtain _:=q
   dsimp only at hq1
   refine JC.at ⟨[(0,ov (PTR gb6 0))],[zq16 gb6 go8 x7 gc9 qc2 ql55 qj4 qe5,cown go8 Zab x7 0 gc9],[]⟩<|jr<|jmv rfl rfl<|jc (Zac lb .cI)<|jc (Zac lb tR)<|jn<|JC.ret ?_
   obtain rfl:=so hq1
   exact JQ.done (js:=[0,0]) (ss:=[.val (S (rI .i64) (0 : Int)),.val (PTR gb6 0)]) (gb6,go8,gc9) (.inl rfl) (.nil rfl) rfl (.cons (.tmp rfl) (.cons (.tmp rfl) .nil)) rfl rfl rfl
 refine jr<|jc (Zad (off:=0) lb Zkc tR)<|jc (Zam (j:=2) lb tS3 tR rfl (cT (ZdH a1) rfl) rfl rfl)<|jn<|JC.block<|jr<|lI hx1 fun v11 hv11 hx1=>jc (Zan lb tR .cI (cs hv11))<|jc (Zac lb tR)<|jn<|jif tR hx1 (fun hc2 hx1=>?_) (fun hc2 hx1=>?_)
 · refine jr<|jmv rfl rfl<|jc (Zad (off:=2) lb Zdj tR)<|jc (Zam (j:=2) lb tS9 tR rfl (cT (Zav a1) rfl) rfl rfl)<|JL.sub ⟨[(0,ov (PTR gb6 0)),(3,ov (PTR gb10 0)),(4,ov (S (rI .i64) (0 : Int))),(5,ov (PTO none)),(10,ov (PTR gb6 0)),(12,ov (S rS a1.Name))],[zq16 gb6 go8 x7 gc9 qc2 ql3 qj4 qe5,cown go8 Zab x7 0 gc9,cvar gb10 Zaj a1],[]⟩ (.cons rfl (.cons rfl (.cons rfl (.cons rfl (.cons rfl (.cons rfl .nil)))))) rfl rfl<|jc (Zad (off:=4) lb Zig tR)<|jc (Zam (j:=2) lb tS31 tR rfl (cT (ZcL a1) rfl) rfl rfl) ?_
   obtain ⟨⟨v12,x13,x14,x15,x16⟩,hv12,hx1⟩:=Zas hx1
   refine jx (Zak (js:=[0,0]) ld cl44 (Zdk k a1.Name a1.B qc2 ql3 qj4 qe5 x7 gb6 go8 gc9 (v12,x13,x14,x15,x16) hv12) .func (.cons tR (.cons tR (.cons tR .nil))) rfl) (fun q=>?_)
   obtain ⟨go17,gc18⟩:=q
   refine jmv rfl rfl<|jc (Zac lb tR)<|jc (Zac lb tR)<|jn<|JC.ret<|JQ.outRB ?_
   try obtain rfl:=so hx1
   dsimp only at hq1
   refine JQ.outR ?_
   obtain rfl:=so hq1
   exact JQ.done (js:=[0,0]) (ss:=[.val (S (rI .i64) v12),.val (PTR gb6 0)]) (gb6,go17,gc18) (.inl rfl) (.nil rfl) rfl (.cons (.tmp rfl) (.cons (.tmp rfl) .nil)) rfl rfl rfl
 refine jr<|lI hx1 fun v19 hv19 hx1=>jc (Zan lb tR .cI (cs hv19))<|jc (Zac lb tR)<|jn<|jif tR hx1 (fun hc3 hx1=>?_) (fun hc3 hx1=>?_)
 · refine jr<|jmv rfl rfl<|JL.sub ⟨[(0,ov (PTR gb6 0)),(3,ov (PTR gb10 0)),(4,ov (S (rI .i64) (0 : Int))),(5,ov (PTO none)),(19,ov (PTR gb6 0))],[zq16 gb6 go8 x7 gc9 qc2 ql3 qj4 qe5,cown go8 Zab x7 0 gc9,cvar gb10 Zaj a1],[]⟩ (.cons rfl (.cons rfl (.cons rfl (.cons rfl (.cons rfl .nil))))) rfl rfl<|jc (Zad (off:=2) lb Zdj tR)<|jc (Zam (j:=2) lb tS9 tR rfl (cT (Zav a1) rfl) rfl rfl) ?_
   obtain ⟨⟨v20,x21,x22,x23,x24⟩,hv20,hx1⟩:=Zas hx1
   refine jx (Zak (js:=[0,0]) ld cl45 (ZdG k a1.Name qc2 ql3 qj4 qe5 x7 gb6 go8 gc9 (v20,x21,x22,x23,x24) hv20) .func (.cons tR (.cons tR .nil)) rfl) fun _=>jmv rfl rfl<|jc (Zac lb tR)<|jc (Zac lb tR)<|jn<|JC.ret<|JQ.outRB ?_
   try obtain rfl:=so hx1
   dsimp only at hq1
   refine JQ.outR ?_
   obtain rfl:=so hq1
   exact JQ.done (js:=[0,0]) (ss:=[.val (S (rI .i64) v20),.val (PTR gb6 0)]) (gb6,go8,gc9) (.inl rfl) (.nil rfl) rfl (.cons (.tmp rfl) (.cons (.tmp rfl) .nil)) rfl rfl rfl
 refine jr<|lI hx1 fun v25 hv25 hx1=>jc (Zan lb tR .cI (cs hv25))<|JL.sub ⟨[(0,ov (PTR gb6 0)),(3,ov (PTR gb10 0)),(7,ov (S (rI .i64) a1.Kind)),(25,ov (S rB v25))],[zq16 gb6 go8 x7 gc9 qc2 ql3 qj4 qe5,cown go8 Zab x7 0 gc9,cvar gb10 Zaj a1],[]⟩ (.cons rfl (.cons rfl (.cons rfl (.cons rfl .nil)))) rfl rfl<|jc (Zac lb tR)<|jn<|jif tR hx1 (fun hc4 hx1=>?_) (fun hc4 hx1=>?_)
 · refine jr<|jmv rfl rfl<|jc (Zad (off:=2) lb Zdj tR)<|jc (Zam (j:=2) lb tS9 tR rfl (cT (Zav a1) rfl) rfl rfl)<|jc (Zad (off:=1) lb ZhT tR)<|jc (Zam (j:=2) lb tS3 tR rfl (cT (ZcN a1) rfl) rfl rfl) ?_
   obtain ⟨⟨v26,x27,x28,x29,x30⟩,hv26,hx1⟩:=Zas hx1
   refine jx (Zak (js:=[0,0]) ld cl46 (ZdC k a1.Name a1.N qc2 ql3 qj4 qe5 x7 gb6 go8 gc9 (v26,x27,x28,x29,x30) hv26) .func (.cons tR (.cons tR (.cons tR .nil))) rfl) fun _=>jmv rfl rfl<|jc (Zac lb tR)<|jc (Zac lb tR)<|JL.nrm ⟨[(4,ov (S (rI .i64) v26)),(5,ov (PTR gb6 0))],[cvar gb6 (zq10 go8 x27 gc9) ((),(qc2,(x28,(x29,(x30,()))))),cown go8 Zab x27 0 gc9],[]⟩ [0,0] rfl (.cons rfl (.cons rfl .nil)) rfl<|jn<|JC.ret<|JQ.outRB ?_
   try obtain rfl:=so hx1
   dsimp only at hq1
   refine JQ.outR ?_
   obtain rfl:=so hq1
   exact JQ.done (js:=[0,0]) (ss:=[.val (S (rI .i64) v26),.val (PTR gb6 0)]) (gb6,go8,gc9) (.inl rfl) (.nil rfl) rfl (.cons (.tmp rfl) (.cons (.tmp rfl) .nil)) rfl rfl rfl
 refine jr<|lI hx1 fun v31 hv31 hx1=>jc (Zan lb tR .cI (cs hv31))<|jc (Zac lb tR)<|jn<|jif tR hx1 (fun hc5 hx1=>?_) (fun hc5 hx1=>?_)
 · refine jr<|jmv rfl rfl<|jc (Zad (off:=2) lb Zdj tR)<|jc (Zam (j:=2) lb tS9 tR rfl (cT (Zav a1) rfl) rfl rfl)<|jc (Zad (off:=3) lb Zi9 tR)<|jc (Zam (j:=2) lb tS9 tR rfl (cT (Zdi a1) rfl) rfl rfl) ?_
   obtain ⟨⟨v32,x33,x34,x35,x36⟩,hv32,hx1⟩:=Zas hx1
   refine jx (Zak (js:=[0,0]) ld cl47 (Zdl k a1.Name a1.To qc2 ql3 qj4 qe5 x7 gb6 go8 gc9 (v32,x33,x34,x35,x36) hv32) .func (.cons tR (.cons tR (.cons tR .nil))) rfl) (fun q=>?_)
   obtain ⟨go37,gc38⟩:=q
   refine jmv rfl rfl<|JL.nrm ⟨[(40,ov (S (rI .i64) v32)),(41,ov (PTR gb6 0))],[zq16 gb6 go37 x33 gc38 qc2 x34 x35 x36,cown go37 Zab x33 0 gc38],[]⟩ [0,0] rfl (.cons rfl (.cons rfl .nil)) rfl<|jc (Zac lb tR)<|jc (Zac lb tR)<|jn<|JC.ret<|JQ.outRB ?_
   try obtain rfl:=so hx1
   dsimp only at hq1
   refine JQ.outR ?_
   obtain rfl:=so hq1
   exact JQ.done (js:=[0,0]) (ss:=[.val (S (rI .i64) v32),.val (PTR gb6 0)]) (gb6,go37,gc38) (.inl rfl) (.nil rfl) rfl (.cons (.tmp rfl) (.cons (.tmp rfl) .nil)) rfl rfl rfl
 refine jr<|lI hx1 fun v39 hv39 hx1=>jc (Zan lb tR .cI (cs hv39))<|jc (Zac lb tR)<|jn<|jif tR hx1 (fun hc6 hx1=>?_) (fun hc6 hx1=>?_)
 · refine jr<|jmv rfl rfl<|jc (Zad (off:=2) lb Zdj tR)<|jc (Zam (j:=2) lb tS9 tR rfl (cT (Zav a1) rfl) rfl rfl) ?_
   obtain ⟨⟨v40,x41,x42,x43,x44⟩,hv40,hx1⟩:=Zas hx1
   refine jx (Zak (js:=[0,0]) ld cl48 (Zdv k a1.Name qc2 ql3 qj4 qe5 x7 gb6 go8 gc9 (v40,x41,x42,x43,x44) hv40) .func (.cons tR (.cons tR .nil)) rfl) (fun q=>?_)
   obtain ⟨go45,gc46⟩:=q
   refine jmv rfl rfl<|JL.nrm ⟨[(47,ov (S (rI .i64) v40)),(48,ov (PTR gb6 0))],[zq16 gb6 go45 x41 gc46 qc2 x42 x43 x44,cown go45 Zab x41 0 gc46],[]⟩ [0,0] rfl (.cons rfl (.cons rfl .nil)) rfl<|jc (Zac lb tR)<|jc (Zac lb tR)<|jn<|JC.ret<|JQ.outRB ?_
   try obtain rfl:=so hx1
   dsimp only at hq1
   refine JQ.outR ?_
   obtain rfl:=so hq1
   exact JQ.done (js:=[0,0]) (ss:=[.val (S (rI .i64) v40),.val (PTR gb6 0)]) (gb6,go45,gc46) (.inl rfl) (.nil rfl) rfl (.cons (.tmp rfl) (.cons (.tmp rfl) .nil)) rfl rfl rfl
 refine jr<|lI hx1 fun v47 hv47 hx1=>jc (Zan lb tR .cI (cs hv47))<|jc (Zac lb tR)<|jn<|jif tR hx1 (fun hc7 hx1=>?_) (fun hc7 hx1=>?_)
 · refine jr<|jmv rfl rfl<|jc (Zae lb tR (fun e v h=>by subst h; rfl))<|jc (Zad (off:=3) lb Zes tR)<|jc (Zam (j:=0) lb tS4 tR rfl (Comp.trans (Comp.self (zq10 go8 x7 gc9) ((),(qc2,(ql3,(qj4,(qe5,())))))) (Comp.at' (Comp.inS (Comp.inS (Comp.inS (Comp.inF (Comp.self rB qj4) (lE rfl))))) (by rfl : _ = 3)) (lE rfl)) rfl rfl)<|lI hx1 fun v48 hv48 hx1=>jc (Zce lb tR hv48)<|JL.sub ⟨[(0,ov (PTR gb6 0)),(3,ov (PTR gb10 0)),(55,ov (S rB v48))],[zq16 gb6 go8 x7 gc9 qc2 ql3 qj4 qe5,cown go8 Zab x7 0 gc9,cvar gb10 Zaj a1],[]⟩ (.cons rfl (.cons rfl (.cons rfl .nil))) rfl rfl<|jn<|jif tR hx1 (fun hc8 hx1=>?_) (fun hc8 hx1=>?_)
   · refine JC.region<|jmv rfl rfl<|jc (Zad (off:=1) lb ZhT tR)<|jc (Zam (j:=2) lb tS3 tR rfl (cT (ZcN a1) rfl) rfl rfl)<|bI hx1 fun x49 hv_x_49 hx1=>jx (Zak (js:=[0,0]) ld cl49 (ZdL k a1.N qc2 ql3 qj4 qe5 x7 gb6 go8 gc9 x49 hv_x_49) .func (.cons tR (.cons tR .nil)) rfl) fun _=>JL.nil<|JQ.outNB ?_
     try obtain rfl:=so hx1
     exact JQ.joinK x49 () rfl (Imp.norm (js:=[0,0]) rfl (.cons rfl .nil))
   refine JC.skip<|JQ.outNB ?_
   try obtain rfl:=so hx1
   refine JQ.pre (Imp.var (j:=0) (q:=(zq10 go8 x7 gc9)) (y:=((),(qc2,(ql3,(qj4,(qe5,())))))) rfl Wk.refl) ?_
   exact JQ.joinK ql3 () rfl (Imp.norm (js:=[0,0]) rfl (.cons rfl .nil))
 refine jr<|lI hx1 fun v50 hv50 hx1=>jc (Zan lb tR .cI (cs hv50))<|jc (Zac lb tR)<|jn<|jif tR hx1 (fun hc9 hx1=>?_) (fun hc9 hx1=>?_)
 · refine jr<|jmv rfl rfl<|jc (Zad (off:=5) lb Zjl tR)<|jc (Zam (j:=2) lb tS34 tR rfl (cT (ZcO a1) rfl) rfl rfl)<|JL.nrm ⟨[(62,ov (PTR gb6 0)),(64,ov (S (rL (rI .i64)) a1.Keep))],[zq16 gb6 go8 x7 gc9 qc2 ql3 qj4 qe5,cown go8 Zab x7 0 gc9],[]⟩ [0,0] rfl (.cons rfl (.cons rfl .nil)) rfl<|bI hx1 fun v51 hv51 hx1=>jx (Zak (js:=[0,0]) ld cl50 (Zdy k a1.Keep qc2 ql3 qj4 qe5 x7 gb6 go8 gc9 v51 hv51) .func (.cons tR (.cons tR .nil)) rfl) (fun q=>?_)
   obtain ⟨gb52,go53,gc54⟩:=q
   refine jc (Zac lb .cI)<|jc (Zac lb tR)<|jn<|JC.ret<|JQ.outRB ?_
   try obtain rfl:=so hx1
   dsimp only at hq1
   refine JQ.outR ?_
   obtain rfl:=so hq1
   exact JQ.done (js:=[0,0]) (ss:=[.val (S (rI .i64) (0 : Int)),.val (PTR gb52 0)]) (gb52,go53,gc54) (.inl rfl) (.nil rfl) rfl (.cons (.tmp rfl) (.cons (.tmp rfl) .nil)) rfl rfl rfl
 refine JC.skip<|JQ.outNB ?_
 try obtain rfl:=so hx1
 refine JQ.pre (Imp.var (j:=0) (q:=(zq10 go8 x7 gc9)) (y:=((),(qc2,(ql3,(qj4,(qe5,())))))) rfl Wk.refl) ?_
 exact JQ.joinK ql3 () rfl (Imp.norm (js:=[0,0]) rfl (.cons rfl .nil))

end Go.Proofs.Ytipchpbcjkhnaaa
