/- Walks. -/
import Derived.Test.YtipchpbcjkhnaaaT
import Derived.Test.YtipchpbcjkhnaaaW0
import Derived.Test.YtipchpbcjkhnaaaW1
namespace Go.Proofs.Ytipchpbcjkhnaaa
open Go Fw
set_option linter.unusedVariables false
set_option maxRecDepth 100000
set_option maxHeartbeats 4000000

theorem ZbJ (k : Nat) (qb1 : Int) (fuse2 : Int) (qh3 : Bool) (qd4 : Int) (x6 : (List ((List UInt8) × Zaf))) (gb5 : Nat) (go7 : Option Nat) (qm8 : ((List UInt8) → Nat)) (r : (List (List UInt8)) × (List Int)) (hm : disk_Disk_Files_p_smvvvvm k qb1 fuse2 qh3 qd4 x6 = some r) : Sim Try.prog 15 [PTR gb5 0] [cvar gb5 (zq1 go7) ((),(qb1,(fuse2,(qh3,(qd4,()))))),cqm go7 (S rS) Zaa qm8 (some x6)] (γ:=Nat × Option Nat × Nat × Nat × Option Nat × Nat) (fun q=>[cvar q.1 (rW (HDR q.2.1 0 (List.length r.1) q.2.2.1)) (),cown q.2.1 rS r.1 0 q.2.2.1,cvar q.2.2.2.1 (rW (HDR q.2.2.2.2.1 0 (List.length r.2) q.2.2.2.2.2)) (),cown q.2.2.2.2.1 (rI .i64) r.2 0 q.2.2.2.2.2,cvar gb5 (zq1 go7) ((),(qb1,(fuse2,(qh3,(qd4,()))))),cqm go7 (S rS) Zaa qm8 (some x6)]) (fun q=>.one (.val (CLO 40 [PTR q.1 0,PTR q.2.2.2.1 0]))):=by
 unfold disk_Disk_Files_p_smvvvvm at hm
 refine Sim.of Try.func15 rfl rfl (lE rfl) (fun e0 w0=>?_)
 refine JC.at ⟨[(0,ov (PTR gb5 0))],[cvar gb5 (zq1 go7) ((),(qb1,(fuse2,(qh3,(qd4,()))))),cqm go7 (S rS) Zaa qm8 (some x6)],[]⟩<|jr<|jc (Zac lb (HasO.const (p:=NILF) fun _=>rfl))<|jn<|jr<|jx (Zcd lb tZ75 zr75) fun gb9=>jn<|jr<|jx (Zcd lb tZ34 zr34) fun gb10=>jn ?_
 obtain ⟨⟨names34,qq35⟩,hx1,hq1⟩:=Zas hm
 refine JC.seqJ (γ:=Option Nat × Nat × Option Nat × Nat) (stj:=fun q=>⟨[(3,ov (PTR gb9 0)),(4,ov (PTR gb10 0))],[cvar gb9 (rW (HDR q.1 0 (List.length names34) q.2.1)) (),cown q.1 rS names34 0 q.2.1,cvar gb10 (rW (HDR q.2.2.1 0 (List.length qq35) q.2.2.2)) (),cown q.2.2.1 (rI .i64) qq35 0 q.2.2.2,cvar gb5 (zq1 go7) ((),(qb1,(fuse2,(qh3,(qd4,()))))),cqm go7 (S rS) Zaa qm8 (some x6)],[]⟩) (fun q=>?_) ?_
 · obtain ⟨go36,gc37,go38,gc39⟩:=q
   refine JC.at ⟨[(3,ov (PTR gb9 0)),(4,ov (PTR gb10 0))],[cvar gb9 (rW (HDR go36 0 (List.length names34) gc37)) (),cown go36 rS names34 0 gc37,cvar gb10 (rW (HDR go38 0 (List.length qq35) gc39)) (),cown go38 (rI .i64) qq35 0 gc39,cvar gb5 (zq1 go7) ((),(qb1,(fuse2,(qh3,(qd4,()))))),cqm go7 (S rS) Zaa qm8 (some x6)],[]⟩<|jr<|jc (ZcH lb (.cons tR (.cons tR .nil)))<|jc (Zac lb tR)<|jn<|JC.ret ?_
   obtain rfl:=so hq1
   exact JQ.done (js:=[0,0,0,0,0,0]) (ss:=[.val (CLO 40 [PTR gb9 0,PTR gb10 0])]) (gb9,go36,gc37,gb10,go38,gc39) (.inl rfl) (.nil rfl) rfl (.cons (.tmp rfl) .nil) rfl rfl rfl
 refine jr<|jmv rfl rfl<|bI hx1 fun _ hv_u_11 hx1=>jx (Zak (js:=[0,0]) ld cl34 (ZaA k qb1 fuse2 qh3 qd4 x6 gb5 go7 qm8 () hv_u_11) .func (.cons tR .nil) rfl) fun _=>jn<|JC.condT tR rfl<|jr<|jmv rfl rfl<|JL.sub ⟨[(0,ov (PTR gb5 0)),(3,ov (PTR gb9 0)),(4,ov (PTR gb10 0)),(9,ov (PTR gb5 0))],[cvar gb5 (zq1 go7) ((),(qb1,(fuse2,(qh3,(qd4,()))))),cqm go7 (S rS) Zaa qm8 (some x6),cvar gb9 (rW (HDR none 0 0 0)) (),cvar gb10 (rW (HDR none 0 0 0)) ()],[]⟩ (.cons rfl (.cons rfl (.cons rfl (.cons rfl .nil)))) rfl rfl<|jc (Zae lb tR (fun e v h=>by subst h; rfl))<|jc (Zad (off:=0) lb Zct tR)<|jc (Zal (j:=0) lb tS62 tR rfl (Comp.trans (Comp.self (zq1 go7) ((),(qb1,(fuse2,(qh3,(qd4,())))))) (Comp.at' (Comp.inF (Comp.self (rW (MPV go7)) ()) (lE rfl)) (by rfl : _ = 0)) (lE rfl))) ?_
 obtain ⟨_,hv_u_13,hx1⟩:=Zas hx1
 refine jx (Zak (js:=[1]) ld cl39 (Zb8 k x6 go7 qm8 () hv_u_13) .func (.cons tR .nil) rfl) fun gb12=>bI hx1 fun l14 hv_l_14 hx1=>jx (Zak (js:=[0,0]) ld cl38 (Ziu ZjT tu9 hv_l_14) .func (.cons tR .nil) rfl) (fun q=>?_)
 obtain ⟨go15,gc16⟩:=q
 refine jc (Zb4 (j:=4) tS75 tR tR rfl (UpdR.self (by rfl)) rfl)<|JL.nrm ⟨[(0,ov (PTR gb5 0)),(3,ov (PTR gb9 0)),(4,ov (PTR gb10 0))],[cqm go7 (S rS) Zaa qm8 (some x6),cown go15 rS l14 0 gc16,cvar gb5 (zq1 go7) ((),(qb1,(fuse2,(qh3,(qd4,()))))),cvar gb9 (rW (HDR go15 0 (List.length l14) gc16)) (),cvar gb10 (rW (HDR none 0 0 0)) ()],[]⟩ [1,1,1,1,1] rfl (.cons rfl (.cons rfl (.cons rfl .nil))) rfl<|jn<|jr<|jc (Zal (j:=3) lb tS75 tR rfl (Comp.self (rW (HDR go15 0 (List.length l14) gc16)) ()))<|jc (Zb2 lb tu75 tR)<|jc (Zai lb .cI)<|jn<|JC.block<|bI hx1 fun qq31 hL2 hq2=>JC.pre (Imp.nilown (rI .i64))<|JC.pre ?_ (JC.loop (γ:=Option Nat × Nat) (stf:=fun s q=>⟨[(0,ov (PTR gb5 0)),(3,ov (PTR gb9 0)),(4,ov (PTR gb10 0)),(15,ov (HDR go15 0 (List.length l14) gc16)),(16,ov (S (rI .i64) (List.length l14 : Int))),(17,ov (S (rI .i64) s.2))],[cvar gb5 (zq1 go7) ((),(qb1,(fuse2,(qh3,(qd4,()))))),cqm go7 (S rS) Zaa qm8 (some x6),cvar gb9 (rW (HDR go15 0 (List.length l14) gc16)) (),cown go15 rS l14 0 gc16,cvar gb10 (rW (HDR q.1 0 (List.length s.1) q.2)) (),cown q.1 (rI .i64) s.1 0 q.2],[]⟩) (q:=(none,0)) hL2 ?_)
 · exact (Imp.norm (js:=[2,0,1,0,0,0]) rfl (.cons rfl (.cons rfl (.cons rfl (.cons rfl (.cons rfl (.cons rfl .nil)))))))
 intro s q x hx hr
 obtain ⟨qq17,x18⟩:=s
 obtain ⟨go19,gc20⟩:=q
 change disk_Disk_Files_p_smvvvvm.b1 k l14 x6 qq17 x18 = some x at hx
 unfold disk_Disk_Files_p_smvvvvm.b1 at hx
 refine JC.at ⟨[(0,ov (PTR gb5 0)),(3,ov (PTR gb9 0)),(4,ov (PTR gb10 0)),(15,ov (HDR go15 0 (List.length l14) gc16)),(16,ov (S (rI .i64) (List.length l14 : Int))),(17,ov (S (rI .i64) x18))],[cvar gb5 (zq1 go7) ((),(qb1,(fuse2,(qh3,(qd4,()))))),cqm go7 (S rS) Zaa qm8 (some x6),cvar gb9 (rW (HDR go15 0 (List.length l14) gc16)) (),cown go15 rS l14 0 gc16,cvar gb10 (rW (HDR go19 0 (List.length qq17) gc20)) (),cown go19 (rI .i64) qq17 0 gc20],[]⟩<|jr<|lI hx fun v21 hv21 hx=>jc (Zan lb tR tR (cs hv21))<|jn<|JC.seq<|jif tR hx (fun hc3 hx=>?_) (fun hc3 hx=>?_)
 · refine JC.skip<|JQ.then<|JC.seq<|JC.block<|jr<|bI hx fun i22 hv_i_22 hx=>jc (Zap (r:=rS) (j:=3) lb tu75 tz9 rfl tR tR hv_i_22)<|bI hx fun v23 hv23 hx=>jc (Zbf (r:=rS) (i:=i22) (off:=0) (j:=3) lb tS9 rfl rfl tR hv23 (Comp.self rS v23) (by decide))<|jc (Zac lb tR)<|jn<|lI hx fun f24 hv_f_24 hx=>bI hx fun u25 hv_u_25 hx=>?_
   obtain ⟨u26,hv_u_26,hx⟩:=Zas hx
   obtain ⟨x27,hv_x_27,hx⟩:=Zas hx
   refine JC.anyF (base:=[(0,ov (PTR gb5 0)),(3,ov (PTR gb9 0)),(4,ov (PTR gb10 0)),(6,ov (S rS v23)),(15,ov (HDR go15 0 (List.length l14) gc16)),(16,ov (S (rI .i64) (List.length l14 : Int))),(17,ov (S (rI .i64) x18))])
       (fs:=fun γ=>[⟨some 21,ov (HDR go19 0 (List.length qq17) gc20)⟩,⟨some 22,ov (PTR gb5 0)⟩,⟨some 23,ov (PTR gb5 0)⟩,⟨some 24,ov (PTR gb5 (0 + 0))⟩,⟨some 25,ov (MPV go7)⟩,⟨some 26,ov (S rS v23)⟩,⟨some 27,ov (PTO (Option.map (fun _=>qm8 v23) f24))⟩,⟨some 28,ov (PTR (qm8 v23) 0)⟩,⟨some 29,ov (PTR (qm8 v23) (0 + 0))⟩,⟨some 30,ov (S (rL (rU UInt8)) u26.b)⟩,⟨some 31,ov (S (rI .i64) (List.length u26.b : Int))⟩,⟨some 32,ov (S (rL (rI .i64)) ([(List.length u26.b : Int)] : (List Int)))⟩,⟨some 33,ov (HDR (deo (γ 12 0)) 0 (List.length x27) (γ 12 1))⟩,⟨none,.one .any⟩])
       (rs:=fun γ=>[⟨cvar gb5 (zq1 go7) ((),(qb1,(fuse2,(qh3,(qd4,()))))),none,none,[4]⟩,⟨cqm go7 (S rS) Zaa qm8 (some x6),none,none,[6,9]⟩,⟨cvar gb9 (rW (HDR go15 0 (List.length l14) gc16)) (),none,none,[]⟩,⟨cown go15 rS l14 0 gc16,none,none,[]⟩,⟨cvar gb10 (rW (HDR go19 0 (List.length qq17) gc20)) (),none,(some 13),[0]⟩,⟨cown go19 (rI .i64) qq17 0 gc20,none,(some 12),[]⟩,⟨cown (deo (γ 12 0)) (rI .i64) x27 0 (γ 12 1),(some 12),none,[]⟩,⟨cvar gb10 (rW (HDR (deo (γ 12 0)) 0 (List.length x27) (γ 12 1))) (),(some 13),none,[]⟩])
       (afts:=[[],[],[],[],[],[],[],[],[],[],[],[],[12,13],[]]) (js:=[0,0,0,0,0,0]) mixed (.cons rfl (.cons rfl (.cons rfl (.cons rfl (.cons rfl (.cons rfl (.cons rfl .nil))))))) (fun _=>rfl)
       (by
      refine dR 1 (fun γ ρ B hb hd=>Zag.lk ⟨ρ,(cvar gb10 (rW (HDR go19 0 (List.length qq17) gc20)) ())::B,_⟩ (Zal (j:=0) lb tS34 (.tmp (hb 4 _ rfl)) rfl (Comp.self (rW (HDR go19 0 (List.length qq17) gc20)) ())))<|db 2 0<|dS 3 (fun γ ρ B hb hd=>Zae lb (tl hd 1 22) (fun e v h=>by subst h; rfl))<|dS 4 (fun γ ρ B hb hd=>Zad (off:=0) lb Zct (tl hd 2 23))<|dR 5 (fun γ ρ B hb hd=>Zag.lk ⟨ρ,(cvar gb5 (zq1 go7) ((),(qb1,(fuse2,(qh3,(qd4,()))))))::B,_⟩ (Zal (j:=0) lb tS62 (tl hd 3 24) rfl (Comp.trans (Comp.self (zq1 go7) ((),(qb1,(fuse2,(qh3,(qd4,())))))) (Comp.at' (Comp.inF (Comp.self (rW (MPV go7)) ()) (lE rfl)) (by rfl : _ = 0)) (lE rfl)))) ?_
      refine db 6 6<|dR 7 (fun γ ρ B hb hd=>Zag.lk ⟨ρ,(cqm go7 (S rS) Zaa qm8 (some x6))::B,_⟩ (Zc5 (j:=0) lb tu62 ky9 tZ69 rfl rfl (tl hd 4 25) (tl hd 5 26) hv_f_24))<|dS 8 (fun γ ρ B hb hd=>Zae lb (HasO.wk (tl hd 6 27) (Zdp hv_u_25)) (fun e v h=>by subst h; rfl))<|dS 9 (fun γ ρ B hb hd=>Zad (off:=0) lb Zdh (tl hd 7 28))<|dR 10 (fun γ ρ B hb hd=>Zag.lk ⟨ρ,(cqm go7 (S rS) Zaa qm8 (some x6))::B,_⟩ (ZbC (j:=0) (m:=(some x6)) lb tS31 (tl hd 8 29) rfl hv_u_26 (cT (Za9 u26) rfl) rfl rfl)) ?_
      refine dS 11 (fun γ ρ B hb hd=>Zcc lb tu31 (tl hd 9 30))<|dS 12 (fun γ ρ B hb hd=>Zd8 (r:=(rI .i64)) lb tu34 tz3 tZ3 rfl (lE rfl) (.S rfl (tl hd 10 31) .nil) rfl) ?_
      refine Zat.cons (j:=13) rfl (fun _=>rfl) (.runX (fun _ _=>rfl) (fun γ ρ B hb hd=>⟨.none,OpX.ghost (γ:=Option Nat × Nat) (st':=fun q=>setO ⟨ρ,(cown q.1 (rI .i64) x27 0 q.2)::B,_⟩ (some 33) (ov (HDR q.1 0 (List.length x27) q.2))) (fun q c=>bif Nat.beq c 0 then eno q.1 else q.2) (Zcg (j:=0) lb tu34 tu34 rfl tB3 rfl (Nat.lt_of_lt_of_le Nat.zero_lt_one (lE rfl)) (Nat.lt_of_lt_of_le Nat.zero_lt_one (lE rfl))  rfl (tl hd 0 21) (tl hd 11 32) hv_x_27) (fun q=>by obtain ⟨q0,q1⟩:=q; cases q0 <;> exact Imp.refl)⟩) (fun _ _=>rfl) (fun _ _=>rfl)) ?_
      refine dR 14 (fun γ ρ B hb hd=>Zag.at ⟨ρ,(cvar gb10 (rW (HDR go19 0 (List.length qq17) gc20)) ())::B,_⟩ (setO ⟨ρ,(cvar gb10 (rW (HDR (deo (γ 12 0)) 0 (List.length x27) (γ 12 1))) ())::B,_⟩ _ _) (Zb4 (j:=0) tS34 (.tmp (hb 4 _ rfl)) (tl hd 12 33) rfl (UpdR.self (by rfl)) rfl)) ?_
      exact Zat.nil)
       (by decide +kernel) (fun _=>rfl) (fun _=>rfl) (fun _=>rfl) rfl
       (ρ':=fun γ=>[(0,ov (PTR gb5 0)),(3,ov (PTR gb9 0)),(4,ov (PTR gb10 0)),(15,ov (HDR go15 0 (List.length l14) gc16)),(16,ov (S (rI .i64) (List.length l14 : Int))),(17,ov (S (rI .i64) x18))])
       (X':=fun γ=>[cvar gb5 (zq1 go7) ((),(qb1,(fuse2,(qh3,(qd4,()))))),cqm go7 (S rS) Zaa qm8 (some x6),cvar gb9 (rW (HDR go15 0 (List.length l14) gc16)) (),cown go15 rS l14 0 gc16,cown (deo (γ 12 0)) (rI .i64) x27 0 (γ 12 1),cvar gb10 (rW (HDR (deo (γ 12 0)) 0 (List.length x27) (γ 12 1))) ()])
       (fun γ ρ hb hd=>(.cons (hb 0 _ rfl) (.cons (hb 3 _ rfl) (.cons (hb 4 _ rfl) (.cons (hb 15 _ rfl) (.cons (hb 16 _ rfl) (.cons (hb 17 _ rfl) .nil))))))) (fun _=>rfl) (fun γ=>?_)
   generalize (deo (γ 12 0)) = go28
   generalize (γ 12 1) = gc29
   clear γ
   refine JQ.at ⟨[(0,ov (PTR gb5 0)),(3,ov (PTR gb9 0)),(4,ov (PTR gb10 0)),(15,ov (HDR go15 0 (List.length l14) gc16)),(16,ov (S (rI .i64) (List.length l14 : Int))),(17,ov (S (rI .i64) x18))],[cvar gb5 (zq1 go7) ((),(qb1,(fuse2,(qh3,(qd4,()))))),cqm go7 (S rS) Zaa qm8 (some x6),cvar gb9 (rW (HDR go15 0 (List.length l14) gc16)) (),cown go15 rS l14 0 gc16,cown go28 (rI .i64) x27 0 gc29,cvar gb10 (rW (HDR go28 0 (List.length x27) gc29)) ()],[]⟩<|JQ.outNB<|JQ.then<|JC.region<|lI hx fun v30 hv30 hx=>jc (Zbx lb tR .cI (cs hv30))<|jmv rfl rfl<|JL.nil ?_
   try obtain rfl:=so hx
   exact JQ.next (go28,gc29) rfl (Imp.norm (js:=[0,0,0,0,1,0]) rfl (.cons rfl (.cons rfl (.cons rfl (.cons rfl (.cons rfl (.cons rfl .nil)))))))
 refine JC.exit<|JQ.outX ?_
 try obtain rfl:=so hx
 try obtain rfl:=hr _ rfl
 refine JQ.outX<|JQ.here ?_
 have hz:=Option.some.inj hq2
 replace hz:=Prod.mk.inj hz
 obtain ⟨hz_a,hz⟩:=hz
 first | subst hz_a | clear hz_a
 first | subst hz | clear hz
 exact JQ.join (go15,gc16,go19,gc20) (Imp.norm (js:=[2,2,2,2,0,0]) rfl (.cons rfl (.cons rfl .nil)))

theorem ZbK {σ τ γ : Type} (k : Nat) (Y1 : (σ → ((List UInt8) × Int) → Option (σ ⊕ τ))) (x2 : (σ ⊕ τ)) (x5 : (List (List UInt8))) (x9 : (List Int)) (gq3 : γ) (gb4 : Nat) (go6 : Option Nat) (gc7 : Nat) (gb8 : Nat) (go10 : Option Nat) (gc11 : Nat) (L : Nat) (C : σ ⊕ τ → γ → ZaQ) (hY : YSim Try.prog L (fun (u : (List UInt8) × Int) (z : Unit)=>[S rS u.1,S (rI .i64) u.2]) (fun (u : (List UInt8) × Int) (z : Unit)=>[]) Y1 C) (r : (σ ⊕ τ)) (hm : disk_Disk_Files_1_ypp_loo k Y1 x2 x5 x9 = some r) : Sim Try.prog 40 [YLD L,PTR gb4 0,PTR gb8 0] [C x2 gq3,cvar gb4 (rW (HDR go6 0 (List.length x5) gc7)) (),cown go6 rS x5 0 gc7,cvar gb8 (rW (HDR go10 0 (List.length x9) gc11)) (),cown go10 (rI .i64) x9 0 gc11] (γ:=γ) (fun q=>[C r q,cvar gb4 (rW (HDR go6 0 (List.length x5) gc7)) (),cown go6 rS x5 0 gc7,cvar gb8 (rW (HDR go10 0 (List.length x9) gc11)) (),cown go10 (rI .i64) x9 0 gc11]) (fun q=>.tup []):=by
 unfold disk_Disk_Files_1_ypp_loo at hm
 refine Sim.of Try.func40 rfl rfl (lE rfl) (fun e0 w0=>?_)
 refine JC.at ⟨[(0,ov (YLD L)),(1,ov (PTR gb4 0)),(2,ov (PTR gb8 0))],[C x2 gq3,cvar gb4 (rW (HDR go6 0 (List.length x5) gc7)) (),cown go6 rS x5 0 gc7,cvar gb8 (rW (HDR go10 0 (List.length x9) gc11)) (),cown go10 (rI .i64) x9 0 gc11],[]⟩<|jr<|jc (Zal (j:=1) lb tS75 tR rfl (Comp.self (rW (HDR go6 0 (List.length x5) gc7)) ()))<|jc (Zb2 lb tu75 tR)<|jc (Zai lb .cI)<|jn<|JC.block<|bI hm fun tv1 hL1 hq1=>JC.pre ?_ (JC.loop (γ:=γ) (stf:=fun s q=>⟨[(0,ov (YLD L)),(2,ov (PTR gb8 0)),(6,ov (HDR go6 0 (List.length x5) gc7)),(7,ov (S (rI .i64) (List.length x5 : Int))),(8,ov (S (rI .i64) s.2))],[C s.1 q,cvar gb8 (rW (HDR go10 0 (List.length x9) gc11)) (),cown go10 (rI .i64) x9 0 gc11,cown go6 rS x5 0 gc7,cvar gb4 (rW (HDR go6 0 (List.length x5) gc7)) ()],[]⟩) (q:=gq3) hL1 ?_)
 · exact (Imp.norm (js:=[0,2,2,1,0]) rfl (.cons rfl (.cons rfl (.cons rfl (.cons rfl (.cons rfl .nil))))))
 intro s q x hx hr
 obtain ⟨x12,x13⟩:=s
 obtain ⟨gq14,hqq⟩ : ∃ z,z = q:=⟨_,rfl⟩
 subst hqq
 change disk_Disk_Files_1_ypp_loo.b1 k x5 x9 Y1 x12 x13 = some x at hx
 unfold disk_Disk_Files_1_ypp_loo.b1 at hx
 refine JC.at ⟨[(0,ov (YLD L)),(2,ov (PTR gb8 0)),(6,ov (HDR go6 0 (List.length x5) gc7)),(7,ov (S (rI .i64) (List.length x5 : Int))),(8,ov (S (rI .i64) x13))],[C x12 gq14,cvar gb8 (rW (HDR go10 0 (List.length x9) gc11)) (),cown go10 (rI .i64) x9 0 gc11,cown go6 rS x5 0 gc7,cvar gb4 (rW (HDR go6 0 (List.length x5) gc7)) ()],[]⟩<|jr<|lI hx fun v15 hv15 hx=>jc (Zan lb tR tR (cs hv15))<|jn<|JC.seq<|jif tR hx (fun hc2 hx=>?_) (fun hc2 hx=>?_)
 · refine JC.skip<|JQ.then<|JC.seq<|JC.block<|jr<|jmv rfl rfl<|bI hx fun i16 hv_i_16 hx=>jc (Zap (r:=rS) (j:=3) lb tu75 tz9 rfl tR tR hv_i_16)<|bI hx fun v17 hv17 hx=>jc (Zbf (r:=rS) (i:=i16) (off:=0) (j:=3) lb tS9 rfl rfl tR hv17 (Comp.self rS v17) (by decide))<|jc (Zac lb tR)<|jc (Zac lb tR)<|jn<|jr<|jmv rfl rfl<|jmv rfl rfl<|jc (Zal (j:=1) lb tS34 tR rfl (Comp.self (rW (HDR go10 0 (List.length x9) gc11)) ()))<|jmv rfl rfl<|bI hx fun i18 hv_i_18 hx=>jc (Zap (r:=(rI .i64)) (j:=2) lb tu34 tz3 rfl tR tR hv_i_18) ?_
   refine bI hx fun v19 hv19 hx=>jc (Zbf (r:=(rI .i64)) (i:=i18) (off:=0) (j:=2) lb tS3 rfl rfl tR hv19 (Comp.self (rI .i64) v19) (by decide))<|JL.sub ⟨[(0,ov (YLD L)),(2,ov (PTR gb8 0)),(6,ov (HDR go6 0 (List.length x5) gc7)),(7,ov (S (rI .i64) (List.length x5 : Int))),(8,ov (S (rI .i64) x13)),(13,ov (YLD L)),(14,ov (S rS v17)),(18,ov (S (rI .i64) v19))],[C x12 gq14,cvar gb8 (rW (HDR go10 0 (List.length x9) gc11)) (),cown go10 (rI .i64) x9 0 gc11,cown go6 rS x5 0 gc7,cvar gb4 (rW (HDR go6 0 (List.length x5) gc7)) ()],[]⟩ (.cons rfl (.cons rfl (.cons rfl (.cons rfl (.cons rfl (.cons rfl (.cons rfl (.cons rfl .nil)))))))) rfl rfl<|bI hx fun y20 hv_y_20 hx=>jx (ZkN (js:=[0]) (u:=(v17,v19)) (z:=()) (rest:=_) lb hY tR (.cons tR (.cons tR .nil)) rfl hv_y_20) fun gq21=>lI hx fun v22 hv22 hx=>jc (Zce lb tR hv22)<|jn<|jif tR hx (fun hc3 hx=>?_) (fun hc3 hx=>?_)
   · refine JC.ret<|JQ.outRB<|JQ.outR ?_
     try obtain rfl:=so hx
     try obtain rfl:=hr _ rfl
     dsimp only at hq1
     refine JQ.outR<|JQ.outRB ?_
     obtain rfl:=so hq1
     exact JQ.done (js:=[0,3,2,0,0]) (ss:=[]) gq21 (.inl rfl) (.nil rfl) rfl .nil rfl rfl rfl
   refine JC.skip<|JQ.outNB<|JQ.then<|JC.region<|lI hx fun v23 hv23 hx=>jc (Zbx lb tR .cI (cs hv23))<|jmv rfl rfl<|JL.nil ?_
   try obtain rfl:=so hx
   exact JQ.next gq21 rfl (Imp.norm (js:=[0,0,0,0,0]) rfl (.cons rfl (.cons rfl (.cons rfl (.cons rfl (.cons rfl .nil))))))
 refine JC.exit<|JQ.outX ?_
 try obtain rfl:=so hx
 try obtain rfl:=hr _ rfl
 dsimp only at hq1
 refine JQ.outX<|JQ.here ?_
 obtain rfl:=so hq1
 exact JQ.done (js:=[0,3,2,0,0]) (ss:=[]) gq14 (.inr rfl) (.nil rfl) rfl .nil rfl rfl rfl

theorem Zcr (k : Nat) (a1 : (List Int)) (qb2 : Int) (qg3 : Int) (qh4 : Bool) (qd5 : Int) (x7 : (List ((List UInt8) × Zaf))) (gb6 : Nat) (go8 : Option Nat) (qm9 : ((List UInt8) → Nat)) (r : (List ((List UInt8) × Zaf))) (hm : disk_Disk_Crash_pv_smvvvvm k a1 qb2 qg3 qh4 qd5 x7 = some r) : Sim Try.prog 24 [PTR gb6 0,S (rL (rI .i64)) a1] [cvar gb6 (zq1 go8) ((),(qb2,(qg3,(qh4,(qd5,()))))),cqm go8 (S rS) Zaa qm9 (some x7)] (γ:=Nat × Option Nat × ((List UInt8) → Nat)) (fun q=>[cvar q.1 (rP (rW (MPV q.2.1)) (rP (rI .i64) (rP (rI .i64) (rP rB (rP (rI .i64) r0))))) ((),(qb2,((-1 : Int),(false,((0 : Int),()))))),cqm q.2.1 (S rS) Zaa q.2.2 (some r),cvar gb6 (zq1 go8) ((),(qb2,(qg3,(qh4,(qd5,()))))),cqm go8 (S rS) Zaa qm9 (some x7)]) (fun q=>.one (.val (PTR q.1 0))):=by
 unfold disk_Disk_Crash_pv_smvvvvm at hm
 refine Sim.of Try.func24 rfl rfl (lE rfl) (fun e0 w0=>?_)
 refine JC.at ⟨[(0,ov (PTR gb6 0)),(1,ov (S (rL (rI .i64)) a1))],[cvar gb6 (zq1 go8) ((),(qb2,(qg3,(qh4,(qd5,()))))),cqm go8 (S rS) Zaa qm9 (some x7)],[]⟩<|jr<|jx (ZdT lb tR) fun gb10=>jc (Zac lb (HasO.const (p:=PTO none) fun _=>rfl))<|jn<|jr<|jmv rfl rfl<|bI hm fun v11 hv11 hm=>jx (Zak (js:=[0,0]) ld cl18 (ZcC k qb2 qg3 qh4 qd5 x7 gb6 go8 qm9 v11 hv11) .func (.cons tR .nil) rfl) (fun q=>?_)
 obtain ⟨gb12,go13,qm14⟩:=q
 refine jx (Zcd lb tZ25 zr25) fun gb15=>jc (Zb4 (j:=5) tS25 tR tR rfl (UpdR.self (by rfl)) rfl)<|JL.sub ⟨[(0,ov (PTR gb6 0)),(3,ov (PTR gb10 0)),(5,ov (PTR gb15 0))],[cvar gb12 (zq1 go13) ((),(qb2,(qg3,(qh4,(qd5,()))))),cqm go13 (S rS) Zaa qm14 (some (v11)),cvar gb6 (zq1 go8) ((),(qb2,(qg3,(qh4,(qd5,()))))),cqm go8 (S rS) Zaa qm9 (some x7),cvar gb10 (rL (rI .i64)) a1,cvar gb15 (rW (PTR gb12 0)) ()],[]⟩ (.cons rfl (.cons rfl (.cons rfl .nil))) rfl rfl<|jn<|JC.seq<|jr<|jc (Zal (j:=5) lb tS25 tR rfl (Comp.self (rW (PTR gb12 0)) ()))<|jc (Zd2 (neg:=false) lb tu25 tR (HasO.const (p:=PTO none) fun _=>rfl))<|jn<|JC.condF tR rfl<|JC.skip<|JQ.then<|JC.seq ?_
 refine JC.anyF (base:=[(0,ov (PTR gb6 0)),(3,ov (PTR gb10 0)),(5,ov (PTR gb15 0))])
     (fs:=fun γ=>[⟨some 15,ov (PTR gb12 0)⟩,⟨some 16,ov (PTR gb12 0)⟩,⟨some 17,ov (PTR gb12 0)⟩,⟨some 18,ov (PTR gb12 0)⟩,⟨some 19,ov (PTR gb12 (0 + 2))⟩,⟨none,.one .any⟩,⟨some 20,ov (PTR gb12 0)⟩,⟨some 21,ov (PTR gb12 (0 + 3))⟩,⟨none,.one .any⟩,⟨some 22,ov (PTR gb12 0)⟩,⟨some 23,ov (PTR gb12 (0 + 4))⟩,⟨none,.one .any⟩])
     (rs:=fun γ=>[⟨cvar gb12 (zq1 go13) ((),(qb2,(qg3,(qh4,(qd5,()))))),none,(some 5),[]⟩,⟨cqm go13 (S rS) Zaa qm14 (some (v11)),none,none,[]⟩,⟨cvar gb6 (zq1 go8) ((),(qb2,(qg3,(qh4,(qd5,()))))),none,none,[]⟩,⟨cqm go8 (S rS) Zaa qm9 (some x7),none,none,[]⟩,⟨cvar gb10 (rL (rI .i64)) a1,none,none,[]⟩,⟨cvar gb15 (rW (PTR gb12 0)) (),none,none,[0,1,2]⟩,⟨zq6 gb12 go13 qb2 qh4 qd5,(some 5),(some 8),[]⟩,⟨zq7 gb12 go13 qb2 qd5,(some 8),(some 11),[]⟩,⟨zq8 gb12 go13 qb2,(some 11),none,[]⟩])
     (afts:=nn 12) (js:=[0,0,0,0,0,0]) mixed (.cons rfl (.cons rfl (.cons rfl .nil))) (fun _=>rfl)
     (by
      refine dR 1 (fun γ ρ B hb hd=>Zag.lk ⟨ρ,(cvar gb15 (rW (PTR gb12 0)) ())::B,_⟩ (Zal (j:=0) lb tS25 (.tmp (hb 5 _ rfl)) rfl (Comp.self (rW (PTR gb12 0)) ())))<|dR 2 (fun γ ρ B hb hd=>Zag.lk ⟨ρ,(cvar gb15 (rW (PTR gb12 0)) ())::B,_⟩ (Zal (j:=0) lb tS25 (.tmp (hb 5 _ rfl)) rfl (Comp.self (rW (PTR gb12 0)) ())))<|dR 3 (fun γ ρ B hb hd=>Zag.lk ⟨ρ,(cvar gb15 (rW (PTR gb12 0)) ())::B,_⟩ (Zal (j:=0) lb tS25 (.tmp (hb 5 _ rfl)) rfl (Comp.self (rW (PTR gb12 0)) ())))<|dS 4 (fun γ ρ B hb hd=>Zae lb (tl hd 0 15) (fun e v h=>by subst h; rfl))<|dS 5 (fun γ ρ B hb hd=>Zad (off:=2) lb Zcs (tl hd 3 18)) ?_
      refine dR 6 (fun γ ρ B hb hd=>Zag.at ⟨ρ,(cvar gb12 (zq1 go13) ((),(qb2,(qg3,(qh4,(qd5,()))))))::B,_⟩ (setO ⟨ρ,(zq6 gb12 go13 qb2 qh4 qd5)::B,_⟩ _ _) (ZaL (j:=0) tS3 (tl hd 4 19) .cI rfl rfl ((UpdR.snd (UpdR.snd (UpdR.fst (UpdR.self (by rfl))))).at (by change (1 + (1 + 0)) = (0 + 2); omega)) rfl))<|dS 7 (fun γ ρ B hb hd=>Zae lb (tl hd 1 16) (fun e v h=>by subst h; rfl))<|dS 8 (fun γ ρ B hb hd=>Zad (off:=3) lb Zd0 (tl hd 6 20))<|dR 9 (fun γ ρ B hb hd=>Zag.at ⟨ρ,(zq6 gb12 go13 qb2 qh4 qd5)::B,_⟩ (setO ⟨ρ,(zq7 gb12 go13 qb2 qd5)::B,_⟩ _ _) (ZaL (j:=0) tS4 (tl hd 7 21) .cB rfl rfl ((UpdR.snd (UpdR.snd (UpdR.snd (UpdR.fst (UpdR.self (by rfl)))))).at (by change (1 + (1 + (1 + 0))) = (0 + 3); omega)) rfl))<|dS 10 (fun γ ρ B hb hd=>Zae lb (tl hd 2 17) (fun e v h=>by subst h; rfl)) ?_
      refine dS 11 (fun γ ρ B hb hd=>Zad (off:=4) lb ZdZ (tl hd 9 22))<|dR 12 (fun γ ρ B hb hd=>Zag.at ⟨ρ,(zq7 gb12 go13 qb2 qd5)::B,_⟩ (setO ⟨ρ,(zq8 gb12 go13 qb2)::B,_⟩ _ _) (ZaL (j:=0) tS3 (tl hd 10 23) .cI rfl rfl ((UpdR.snd (UpdR.snd (UpdR.snd (UpdR.snd (UpdR.fst (UpdR.self (by rfl))))))).at (by change (1 + (1 + (1 + (1 + 0)))) = (0 + 4); omega)) rfl)) ?_
      exact Zat.nil)
     (by decide +kernel) (fun _=>rfl) (fun _=>rfl) (fun _=>rfl) rfl
     (ρ':=fun γ=>[(0,ov (PTR gb6 0)),(3,ov (PTR gb10 0)),(5,ov (PTR gb15 0))])
     (X':=fun γ=>[cqm go13 (S rS) Zaa qm14 (some (v11)),cvar gb6 (zq1 go8) ((),(qb2,(qg3,(qh4,(qd5,()))))),cqm go8 (S rS) Zaa qm9 (some x7),cvar gb10 (rL (rI .i64)) a1,cvar gb15 (rW (PTR gb12 0)) (),zq8 gb12 go13 qb2])
     (fun γ ρ hb hd=>(.cons (hb 0 _ rfl) (.cons (hb 3 _ rfl) (.cons (hb 5 _ rfl) .nil)))) (fun _=>rfl) (fun γ=>?_)
 refine JQ.at ⟨[(0,ov (PTR gb6 0)),(3,ov (PTR gb10 0)),(5,ov (PTR gb15 0))],[cqm go13 (S rS) Zaa qm14 (some (v11)),cvar gb6 (zq1 go8) ((),(qb2,(qg3,(qh4,(qd5,()))))),cqm go8 (S rS) Zaa qm9 (some x7),cvar gb10 (rL (rI .i64)) a1,cvar gb15 (rW (PTR gb12 0)) (),zq8 gb12 go13 qb2],[]⟩<|JQ.then<|jr<|jx (Zcd lb tZ3 zr3) fun gb16=>jc (ZaL (j:=6) tS3 tR .cI rfl rfl (UpdR.self (by rfl)) rfl)<|jn<|bI hm fun x63 hx1 hq1=>JC.seqJ (γ:=List Nat) (stj:=fun q=>⟨[(5,ov (PTR gb15 0))],[cvar gb15 (rW (PTR gb12 0)) (),zq8 gb12 go13 qb2,cqm go13 (S rS) Zaa qm14 (some x63),cvar gb6 (zq1 go8) ((),(qb2,(qg3,(qh4,(qd5,()))))),cqm go8 (S rS) Zaa qm9 (some x7),Zcq q],q⟩) (fun q=>?_) ?_
 · obtain ⟨gK64,hqq⟩ : ∃ z,z = q:=⟨_,rfl⟩
   subst hqq
   refine JC.at ⟨[(5,ov (PTR gb15 0))],[cvar gb15 (rW (PTR gb12 0)) (),zq8 gb12 go13 qb2,cqm go13 (S rS) Zaa qm14 (some x63),cvar gb6 (zq1 go8) ((),(qb2,(qg3,(qh4,(qd5,()))))),cqm go8 (S rS) Zaa qm9 (some x7),Zcq gK64],gK64⟩<|jr<|jc (Zal (j:=0) lb tS25 tR rfl (Comp.self (rW (PTR gb12 0)) ()))<|jc (Zac lb tR)<|jn<|JC.ret ?_
   obtain rfl:=so hq1
   exact JQ.doneL (j:=5) (js:=[1,1,1,1]) (ss:=[.val (PTR gb12 0)]) (gb12,go13,qm14) (.inl rfl) rfl rfl (.cons (.tmp rfl) .nil) rfl rfl rfl
 refine jr<|jmv rfl rfl ?_
 obtain ⟨⟨v17,x18⟩,hv17,hx1⟩:=Zas hx1
 refine jx (Zak (js:=[1,1]) ld cl15 (ZbJ k qb2 qg3 qh4 qd5 x7 gb6 go8 qm9 (v17,x18) hv17) .func (.cons tR .nil) rfl) (fun q=>?_)
 obtain ⟨gb19,go20,gc21,gb22,go23,gc24⟩:=q
 refine jn<|JC.block<|bI hx1 fun tv2 hL2 hq2=>JC.pre (st':=⟨[(3,ov (PTR gb10 0)),(5,ov (PTR gb15 0)),(6,ov (PTR gb16 0)),(25,ov (CLO 40 [PTR gb19 0,PTR gb22 0]))],[cvar gb19 (rW (HDR go20 0 (List.length v17) gc21)) (),cown go20 rS v17 0 gc21,cvar gb22 (rW (HDR go23 0 (List.length x18) gc24)) (),cown go23 (rI .i64) x18 0 gc24,cvar gb10 (rL (rI .i64)) a1,cvar gb15 (rW (PTR gb12 0)) (),zq8 gb12 go13 qb2,cqm go13 (S rS) Zaa qm14 (some (v11)),cvar gb16 (rI .i64) (0 : Int),cvar gb6 (zq1 go8) ((),(qb2,(qg3,(qh4,(qd5,()))))),cqm go8 (S rS) Zaa qm9 (some x7)],[]⟩) (Imp.norm (js:=[0,0,0,0,3,3,3,2,2,0,0]) rfl (.cons rfl (.cons rfl (.cons rfl (.cons rfl .nil))))) ?_
 replace hx1:=hq2
 refine JC.rangeFunc (γ:=Unit) (γ':=(Unit)) (r:=tv2) (js:=[0,0,0,0]) (qf:=fun g=>g) (X':=fun g=>[cvar gb19 (rW (HDR go20 0 (List.length v17) gc21)) (),cown go20 rS v17 0 gc21,cvar gb22 (rW (HDR go23 0 (List.length x18) gc24)) (),cown go23 (rI .i64) x18 0 gc24]) (sv:=fun _=>.tup [])
     (fun (u : (List UInt8) × Int) (z : Unit)=>[S rS u.1,S (rI .i64) u.2]) (fun (u : (List UInt8) × Int) (z : Unit)=>[]) (fun (s : (List ((List UInt8) × Zaf)) × Int) (u : (List UInt8) × Int)=>disk_Disk_Crash_pv_smvvvvm.y1 k a1 s.1 s.2 u.1 u.2) (fun (s : (List ((List UInt8) × Zaf)) × Int) q=>[cvar gb10 (rL (rI .i64)) a1,cvar gb15 (rW (PTR gb12 0)) (),zq8 gb12 go13 qb2,cqm go13 (S rS) Zaa qm14 (some s.1),cvar gb16 (rI .i64) s.2,cvar gb6 (zq1 go8) ((),(qb2,(qg3,(qh4,(qd5,()))))),cqm go8 (S rS) Zaa qm9 (some x7)]) (fun (t : Empty) q=>nomatch t) (fun (t : Empty)=>nomatch t) [(3,ov (PTR gb10 0)),(5,ov (PTR gb15 0)),(6,ov (PTR gb16 0))] ((v11),(0 : Int)) () rfl tR cl40 rfl (.cons rfl (.cons rfl (.cons rfl .nil))) (fun _ _=>rfl) (by decide) rfl ?_ (fun L C hY=>ZbK k (fun (s : (List ((List UInt8) × Zaf)) × Int) (u : (List UInt8) × Int)=>disk_Disk_Crash_pv_smvvvvm.y1 k a1 s.1 s.2 u.1 u.2) (Sum.inl ((v11),(0 : Int))) v17 x18 () gb19 go20 gc21 gb22 go23 gc24 L C hY tv2 hL2) ?_ ?_
 · intro e1 w1 F1 L K lp s q u z y hx hlp
   obtain ⟨x25,x26⟩:=s
   obtain ⟨a27,a28⟩:=u
   change disk_Disk_Crash_pv_smvvvvm.y1 k a1 x25 x26 a27 a28 = some y at hx
   unfold disk_Disk_Crash_pv_smvvvvm.y1 at hx
   refine JC.at ⟨[(26,ov (S rS a27)),(27,ov (S (rI .i64) a28)),(3,ov (PTR gb10 0)),(5,ov (PTR gb15 0)),(6,ov (PTR gb16 0))],[cLK L K (.loop lp),cvar gb10 (rL (rI .i64)) a1,cvar gb15 (rW (PTR gb12 0)) (),zq8 gb12 go13 qb2,cqm go13 (S rS) Zaa qm14 (some x25),cvar gb16 (rI .i64) x26,cvar gb6 (zq1 go8) ((),(qb2,(qg3,(qh4,(qd5,()))))),cqm go8 (S rS) Zaa qm9 (some x7)],[]⟩<|JC.region<|jc (Zac lb tR)<|JL.nil<|JQ.begin (j:=0) hlp rfl<|JC.block<|jr<|jc (Zal (j:=2) lb tS25 tR rfl (Comp.self (rW (PTR gb12 0)) ()))<|jc (Zae lb tR (fun e v h=>by subst h; rfl))<|jc (Zad (off:=0) lb Zct tR)<|jc (Zal (j:=3) lb tS62 tR rfl (Comp.trans (Comp.self (zq1 go13) ((),(qb2,((-1 : Int),(false,((0 : Int),())))))) (Comp.at' (Comp.inF (Comp.self (rW (MPV go13)) ()) (lE rfl)) (by rfl : _ = 0)) (lE rfl)))<|jmv rfl rfl<|lI hx fun f29 hv_f_29 hx=>jc (Zc5 (j:=4) lb tu62 ky9 tZ69 rfl rfl tR tR hv_f_29)<|jc (Zac lb tR)<|jn<|JC.seq<|bI hx fun u30 hv_u_30 hx=>?_
   obtain ⟨u31,hv_u_31,hx⟩:=Zas hx
   refine bI hx fun u32 hv_u_32 hx=>bI hx fun u33 hv_u_33 hx=>?_
   obtain ⟨v34,hv34,hx⟩:=Za2 hx
   refine JC.anyF (base:=[(3,ov (PTR gb10 0)),(6,ov (PTR gb16 0)),(8,ov (PTO (Option.map (fun _=>qm14 a27) f29)))])
       (fs:=fun γ=>[⟨some 34,ov (PTO (Option.map (fun _=>qm14 a27) f29))⟩,⟨some 35,ov (PTR (qm14 a27) 0)⟩,⟨some 36,ov (PTR (qm14 a27) (0 + 0))⟩,⟨some 37,ov (S (rL (rU UInt8)) u31.b)⟩,⟨some 38,ov (S (rI .i64) (List.length u31.b : Int))⟩,⟨some 39,ov (PTO (Option.map (fun _=>qm14 a27) f29))⟩,⟨some 40,ov (PTR (qm14 a27) 0)⟩,⟨some 41,ov (PTR (qm14 a27) (0 + 1))⟩,⟨some 42,ov (S (rI .i64) u33.lasts)⟩,⟨some 43,ov (S (rI .i64) v34)⟩,⟨some 9,ov (S (rI .i64) v34)⟩])
       (rs:=fun γ=>[⟨cLK L K (.loop { lp with state:=.busy }),none,none,[]⟩,⟨cvar gb10 (rL (rI .i64)) a1,none,none,[]⟩,⟨cvar gb15 (rW (PTR gb12 0)) (),none,none,[]⟩,⟨zq8 gb12 go13 qb2,none,none,[]⟩,⟨cqm go13 (S rS) Zaa qm14 (some x25),none,none,[3,8]⟩,⟨cvar gb16 (rI .i64) x26,none,none,[]⟩,⟨cvar gb6 (zq1 go8) ((),(qb2,(qg3,(qh4,(qd5,()))))),none,none,[]⟩,⟨cqm go8 (S rS) Zaa qm9 (some x7),none,none,[]⟩])
       (afts:=nn 11) (js:=[0,0,0,0,0,0,0,0]) mixed (.cons rfl (.cons rfl (.cons rfl .nil))) (fun _=>rfl)
       (by
      refine db 1 8<|dS 2 (fun γ ρ B hb hd=>Zae lb (HasO.wk (tl hd 0 34) (Zdp hv_u_30)) (fun e v h=>by subst h; rfl))<|dS 3 (fun γ ρ B hb hd=>Zad (off:=0) lb Zdh (tl hd 1 35))<|dR 4 (fun γ ρ B hb hd=>Zag.lk ⟨ρ,(cqm go13 (S rS) Zaa qm14 (some x25))::B,_⟩ (ZbC (j:=0) (m:=(some x25)) lb tS31 (tl hd 2 36) rfl hv_u_31 (cT (Za9 u31) rfl) rfl rfl))<|dS 5 (fun γ ρ B hb hd=>Zcc lb tu31 (tl hd 3 37)) ?_
      refine db 6 8<|dS 7 (fun γ ρ B hb hd=>Zae lb (HasO.wk (tl hd 5 39) (Zdp hv_u_32)) (fun e v h=>by subst h; rfl))<|dS 8 (fun γ ρ B hb hd=>Zad (off:=1) lb ZeE (tl hd 6 40))<|dR 9 (fun γ ρ B hb hd=>Zag.lk ⟨ρ,(cqm go13 (S rS) Zaa qm14 (some x25))::B,_⟩ (ZbC (j:=0) (m:=(some x25)) lb tS3 (tl hd 7 41) rfl hv_u_33 (cT (Zbv u33) rfl) rfl rfl))<|dS 10 (fun γ ρ B hb hd=>Zbx lb (tl hd 4 38) (tl hd 8 42) (cs hv34)) ?_
      refine dS 11 (fun γ ρ B hb hd=>Zac lb (tl hd 9 43)) ?_
      exact Zat.nil)
       (by decide +kernel) (fun _=>rfl) (fun _=>rfl) (fun _=>rfl) rfl
       (ρ':=fun γ=>[(3,ov (PTR gb10 0)),(6,ov (PTR gb16 0)),(8,ov (PTO (Option.map (fun _=>qm14 a27) f29))),(9,ov (S (rI .i64) v34))])
       (X':=fun γ=>[cLK L K (.loop { lp with state:=.busy }),cvar gb10 (rL (rI .i64)) a1,cvar gb15 (rW (PTR gb12 0)) (),zq8 gb12 go13 qb2,cqm go13 (S rS) Zaa qm14 (some x25),cvar gb16 (rI .i64) x26,cvar gb6 (zq1 go8) ((),(qb2,(qg3,(qh4,(qd5,()))))),cqm go8 (S rS) Zaa qm9 (some x7)])
       (fun γ ρ hb hd=>(.cons (hb 3 _ rfl) (.cons (hb 6 _ rfl) (.cons (hb 8 _ rfl) (.cons (hdq hd 10 9 rfl) .nil))))) (fun _=>rfl) (fun γ=>?_)
   refine JQ.at ⟨[(3,ov (PTR gb10 0)),(6,ov (PTR gb16 0)),(8,ov (PTO (Option.map (fun _=>qm14 a27) f29))),(9,ov (S (rI .i64) v34))],[cLK L K (.loop { lp with state:=.busy }),cvar gb10 (rL (rI .i64)) a1,cvar gb15 (rW (PTR gb12 0)) (),zq8 gb12 go13 qb2,cqm go13 (S rS) Zaa qm14 (some x25),cvar gb16 (rI .i64) x26,cvar gb6 (zq1 go8) ((),(qb2,(qg3,(qh4,(qd5,()))))),cqm go8 (S rS) Zaa qm9 (some x7)],[]⟩<|JQ.then<|JC.seq<|jr<|jmv rfl rfl<|lI hx fun v35 hv35 hx=>jc (Zan lb tR .cI (cs hv35))<|jn<|jif tR hx (fun hc3 hx=>?_) (fun hc3 hx=>?_)
   · exact JC.exit<|JQ.outX<|JQ.here<|JQ.rnext () (Option.some.inj hx).symm (Imp.norm (js:=[0,0,0,0,0,0,0,0]) rfl .nil)
   refine JC.skip<|JQ.then<|jr<|jc (Zac lb .cI)<|jn<|bI hx fun x44 hx4 hq4=>JC.seqJ (γ:=Unit) (stj:=fun _=>⟨[(6,ov (PTR gb16 0)),(8,ov (PTO (Option.map (fun _=>qm14 a27) f29))),(10,ov (S (rI .i64) x44))],[cvar gb16 (rI .i64) x26,cqm go13 (S rS) Zaa qm14 (some x25),cvar gb6 (zq1 go8) ((),(qb2,(qg3,(qh4,(qd5,()))))),cqm go8 (S rS) Zaa qm9 (some x7),cvar gb10 (rL (rI .i64)) a1,cvar gb15 (rW (PTR gb12 0)) (),zq8 gb12 go13 qb2,cLK L K (.loop { lp with state:=.busy })],[]⟩) (fun _=>?_) ?_
   · refine jr<|jc (Zam (j:=0) lb tS3 tR rfl (Comp.self (rI .i64) x26) rfl rfl)<|lI hq4 fun v45 hv45 hq4=>jc (Zbx lb tR .cI (cs hv45))<|jc (ZaL (j:=0) tS3 tR tR rfl rfl (UpdR.self (by rfl)) rfl)<|jn<|jr<|jmv rfl rfl<|bI hq4 fun u46 hv_u_46 hq4=>jc (Zae lb (HasO.wk tR (Zdp hv_u_46)) (fun e v h=>by subst h; rfl))<|jc (Zad (off:=1) lb ZeE tR)<|bI hq4 fun u47 hv_u_47 hq4=>jc (ZbC (j:=1) (m:=(some x25)) lb tS3 tR rfl hv_u_47 (cT (Zbv u47) rfl) rfl rfl)<|jmv rfl rfl<|lI hq4 fun v48 hv48 hq4=>jc (Zbx lb tR tR (cs hv48)) ?_
     refine bI hq4 fun u49 hv_u_49 hq4=>jc (Zae lb (HasO.wk tR (Zdp hv_u_49)) (fun e v h=>by subst h; rfl))<|JL.sub ⟨[(8,ov (PTO (Option.map (fun _=>qm14 a27) f29))),(71,ov (S (rI .i64) v48)),(72,ov (PTR (qm14 a27) 0))],[cvar gb16 (rI .i64) v45,cqm go13 (S rS) Zaa qm14 (some x25),cvar gb6 (zq1 go8) ((),(qb2,(qg3,(qh4,(qd5,()))))),cqm go8 (S rS) Zaa qm9 (some x7),cvar gb10 (rL (rI .i64)) a1,cvar gb15 (rW (PTR gb12 0)) (),zq8 gb12 go13 qb2,cLK L K (.loop { lp with state:=.busy })],[]⟩ (.cons rfl (.cons rfl (.cons rfl .nil))) rfl rfl<|jc (Zad (off:=1) lb ZeE tR)<|bI hq4 fun x51 hv_x_51 hq4=>jc (ZcV (j:=1) tS3 tR tR rfl rfl (fun u=>(Upd.trans (Comp.self Zaa u) (Upd.self Zaa u _) (Zc1 u v48)).R) (Zdt hv_x_51))<|jn<|bI hq4 fun u52 hv_u_52 hq4=>bI hq4 fun u53 hv_u_53 hq4=>?_
     obtain ⟨u54,hv_u_54,hq4⟩:=Zas hq4
     refine bI hq4 fun u55 hv_u_55 hq4=>bI hq4 fun v56 hv56 hq4=>bI hq4 fun u57 hv_u_57 hq4=>?_
     obtain ⟨x59,hv_x_59,hq4⟩:=Zas hq4
     refine JC.anyF (base:=[(8,ov (PTO (Option.map (fun _=>qm14 a27) f29)))])
         (fs:=fun γ=>[⟨some 74,ov (PTO (Option.map (fun _=>qm14 a27) f29))⟩,⟨some 75,ov (PTO (Option.map (fun _=>qm14 a27) f29))⟩,⟨some 76,ov (PTR (qm14 a27) 0)⟩,⟨some 77,ov (PTR (qm14 a27) (0 + 0))⟩,⟨some 78,ov (S (rL (rU UInt8)) u53.b)⟩,⟨some 79,ov (PTO (Option.map (fun _=>qm14 a27) f29))⟩,⟨some 80,ov (PTR (qm14 a27) 0)⟩,⟨some 81,ov (PTR (qm14 a27) (0 + 1))⟩,⟨some 82,ov (S (rI .i64) u55.lasts)⟩,⟨some 83,ov (S (rL (rU UInt8)) v56)⟩,⟨some 84,ov (PTR (qm14 a27) 0)⟩,⟨some 85,ov (PTR (qm14 a27) (0 + 0))⟩,⟨none,.one .any⟩])
         (rs:=fun γ=>[⟨cvar gb16 (rI .i64) v45,none,none,[]⟩,⟨cqm go13 (S rS) Zaa qm14 (some x51),none,(some 12),[4,8]⟩,⟨cvar gb6 (zq1 go8) ((),(qb2,(qg3,(qh4,(qd5,()))))),none,none,[]⟩,⟨cqm go8 (S rS) Zaa qm9 (some x7),none,none,[]⟩,⟨cvar gb10 (rL (rI .i64)) a1,none,none,[]⟩,⟨cvar gb15 (rW (PTR gb12 0)) (),none,none,[]⟩,⟨zq8 gb12 go13 qb2,none,none,[]⟩,⟨cLK L K (.loop { lp with state:=.busy }),none,none,[]⟩,⟨cqm go13 (S rS) Zaa qm14 (some x59),(some 12),none,[]⟩])
         (afts:=nn 13) (js:=[0,0,0,0,0,0,0,0]) mixed (.cons rfl .nil) (fun _=>rfl)
         (by
      refine db 1 8<|db 2 8<|dS 3 (fun γ ρ B hb hd=>Zae lb (HasO.wk (tl hd 1 75) (Zdp hv_u_52)) (fun e v h=>by subst h; rfl))<|dS 4 (fun γ ρ B hb hd=>Zad (off:=0) lb Zdh (tl hd 2 76))<|dR 5 (fun γ ρ B hb hd=>Zag.lk ⟨ρ,(cqm go13 (S rS) Zaa qm14 (some x51))::B,_⟩ (ZbC (j:=0) (m:=(some x51)) lb tS31 (tl hd 3 77) rfl hv_u_53 (cT (Za9 u53) rfl) rfl rfl)) ?_
      refine db 6 8<|dS 7 (fun γ ρ B hb hd=>Zae lb (HasO.wk (tl hd 5 79) (Zdp hv_u_54)) (fun e v h=>by subst h; rfl))<|dS 8 (fun γ ρ B hb hd=>Zad (off:=1) lb ZeE (tl hd 6 80))<|dR 9 (fun γ ρ B hb hd=>Zag.lk ⟨ρ,(cqm go13 (S rS) Zaa qm14 (some x51))::B,_⟩ (ZbC (j:=0) (m:=(some x51)) lb tS3 (tl hd 7 81) rfl hv_u_55 (cT (Zbv u55) rfl) rfl rfl))<|dS 10 (fun γ ρ B hb hd=>ZcJ lb tu31 tz5 (tl hd 4 78) .none (.some (tl hd 8 82)) hv56) ?_
      refine dS 11 (fun γ ρ B hb hd=>Zae lb (HasO.wk (tl hd 0 74) (Zdp hv_u_57)) (fun e v h=>by subst h; rfl))<|dS 12 (fun γ ρ B hb hd=>Zad (off:=0) lb Zdh (tl hd 10 84))<|dR 13 (fun γ ρ B hb hd=>Zag.at ⟨ρ,(cqm go13 (S rS) Zaa qm14 (some x51))::B,_⟩ (setO ⟨ρ,(cqm go13 (S rS) Zaa qm14 (some x59))::B,_⟩ _ _) (ZcV (j:=0) tS31 (tl hd 11 85) (tl hd 9 83) rfl rfl (fun u=>(Upd.trans (Comp.self Zaa u) (Upd.self Zaa u _) (Zda u v56)).R) (Zdt hv_x_59))) ?_
      exact Zat.nil)
         (by decide +kernel) (fun _=>rfl) (fun _=>rfl) (fun _=>rfl) rfl
         (ρ':=fun γ=>[])
         (X':=fun γ=>[cvar gb16 (rI .i64) v45,cvar gb6 (zq1 go8) ((),(qb2,(qg3,(qh4,(qd5,()))))),cqm go8 (S rS) Zaa qm9 (some x7),cvar gb10 (rL (rI .i64)) a1,cvar gb15 (rW (PTR gb12 0)) (),zq8 gb12 go13 qb2,cLK L K (.loop { lp with state:=.busy }),cqm go13 (S rS) Zaa qm14 (some x59)])
         (fun γ ρ hb hd=>.nil) (fun _=>rfl) (fun γ=>?_)
     exact JQ.at ⟨[],[cvar gb16 (rI .i64) v45,cvar gb6 (zq1 go8) ((),(qb2,(qg3,(qh4,(qd5,()))))),cqm go8 (S rS) Zaa qm9 (some x7),cvar gb10 (rL (rI .i64)) a1,cvar gb15 (rW (PTR gb12 0)) (),zq8 gb12 go13 qb2,cLK L K (.loop { lp with state:=.busy }),cqm go13 (S rS) Zaa qm14 (some x59)],[]⟩<|JQ.outNB<|JQ.rnext () (Option.some.inj hq4).symm (Imp.norm (js:=[6,3,3,3,3,0,0,0]) rfl .nil)
   refine bI hx4 fun x40 hx5 hq5=>JC.seqJ (γ:=Unit) (stj:=fun _=>⟨[(3,ov (PTR gb10 0)),(6,ov (PTR gb16 0)),(8,ov (PTO (Option.map (fun _=>qm14 a27) f29))),(9,ov (S (rI .i64) v34)),(10,ov (S (rI .i64) (0 : Int))),(56,ov (S rB x40))],[cvar gb10 (rL (rI .i64)) a1,cvar gb16 (rI .i64) x26,cqm go13 (S rS) Zaa qm14 (some x25),cvar gb6 (zq1 go8) ((),(qb2,(qg3,(qh4,(qd5,()))))),cqm go8 (S rS) Zaa qm9 (some x7),cvar gb15 (rW (PTR gb12 0)) (),zq8 gb12 go13 qb2,cLK L K (.loop { lp with state:=.busy })],[]⟩) (fun _=>?_) ?_
   · refine jif tR hq5 (fun hc12 hq5=>?_) (fun hc12 hq5=>?_)
     · refine JC.region<|jc (Zam (j:=0) lb tS34 tR rfl (Comp.self (rL (rI .i64)) a1) rfl rfl)<|jc (Zam (j:=1) lb tS3 tR rfl (Comp.self (rI .i64) x26) rfl rfl)<|bI hq5 fun v41 hv41 hq5=>jc (ZaZ lb tu34 tz3 tR tR hv41)<|jc (ZbE lb tS3 rfl tR rfl)<|jmv rfl rfl<|lI hq5 fun v42 hv42 hq5=>jc (Zbx lb tR .cI (cs hv42))<|bI hq5 fun v43 hv43 hq5=>jc (Zbx lb tR tR hv43)<|jc (Zac lb tR)<|JL.nil ?_
       try obtain rfl:=so hq5
       exact JQ.join () (Imp.norm (js:=[1,1,1,1,0,0,0,0]) rfl (.cons rfl (.cons rfl (.cons rfl .nil))))
     refine JC.skip ?_
     try obtain rfl:=so hq5
     exact JQ.join () (Imp.norm (js:=[1,1,1,1,0,0,0,0]) rfl (.cons rfl (.cons rfl (.cons rfl .nil))))
   refine JC.region<|jc (Zam (j:=5) lb tS3 tR rfl (Comp.self (rI .i64) x26) rfl rfl)<|jc (Zam (j:=1) lb tS34 tR rfl (Comp.self (rL (rI .i64)) a1) rfl rfl)<|jc (Zcc lb tu34 tR)<|lI hx5 fun v36 hv36 hx5=>jc (Zan lb tR tR (cs hv36))<|jmv rfl rfl<|jT (ov (S (rL (rI .i64)) a1)) rfl rfl rfl rfl (fun hq6=>Zam (j:=1) lb tS34 tR rfl (Comp.self (rL (rI .i64)) a1) rfl rfl)<|jT (ov (S (rI .i64) x26)) rfl rfl rfl rfl (fun hq7=>Zam (j:=5) lb tS3 tR rfl (Comp.self (rI .i64) x26) rfl rfl)<|bI hx5 fun v37 hv37 hx5=>jT (ov (PT (rI .i64) v37)) rfl rfl rfl rfl (fun hq8=>ZaZ lb tu34 tz3 (HasO.cnd tR hq8) (HasO.cnd tR hq8) (ifT hv37 hq8))<|jT (ov (S (rI .i64) v37)) rfl rfl rfl rfl (fun hq9=>ZbE lb tS3 rfl (HasO.cnd tR hq9) rfl)<|JL.sub ⟨[(3,ov (PTR gb10 0)),(6,ov (PTR gb16 0)),(8,ov (PTO (Option.map (fun _=>qm14 a27) f29))),(9,ov (S (rI .i64) v34)),(10,ov (S (rI .i64) (0 : Int))),(50,ov (S rB v36)),(54,bif v36 then ov (S (rI .i64) v37) else .one .und)],[cLK L K (.loop { lp with state:=.busy }),cvar gb10 (rL (rI .i64)) a1,cvar gb15 (rW (PTR gb12 0)) (),zq8 gb12 go13 qb2,cqm go13 (S rS) Zaa qm14 (some x25),cvar gb16 (rI .i64) x26,cvar gb6 (zq1 go8) ((),(qb2,(qg3,(qh4,(qd5,()))))),cqm go8 (S rS) Zaa qm9 (some x7)],[]⟩ (.cons rfl (.cons rfl (.cons rfl (.cons rfl (.cons rfl (.cons rfl (.cons rfl .nil))))))) rfl rfl ?_
   refine lI hx5 fun v38 hv38 hx5=>jT (ov (S rB v38)) rfl rfl rfl rfl (fun hq10=>Zan lb (HasO.cnd tR hq10) .cI (cs hv38))<|lI hx5 fun v39 hv39 hx5=>jc (Za8 lb tR (fun hb11=>(HasO.cnd tR hb11)) (fun hb11=>.cB) hv39)<|JL.nil ?_
   try obtain rfl:=so hx5
   exact JQ.join () (Imp.norm (js:=[1,4,3,3,3,1,1,0]) rfl (.cons rfl (.cons rfl (.cons rfl (.cons rfl (.cons rfl (.cons rfl .nil)))))))
 · intro s gK60 gq0 hr
   obtain ⟨gq2,hgq⟩ : ∃ z,z = gq0:=⟨_,rfl⟩
   obtain ⟨x61,x62⟩:=s
   subst hr
   dsimp only at hx1
   simp only [← hgq]
   refine JQ.pre Imp.defs1<|JQ.pre (st':=⟨[(3,ov (PTR gb10 0)),(5,ov (PTR gb15 0)),(6,ov (PTR gb16 0))],[Zcq (gK60::([] : List Nat)),cvar gb10 (rL (rI .i64)) a1,cvar gb15 (rW (PTR gb12 0)) (),zq8 gb12 go13 qb2,cqm go13 (S rS) Zaa qm14 (some x61),cvar gb16 (rI .i64) x62,cvar gb6 (zq1 go8) ((),(qb2,(qg3,(qh4,(qd5,()))))),cqm go8 (S rS) Zaa qm9 (some x7)],(gK60::([] : List Nat))⟩) (Imp.norm (js:=[0,0,0,0,0,0,0,0]) rfl (.cons rfl (.cons rfl (.cons rfl .nil))))<|JQ.outNB ?_
   try obtain rfl:=so hx1
   exact JQ.join (gK60::([] : List Nat)) (Imp.norm (js:=[2,2,2,3,3,0]) rfl (.cons rfl .nil))
 intro u
 exact nomatch u

theorem Zbt (k : Nat) (qn1 : (List UInt8)) (qb2 : Int) (qg3 : Int) (qh4 : Bool) (qd5 : Int) (x7 : (List ((List UInt8) × Zaf))) (gb6 : Nat) (go8 : Option Nat) (qm9 : ((List UInt8) → Nat)) (r : (List UInt8) × Int) (hm : ZaP k qn1 qb2 qg3 qh4 qd5 x7 = some r) : Sim Try.prog 12 [PTR gb6 0,S rS qn1] [cvar gb6 (zq1 go8) ((),(qb2,(qg3,(qh4,(qd5,()))))),cqm go8 (S rS) Zaa qm9 (some x7)] (γ:=Option Nat × Nat) (fun q=>[cown q.1 (rU UInt8) r.1 0 q.2,cvar gb6 (zq1 go8) ((),(qb2,(qg3,(qh4,(qd5,()))))),cqm go8 (S rS) Zaa qm9 (some x7)]) (fun q=>.tup [.val (HDR q.1 0 (List.length r.1) q.2),.val (S (rI .i64) r.2)]):=by
 unfold ZaP at hm
 refine Sim.of Try.func12 rfl rfl (lE rfl) (fun e0 w0=>?_)
 refine JC.at ⟨[(0,ov (PTR gb6 0)),(1,ov (S rS qn1))],[cvar gb6 (zq1 go8) ((),(qb2,(qg3,(qh4,(qd5,()))))),cqm go8 (S rS) Zaa qm9 (some x7)],[]⟩<|jr<|jc (Zac lb HasO.nilH)<|jc (Zac lb .cI)<|jn<|jr<|jmv rfl rfl<|jmv rfl rfl ?_
 obtain ⟨⟨v10,v11⟩,hv10,hm⟩:=Zas hm
 refine jx (Zak (js:=[0,0]) ld cl35 (Zbj k qn1 qb2 qg3 qh4 qd5 x7 gb6 go8 qm9 (v10,v11) hv10) .func (.cons tR (.cons tR .nil)) rfl) fun _=>jmv rfl rfl<|jc (Zao (i:=0) lb tR rfl)<|jc (Zao (i:=1) lb tR rfl)<|jc (Zac lb tR)<|jc (Zac lb tR)<|JL.sub ⟨[(6,ov (PTO (Option.map (fun _=>qm9 qn1) v10))),(7,ov (S (rI .i64) v11))],[cqm go8 (S rS) Zaa qm9 (some x7),cvar gb6 (zq1 go8) ((),(qb2,(qg3,(qh4,(qd5,())))))],[]⟩ (.cons rfl (.cons rfl .nil)) rfl rfl<|jn<|JC.seq<|jr<|jmv rfl rfl<|lI hm fun v12 hv12 hm=>jc (Zan lb tR .cI (cs hv12))<|jn<|jif tR hm (fun hc1 hm=>?_) (fun hc1 hm=>?_)
 · refine jr<|jmv rfl rfl<|jc (Zac lb HasO.nilH)<|jc (Zac lb tR)<|jn<|JC.ret<|JQ.outR ?_
   obtain rfl:=so hm
   exact JQ.pre (Imp.nilown (rU UInt8))<|JQ.done (js:=[2,1,0]) (ss:=[.val (HDR none 0 (List.length ([] : (List UInt8))) (0)),.val (S (rI .i64) v11)]) (none,0) (.inl rfl) (.nil rfl) rfl (.cons (.tmp rfl) (.cons (.tmp rfl) .nil)) rfl rfl rfl
 refine JC.skip<|JQ.then<|jr<|jmv rfl rfl<|bI hm fun u13 hv_u_13 hm=>jc (Zae lb (HasO.wk tR (Zdp hv_u_13)) (fun e v h=>by subst h; rfl))<|jc (Zad (off:=0) lb Zdh tR)<|bI hm fun u14 hv_u_14 hm=>jc (ZbC (j:=0) (m:=(some x7)) lb tS31 tR rfl hv_u_14 (cT (Za9 u14) rfl) rfl rfl)<|bI hm fun v15 hv15 hm=>jx (Zak (js:=[]) ld cl36 (ZbV k u14.b v15 hv15) .func (.cons tR .nil) rfl) (fun q=>?_)
 obtain ⟨go16,gc17⟩:=q
 refine jc (Zac lb tR)<|jc (Zac lb .cI)<|jn<|JC.ret ?_
 obtain rfl:=so hm
 exact JQ.done (js:=[0,1,0]) (ss:=[.val (HDR go16 0 (List.length v15) gc17),.val (S (rI .i64) (0 : Int))]) (go16,gc17) (.inl rfl) (.nil rfl) rfl (.cons (.tmp rfl) (.cons (.tmp rfl) .nil)) rfl rfl rfl

theorem ZbX (k : Nat) (qn1 : (List UInt8)) (qb2 : Int) (qg3 : Int) (qh4 : Bool) (qd5 : Int) (x7 : (List ((List UInt8) × Zaf))) (gb6 : Nat) (go8 : Option Nat) (qm9 : ((List UInt8) → Nat)) (r : Int × Int) (hm : Za1 k qn1 qb2 qg3 qh4 qd5 x7 = some r) : Sim Try.prog 27 [PTR gb6 0,S rS qn1] [cvar gb6 (zq1 go8) ((),(qb2,(qg3,(qh4,(qd5,()))))),cqm go8 (S rS) Zaa qm9 (some x7)] (γ:=Unit) (fun q=>[cvar gb6 (zq1 go8) ((),(qb2,(qg3,(qh4,(qd5,()))))),cqm go8 (S rS) Zaa qm9 (some x7)]) (fun q=>.tup [.val (S (rI .i64) r.1),.val (S (rI .i64) r.2)]):=by
 unfold Za1 at hm
 refine Sim.of Try.func27 rfl rfl (lE rfl) (fun e0 w0=>?_)
 refine JC.at ⟨[(0,ov (PTR gb6 0)),(1,ov (S rS qn1))],[cvar gb6 (zq1 go8) ((),(qb2,(qg3,(qh4,(qd5,()))))),cqm go8 (S rS) Zaa qm9 (some x7)],[]⟩<|jr<|jc (Zac lb .cI)<|jc (Zac lb .cI)<|jn<|jr<|jmv rfl rfl<|jmv rfl rfl ?_
 obtain ⟨⟨v10,v11⟩,hv10,hm⟩:=Zas hm
 refine jx (Zak (js:=[0,0]) ld cl35 (Zbj k qn1 qb2 qg3 qh4 qd5 x7 gb6 go8 qm9 (v10,v11) hv10) .func (.cons tR (.cons tR .nil)) rfl) fun _=>jmv rfl rfl<|jc (Zao (i:=0) lb tR rfl)<|jc (Zao (i:=1) lb tR rfl)<|jc (Zac lb tR)<|jc (Zac lb tR)<|JL.sub ⟨[(6,ov (PTO (Option.map (fun _=>qm9 qn1) v10))),(7,ov (S (rI .i64) v11))],[cqm go8 (S rS) Zaa qm9 (some x7),cvar gb6 (zq1 go8) ((),(qb2,(qg3,(qh4,(qd5,())))))],[]⟩ (.cons rfl (.cons rfl .nil)) rfl rfl<|jn<|JC.seq<|jr<|jmv rfl rfl<|lI hm fun v12 hv12 hm=>jc (Zan lb tR .cI (cs hv12))<|jn<|jif tR hm (fun hc1 hm=>?_) (fun hc1 hm=>?_)
 · refine jr<|jmv rfl rfl<|jc (Zac lb .cI)<|jc (Zac lb tR)<|jn<|JC.ret<|JQ.outR ?_
   obtain rfl:=so hm
   exact JQ.done (js:=[1,0]) (ss:=[.val (S (rI .i64) (0 : Int)),.val (S (rI .i64) v11)]) () (.inl rfl) (.nil rfl) rfl (.cons (.tmp rfl) (.cons (.tmp rfl) .nil)) rfl rfl rfl
 refine JC.skip<|JQ.then<|jr<|jmv rfl rfl<|bI hm fun u13 hv_u_13 hm=>jc (Zae lb (HasO.wk tR (Zdp hv_u_13)) (fun e v h=>by subst h; rfl))<|jc (Zad (off:=1) lb ZeE tR)<|bI hm fun u14 hv_u_14 hm=>jc (ZbC (j:=0) (m:=(some x7)) lb tS3 tR rfl hv_u_14 (cT (Zbv u14) rfl) rfl rfl)<|jc (Zac lb tR)<|jc (Zac lb .cI)<|jn<|JC.ret ?_
 obtain rfl:=so hm
 exact JQ.done (js:=[1,0]) (ss:=[.val (S (rI .i64) u14.lasts),.val (S (rI .i64) (0 : Int))]) () (.inl rfl) (.nil rfl) rfl (.cons (.tmp rfl) (.cons (.tmp rfl) .nil)) rfl rfl rfl

theorem Zcx (k : Nat) (n1 : Int) (qb2 : Int) (qg3 : Int) (qh4 : Bool) (qd5 : Int) (x7 : (List ((List UInt8) × Zaf))) (gb6 : Nat) (go8 : Option Nat) (qm9 : ((List UInt8) → Nat)) (r : Int) (hm : ZbH k n1 qb2 qg3 qh4 qd5 x7 = some r) : Sim Try.prog 32 [PTR gb6 0,S (rI .i64) n1] [cvar gb6 (zq1 go8) ((),(qb2,(qg3,(qh4,(qd5,()))))),cqm go8 (S rS) Zaa qm9 (some x7)] (γ:=Unit) (fun q=>[cvar gb6 (zq1 go8) ((),(qb2,(r,(qh4,(qd5,()))))),cqm go8 (S rS) Zaa qm9 (some x7)]) (fun q=>.tup []):=by
 unfold ZbH at hm
 refine Sim.of Try.func32 rfl rfl (lE rfl) (fun e0 w0=>?_)
 refine JC.at ⟨[(0,ov (PTR gb6 0)),(1,ov (S (rI .i64) n1))],[cvar gb6 (zq1 go8) ((),(qb2,(qg3,(qh4,(qd5,()))))),cqm go8 (S rS) Zaa qm9 (some x7)],[]⟩<|jr<|jmv rfl rfl<|bI hm fun _ hv_u_10 hm=>jx (Zak (js:=[0,0]) ld cl34 (ZaA k qb2 qg3 qh4 qd5 x7 gb6 go8 qm9 () hv_u_10) .func (.cons tR .nil) rfl) fun _=>jn<|JC.condT tR rfl<|JC.region<|jmv rfl rfl<|jmv rfl rfl<|lI hm fun v11 hv11 hm=>jc (ZkH lb tR .cI hv11)<|jc (Zae lb tR (fun e v h=>by subst h; rfl))<|jc (Zad (off:=2) lb Zcs tR)<|jc (ZaL (j:=0) tS3 tR tR rfl rfl ((UpdR.snd (UpdR.snd (UpdR.fst (UpdR.self (by rfl))))).at (by change (1 + (1 + 0)) = (0 + 2); omega)) rfl) ?_
 refine JL.sub ⟨[],[cvar gb6 (zq1 go8) ((),(qb2,(v11,(qh4,(qd5,()))))),cqm go8 (S rS) Zaa qm9 (some x7)],[]⟩ .nil rfl rfl<|JL.nil ?_
 obtain rfl:=so hm
 exact JQ.done (js:=[0,0]) (ss:=[]) () (.inr rfl) (.nil rfl) rfl .nil rfl rfl rfl

end Go.Proofs.Ytipchpbcjkhnaaa
