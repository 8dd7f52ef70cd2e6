/- Walks. -/
import Derived.Test.YtipchpbcjkhnaaaT
import Derived.Test.YtipchpbcjkhnaaaW0
import Derived.Test.YtipchpbcjkhnaaaW1
namespace Go.Proofs.Ytipchpbcjkhnaaa
open Go Fw
set_option linter.unusedVariables false
set_option maxRecDepth 100000
set_option maxHeartbeats 4000000

theorem ZbZ (k : Nat) (x1 : (Option Zaf)) (x3 : (List ((List UInt8) × Zaf))) (qb7 : Int) (qg8 : Int) (qh9 : Bool) (qd10 : Int) (x12 : (List UInt8)) (o14 : Nat) (n15 : Nat) (x17 : (List UInt8)) (gb2 : Nat) (go4 : Option Nat) (qm5 : ((List UInt8) → Nat)) (gb6 : Nat) (gb11 : Nat) (gb13 : Nat) (gb16 : Nat) (go18 : Option Nat) (gc19 : Nat) (r : (List ((List UInt8) × Zaf)) × (Option Zaf)) (hm : ZaR k x1 x3 qb7 qg8 qh9 qd10 x12 o14 n15 x17 = some r) : Sim Try.prog 52 [PTR gb2 0,PTR gb6 0,PTR gb13 0,PTR gb16 0] [cvar gb2 (rW (PTO (Option.map (fun _=>qm5 x12) x1))) (),cqm go4 (S rS) Zaa qm5 (some x3),cvar gb6 (rW (PTR gb11 0)) (),cvar gb11 (zq1 go4) ((),(qb7,(qg8,(qh9,(qd10,()))))),cvar gb13 rS x12,cvar gb16 (rW (HDX go18 (o14 * 1) n15)) (),cown go18 (rU UInt8) x17 0 gc19] (γ:=((List UInt8) → Nat)) (fun q=>[cvar gb2 (rW (PTO (Option.map (fun _=>q x12) r.2))) (),cqm go4 (S rS) Zaa q (some r.1),cvar gb6 (rW (PTR gb11 0)) (),cvar gb11 (zq1 go4) ((),(qb7,(qg8,(qh9,(qd10,()))))),cvar gb13 rS x12,cvar gb16 (rW (HDX go18 (o14 * 1) n15)) (),cown go18 (rU UInt8) x17 0 gc19]) (fun q=>.tup []):=by
 unfold ZaR at hm
 refine Sim.of Try.func52 rfl rfl (lE rfl) (fun e0 w0=>?_)
 refine JC.at ⟨[(0,ov (PTR gb2 0)),(1,ov (PTR gb6 0)),(2,ov (PTR gb13 0)),(3,ov (PTR gb16 0))],[cvar gb2 (rW (PTO (Option.map (fun _=>qm5 x12) x1))) (),cqm go4 (S rS) Zaa qm5 (some x3),cvar gb6 (rW (PTR gb11 0)) (),cvar gb11 (zq1 go4) ((),(qb7,(qg8,(qh9,(qd10,()))))),cvar gb13 rS x12,cvar gb16 (rW (HDX go18 (o14 * 1) n15)) (),cown go18 (rU UInt8) x17 0 gc19],[]⟩ ?_
 obtain ⟨⟨x23,x24⟩,hx1,hq1⟩:=Zas hm
 refine JC.seqJ (γ:=((List UInt8) → Nat)) (stj:=fun q=>⟨[(0,ov (PTR gb2 0)),(3,ov (PTR gb16 0))],[cvar gb2 (rW (PTO (Option.map (fun _=>q x12) x24))) (),cqm go4 (S rS) Zaa q (some x23),cvar gb16 (rW (HDX go18 (o14 * 1) n15)) (),cown go18 (rU UInt8) x17 0 gc19,cvar gb6 (rW (PTR gb11 0)) (),cvar gb11 (zq1 go4) ((),(qb7,(qg8,(qh9,(qd10,()))))),cvar gb13 rS x12],[]⟩) (fun q=>?_) ?_
 · obtain ⟨qm25,hqq⟩ : ∃ z,z = q:=⟨_,rfl⟩
   subst hqq
   refine JC.at ⟨[(0,ov (PTR gb2 0)),(3,ov (PTR gb16 0))],[cvar gb2 (rW (PTO (Option.map (fun _=>qm25 x12) x24))) (),cqm go4 (S rS) Zaa qm25 (some x23),cvar gb16 (rW (HDX go18 (o14 * 1) n15)) (),cown go18 (rU UInt8) x17 0 gc19,cvar gb6 (rW (PTR gb11 0)) (),cvar gb11 (zq1 go4) ((),(qb7,(qg8,(qh9,(qd10,()))))),cvar gb13 rS x12],[]⟩<|bI hq1 fun u26 hv_u_26 hq1=>bI hq1 fun u27 hv_u_27 hq1=>bI hq1 fun v28 hv28 hq1=>bI hq1 fun v31 hv31 hq1=>bI hq1 fun u34 hv_u_34 hq1=>?_
   obtain ⟨x36,hv_x_36,hq1⟩:=Zas hq1
   refine JC.anyF (base:=[(0,ov (PTR gb2 0)),(3,ov (PTR gb16 0))])
       (fs:=fun γ=>[⟨some 14,ov (PTO (Option.map (fun _=>qm25 x12) x24))⟩,⟨some 15,ov (PTO (Option.map (fun _=>qm25 x12) x24))⟩,⟨some 16,ov (PTR (qm25 x12) 0)⟩,⟨some 17,ov (PTR (qm25 x12) (0 + 0))⟩,⟨some 18,ov (S (rL (rU UInt8)) u27.b)⟩,⟨some 19,ov (HDR (deo (γ 5 0)) 0 (List.length v28) (γ 5 1))⟩,⟨some 20,ov (HDX go18 (o14 * 1) n15)⟩,⟨some 21,ov (S (rL (rU UInt8)) v31)⟩,⟨some 22,ov (PTR (qm25 x12) 0)⟩,⟨some 23,ov (PTR (qm25 x12) (0 + 0))⟩,⟨none,.one .any⟩])
       (rs:=fun γ=>[⟨cvar gb2 (rW (PTO (Option.map (fun _=>qm25 x12) x24))) (),none,none,[0,1]⟩,⟨cqm go4 (S rS) Zaa qm25 (some x23),none,(some 10),[4]⟩,⟨cvar gb16 (rW (HDX go18 (o14 * 1) n15)) (),none,none,[6]⟩,⟨cown go18 (rU UInt8) x17 0 gc19,none,none,[7]⟩,⟨cvar gb6 (rW (PTR gb11 0)) (),none,none,[]⟩,⟨cvar gb11 (zq1 go4) ((),(qb7,(qg8,(qh9,(qd10,()))))),none,none,[]⟩,⟨cvar gb13 rS x12,none,none,[]⟩,⟨cown (deo (γ 5 0)) (rU UInt8) v28 0 (γ 5 1),(some 5),(some 7),[]⟩,⟨cqm go4 (S rS) Zaa qm25 (some x36),(some 10),none,[]⟩])
       (afts:=[[],[],[],[],[],[5,7,8,9,10],[],[],[],[],[]]) (js:=[0,0,0,0,0,0,0]) mixed (.cons rfl (.cons rfl .nil)) (fun _=>rfl)
       (by
      refine dR 1 (fun γ ρ B hb hd=>Zag.lk ⟨ρ,(cvar gb2 (rW (PTO (Option.map (fun _=>qm25 x12) x24))) ())::B,_⟩ (Zal (j:=0) lb tS69 (.tmp (hb 0 _ rfl)) rfl (Comp.self (rW (PTO (Option.map (fun _=>qm25 x12) x24))) ())))<|dR 2 (fun γ ρ B hb hd=>Zag.lk ⟨ρ,(cvar gb2 (rW (PTO (Option.map (fun _=>qm25 x12) x24))) ())::B,_⟩ (Zal (j:=0) lb tS69 (.tmp (hb 0 _ rfl)) rfl (Comp.self (rW (PTO (Option.map (fun _=>qm25 x12) x24))) ())))<|dS 3 (fun γ ρ B hb hd=>Zae lb (HasO.wk (tl hd 1 15) (Zdp hv_u_26)) (fun e v h=>by subst h; rfl))<|dS 4 (fun γ ρ B hb hd=>Zad (off:=0) lb Zdh (tl hd 2 16))<|dR 5 (fun γ ρ B hb hd=>Zag.lk ⟨ρ,(cqm go4 (S rS) Zaa qm25 (some x23))::B,_⟩ (ZbC (j:=0) (m:=(some x23)) lb tS31 (tl hd 3 17) rfl hv_u_27 (cT (Za9 u27) rfl) rfl rfl)) ?_
      refine Zat.cons (j:=6) rfl (fun _=>rfl) (.runX (fun _ _=>rfl) (fun γ ρ B hb hd=>⟨.none,OpX.ghost (γ:=Option Nat × Nat) (st':=fun q=>setO ⟨ρ,(cown q.1 (rU UInt8) v28 0 q.2)::B,_⟩ (some 19) (ov (HDR q.1 0 (List.length v28) q.2))) (fun q c=>bif Nat.beq c 0 then eno q.1 else q.2) (Zak (js:=[]) ld cl36 (ZbV k u27.b v28 hv28) .func (.cons (tl hd 4 18) .nil) rfl) (fun q=>by obtain ⟨q0,q1⟩:=q; cases q0 <;> exact Imp.refl)⟩) (fun _ _=>rfl) (fun _ _=>rfl)) ?_
      refine dR 7 (fun γ ρ B hb hd=>Zag.lk ⟨ρ,(cvar gb16 (rW (HDX go18 (o14 * 1) n15)) ())::B,_⟩ (Zal (j:=0) lb tS31 (.tmp (hb 3 _ rfl)) rfl (Comp.self (rW (HDX go18 (o14 * 1) n15)) ())))<|dR 8 (fun γ ρ B hb hd=>Zag.at ⟨ρ,(cown (deo (γ 5 0)) (rU UInt8) v28 0 (γ 5 1))::(cown go18 (rU UInt8) x17 0 gc19)::B,_⟩ (setO ⟨ρ,(cown go18 (rU UInt8) x17 0 gc19)::B,_⟩ _ _) ((ZhA (j:=0) (j':=1) (o:=o14) lb tu31 tu31 rfl tB5 rfl (Nat.lt_of_lt_of_le Nat.zero_lt_one (lE rfl)) (Nat.lt_of_lt_of_le Nat.zero_lt_one (lE rfl)) rfl (tl hd 5 19) rfl (tl hd 6 20) hv31).post (fun q=>Imp.dropF (j:=0) rfl)))<|dS 9 (fun γ ρ B hb hd=>Zae lb (HasO.wk (tl hd 0 14) (Zdp hv_u_34)) (fun e v h=>by subst h; rfl))<|dS 10 (fun γ ρ B hb hd=>Zad (off:=0) lb Zdh (tl hd 8 22))<|dR 11 (fun γ ρ B hb hd=>Zag.at ⟨ρ,(cqm go4 (S rS) Zaa qm25 (some x23))::B,_⟩ (setO ⟨ρ,(cqm go4 (S rS) Zaa qm25 (some x36))::B,_⟩ _ _) (ZcV (j:=0) tS31 (tl hd 9 23) (tl hd 7 21) rfl rfl (fun u=>(Upd.trans (Comp.self Zaa u) (Upd.self Zaa u _) (Zda u v31)).R) (Zdt hv_x_36))) ?_
      exact Zat.nil)
       (by decide +kernel) (fun _=>rfl) (fun _=>rfl) (fun _=>rfl) rfl
       (ρ':=fun γ=>[])
       (X':=fun γ=>[cvar gb2 (rW (PTO (Option.map (fun _=>qm25 x12) x24))) (),cvar gb16 (rW (HDX go18 (o14 * 1) n15)) (),cown go18 (rU UInt8) x17 0 gc19,cvar gb6 (rW (PTR gb11 0)) (),cvar gb11 (zq1 go4) ((),(qb7,(qg8,(qh9,(qd10,()))))),cvar gb13 rS x12,cqm go4 (S rS) Zaa qm25 (some x36)])
       (fun γ ρ hb hd=>.nil) (fun _=>rfl) (fun γ=>?_)
   generalize (deo (γ 5 0)) = go29
   generalize (γ 5 1) = gc30
   clear γ
   refine JQ.at ⟨[],[cvar gb2 (rW (PTO (Option.map (fun _=>qm25 x12) x24))) (),cvar gb16 (rW (HDX go18 (o14 * 1) n15)) (),cown go18 (rU UInt8) x17 0 gc19,cvar gb6 (rW (PTR gb11 0)) (),cvar gb11 (zq1 go4) ((),(qb7,(qg8,(qh9,(qd10,()))))),cvar gb13 rS x12,cqm go4 (S rS) Zaa qm25 (some x36)],[]⟩ ?_
   obtain rfl:=so hq1
   exact JQ.done (js:=[0,5,2,2,2,0,0]) (ss:=[]) qm25 (.inr rfl) (.nil rfl) rfl .nil rfl rfl rfl
 refine jr<|jc (Zal (j:=0) lb tS69 tR rfl (Comp.self (rW (PTO (Option.map (fun _=>qm5 x12) x1))) ()))<|lI hx1 fun v20 hv20 hx1=>jc (Zd7 (neg:=false) lb tu69 tR (HasO.const (p:=PTO none) fun _=>rfl) hv20)<|jn<|jif tR hx1 (fun hc2 hx1=>?_) (fun hc2 hx1=>?_)
 · refine jr<|jc (ZdI lb tZ71 zr71 tp71 .nil rfl)<|jx (Zd4 lb tR) fun gb21=>jc (Zb4 (j:=0) tS69 tR tR rfl (UpdR.self (by rfl)) rfl)<|jn ?_
   obtain ⟨x22,hv_x_22,hx1⟩:=Za2 hx1
   refine JC.anyF (base:=[(0,ov (PTR gb2 0)),(1,ov (PTR gb6 0)),(2,ov (PTR gb13 0)),(3,ov (PTR gb16 0))])
       (fs:=fun γ=>[⟨some 8,ov (PTR gb11 0)⟩,⟨some 9,ov (PTR gb11 0)⟩,⟨some 10,ov (PTR gb11 (0 + 0))⟩,⟨some 11,ov (MPV go4)⟩,⟨some 12,ov (S rS x12)⟩,⟨some 13,ov (PTR gb21 0)⟩,⟨none,.one .any⟩])
       (rs:=fun γ=>[⟨cvar gb2 (rW (PTR gb21 0)) (),none,none,[5]⟩,⟨cqm go4 (S rS) Zaa qm5 (some x3),none,(some 6),[]⟩,⟨cvar gb6 (rW (PTR gb11 0)) (),none,none,[0]⟩,⟨cvar gb11 (zq1 go4) ((),(qb7,(qg8,(qh9,(qd10,()))))),none,none,[3]⟩,⟨cvar gb13 rS x12,none,none,[4]⟩,⟨cvar gb16 (rW (HDX go18 (o14 * 1) n15)) (),none,none,[]⟩,⟨cown go18 (rU UInt8) x17 0 gc19,none,none,[]⟩,⟨cvar gb21 zq2 ((),((0 : Int),())),none,(some 6),[]⟩,⟨cqm go4 (S rS) Zaa (updF qm5 x12 gb21) (some x22),(some 6),none,[]⟩])
       (afts:=nn 7) (js:=[0,0,0,0,0,0,0,0]) mixed (.cons rfl (.cons rfl (.cons rfl (.cons rfl .nil)))) (fun _=>rfl)
       (by
      refine dR 1 (fun γ ρ B hb hd=>Zag.lk ⟨ρ,(cvar gb6 (rW (PTR gb11 0)) ())::B,_⟩ (Zal (j:=0) lb tS25 (.tmp (hb 1 _ rfl)) rfl (Comp.self (rW (PTR gb11 0)) ())))<|dS 2 (fun γ ρ B hb hd=>Zae lb (tl hd 0 8) (fun e v h=>by subst h; rfl))<|dS 3 (fun γ ρ B hb hd=>Zad (off:=0) lb Zct (tl hd 1 9))<|dR 4 (fun γ ρ B hb hd=>Zag.lk ⟨ρ,(cvar gb11 (zq1 go4) ((),(qb7,(qg8,(qh9,(qd10,()))))))::B,_⟩ (Zal (j:=0) lb tS62 (tl hd 2 10) rfl (Comp.trans (Comp.self (zq1 go4) ((),(qb7,(qg8,(qh9,(qd10,())))))) (Comp.at' (Comp.inF (Comp.self (rW (MPV go4)) ()) (lE rfl)) (by rfl : _ = 0)) (lE rfl))))<|dR 5 (fun γ ρ B hb hd=>Zag.lk ⟨ρ,(cvar gb13 rS x12)::B,_⟩ (Zam (j:=0) lb tS9 (.tmp (hb 2 _ rfl)) rfl (Comp.self rS x12) rfl rfl)) ?_
      refine dR 6 (fun γ ρ B hb hd=>Zag.lk ⟨ρ,(cvar gb2 (rW (PTR gb21 0)) ())::B,_⟩ (Zal (j:=0) lb tS69 (.tmp (hb 0 _ rfl)) rfl (Comp.self (rW (PTR gb21 0)) ())))<|dR 7 (fun γ ρ B hb hd=>Zag.at ⟨ρ,(cqm go4 (S rS) Zaa qm5 (some x3))::(cvar gb21 zq2 ((),((0 : Int),())))::B,_⟩ (setO ⟨ρ,(cqm go4 (S rS) Zaa (updF qm5 x12 gb21) (some x22))::B,_⟩ _ _) (ZgD (js:=[0,0]) (.inl rfl) tu62 ky9 rfl (Wk.st (Wk.pair Wk.nil (Wk.pair Wk.refl Wk.refl))) (tl hd 3 11) (tl hd 4 12) (tl hd 5 13) (congrArg (fun z=>some (some z)) hv_x_22))) ?_
      exact Zat.nil)
       (by decide +kernel) (fun _=>rfl) (fun _=>rfl) (fun _=>rfl) rfl
       (ρ':=fun γ=>[(0,ov (PTR gb2 0)),(3,ov (PTR gb16 0))])
       (X':=fun γ=>[cvar gb2 (rW (PTR gb21 0)) (),cvar gb6 (rW (PTR gb11 0)) (),cvar gb11 (zq1 go4) ((),(qb7,(qg8,(qh9,(qd10,()))))),cvar gb13 rS x12,cvar gb16 (rW (HDX go18 (o14 * 1) n15)) (),cown go18 (rU UInt8) x17 0 gc19,cqm go4 (S rS) Zaa (updF qm5 x12 gb21) (some x22)])
       (fun γ ρ hb hd=>(.cons (hb 0 _ rfl) (.cons (hb 3 _ rfl) .nil))) (fun _=>rfl) (fun γ=>?_)
   refine JQ.at ⟨[(0,ov (PTR gb2 0)),(3,ov (PTR gb16 0))],[cvar gb2 (rW (PTR gb21 0)) (),cvar gb6 (rW (PTR gb11 0)) (),cvar gb11 (zq1 go4) ((),(qb7,(qg8,(qh9,(qd10,()))))),cvar gb13 rS x12,cvar gb16 (rW (HDX go18 (o14 * 1) n15)) (),cown go18 (rU UInt8) x17 0 gc19,cqm go4 (S rS) Zaa (updF qm5 x12 gb21) (some x22)],[]⟩<|JQ.pre (Imp.var (j:=0) (q:=(rW (PTR ((updF qm5 x12 gb21) x12) 0))) (y:=()) rfl (Wk.w Zkl)) ?_
   have hz:=Option.some.inj hx1
   replace hz:=Prod.mk.inj hz
   obtain ⟨hz_a,hz⟩:=hz
   first | subst hz_a | clear hz_a
   first | subst hz | clear hz
   refine JQ.pre (Imp.var (j:=0) (q:=(rW (PTO (Option.map (fun _=>(updF qm5 x12 gb21) x12) (some default : Option Zaf))))) (y:=()) rfl (Wk.w Zkt)) ?_
   refine JQ.pre (Imp.var (j:=2) (q:=(zq1 go4)) (y:=((),(qb7,(qg8,(qh9,(qd10,())))))) rfl Wk.refl) ?_
   exact JQ.join (updF qm5 x12 gb21) (Imp.norm (js:=[0,5,3,3,0,0,0]) rfl (.cons rfl (.cons rfl .nil)))
 refine JC.skip ?_
 have hz:=Option.some.inj hx1
 replace hz:=Prod.mk.inj hz
 obtain ⟨hz_a,hz⟩:=hz
 first | subst hz_a | clear hz_a
 first | subst hz | clear hz
 refine JQ.pre (Imp.var (j:=3) (q:=(zq1 go4)) (y:=((),(qb7,(qg8,(qh9,(qd10,())))))) rfl Wk.refl) ?_
 exact JQ.join qm5 (Imp.norm (js:=[0,0,3,3,0,0,0]) rfl (.cons rfl (.cons rfl .nil)))

theorem Zcu (k : Nat) (qb1 : Int) (fuse2 : Int) (qh3 : Bool) (qd4 : Int) (x6 : (List ((List UInt8) × Zaf))) (x9 : (Option Zaf)) (x12 : (List UInt8)) (o14 : Nat) (n15 : Nat) (x17 : (List UInt8)) (gb5 : Nat) (go7 : Option Nat) (qm8 : ((List UInt8) → Nat)) (gb10 : Nat) (gb11 : Nat) (gb13 : Nat) (gb16 : Nat) (go18 : Option Nat) (gc19 : Nat) (r : Int × (List ((List UInt8) × Zaf)) × Int × Bool × Int × (Option Zaf)) (hm : ZaG k qb1 fuse2 qh3 qd4 x6 x9 x12 o14 n15 x17 = some r) : Sim Try.prog 53 [PTR gb5 0,CLO 52 [PTR gb10 0,PTR gb11 0,PTR gb13 0,PTR gb16 0],CLO 52 [PTR gb10 0,PTR gb11 0,PTR gb13 0,PTR gb16 0]] [cvar gb5 (zq1 go7) ((),(qb1,(fuse2,(qh3,(qd4,()))))),cqm go7 (S rS) Zaa qm8 (some x6),cvar gb10 (rW (PTO (Option.map (fun _=>qm8 x12) x9))) (),cvar gb11 (rW (PTR gb5 0)) (),cvar gb13 rS x12,cvar gb16 (rW (HDX go18 (o14 * 1) n15)) (),cown go18 (rU UInt8) x17 0 gc19] (γ:=((List UInt8) → Nat)) (fun q=>[cvar gb5 (zq1 go7) ((),(qb1,(r.2.2.1,(r.2.2.2.1,(r.2.2.2.2.1,()))))),cqm go7 (S rS) Zaa q (some r.2.1),cvar gb10 (rW (PTO (Option.map (fun _=>q x12) r.2.2.2.2.2))) (),cvar gb11 (rW (PTR gb5 0)) (),cvar gb13 rS x12,cvar gb16 (rW (HDX go18 (o14 * 1) n15)) (),cown go18 (rU UInt8) x17 0 gc19]) (fun q=>.one (.val (S (rI .i64) r.1))):=by
 unfold ZaG at hm
 refine Sim.of Try.func53 rfl rfl (lE rfl) (fun e0 w0=>?_)
 refine JC.at ⟨[(0,ov (PTR gb5 0)),(1,ov (CLO 52 [PTR gb10 0,PTR gb11 0,PTR gb13 0,PTR gb16 0])),(2,ov (CLO 52 [PTR gb10 0,PTR gb11 0,PTR gb13 0,PTR gb16 0]))],[cvar gb5 (zq1 go7) ((),(qb1,(fuse2,(qh3,(qd4,()))))),cqm go7 (S rS) Zaa qm8 (some x6),cvar gb10 (rW (PTO (Option.map (fun _=>qm8 x12) x9))) (),cvar gb11 (rW (PTR gb5 0)) (),cvar gb13 rS x12,cvar gb16 (rW (HDX go18 (o14 * 1) n15)) (),cown go18 (rU UInt8) x17 0 gc19],[]⟩<|jr<|jc (Zac lb .cI)<|jn<|JC.seq<|jr<|jmv rfl rfl<|jc (Zae lb tR (fun e v h=>by subst h; rfl))<|jc (Zad (off:=3) lb Zd0 tR)<|jc (Zam (j:=0) lb tS4 tR rfl (Comp.trans (Comp.self (zq1 go7) ((),(qb1,(fuse2,(qh3,(qd4,())))))) (Comp.at' (Comp.inS (Comp.inS (Comp.inS (Comp.inF (Comp.self rB qh3) (lE rfl))))) (by rfl : _ = 3)) (lE rfl)) rfl rfl)<|jn<|jif tR hm (fun hc1 hm=>?_) (fun hc1 hm=>?_)
 · refine jr<|jc (Zac lb .cI)<|jn<|JC.ret<|JQ.outR ?_
   obtain rfl:=so hm
   refine JQ.pre (Imp.var (j:=0) (q:=(zq1 go7)) (y:=((),(qb1,(fuse2,(qh3,(qd4,())))))) rfl Wk.refl) ?_
   exact JQ.done (js:=[0,0,0,0,0,0,0]) (ss:=[.val (S (rI .i64) (8 : Int))]) qm8 (.inl rfl) (.nil rfl) rfl (.cons (.tmp rfl) .nil) rfl rfl rfl
 refine JC.skip<|JQ.then<|jr<|jmv rfl rfl<|jc (Zae lb tR (fun e v h=>by subst h; rfl))<|jc (Zad (off:=4) lb ZdZ tR)<|jc (Zam (j:=0) lb tS3 tR rfl (Comp.trans (Comp.self (zq1 go7) ((),(qb1,(fuse2,(qh3,(qd4,())))))) (Comp.at' (Comp.inS (Comp.inS (Comp.inS (Comp.inS (Comp.inF (Comp.self (rI .i64) qd4) (lE rfl)))))) (by rfl : _ = 4)) (lE rfl)) rfl rfl)<|lI hm fun v20 hv20 hm=>jc (Zbx lb tR .cI (cs hv20))<|jc (Zae lb tR (fun e v h=>by subst h; rfl))<|jc (Zad (off:=4) lb ZdZ tR)<|JL.sub ⟨[(0,ov (PTR gb5 0)),(1,ov (CLO 52 [PTR gb10 0,PTR gb11 0,PTR gb13 0,PTR gb16 0])),(2,ov (CLO 52 [PTR gb10 0,PTR gb11 0,PTR gb13 0,PTR gb16 0])),(15,ov (S (rI .i64) v20)),(17,ov (PTR gb5 (0 + 4)))],[cvar gb5 (zq1 go7) ((),(qb1,(fuse2,(qh3,(qd4,()))))),cqm go7 (S rS) Zaa qm8 (some x6),cvar gb10 (rW (PTO (Option.map (fun _=>qm8 x12) x9))) (),cvar gb11 (rW (PTR gb5 0)) (),cvar gb13 rS x12,cvar gb16 (rW (HDX go18 (o14 * 1) n15)) (),cown go18 (rU UInt8) x17 0 gc19],[]⟩ (.cons rfl (.cons rfl (.cons rfl (.cons rfl (.cons rfl .nil))))) rfl rfl<|jc (ZaL (j:=0) tS3 tR tR rfl rfl ((UpdR.snd (UpdR.snd (UpdR.snd (UpdR.snd (UpdR.fst (UpdR.self (by rfl))))))).at (by change (1 + (1 + (1 + (1 + 0)))) = (0 + 4); omega)) rfl)<|jn<|JC.seq<|jr<|jmv rfl rfl<|jc (Zae lb tR (fun e v h=>by subst h; rfl))<|jc (Zad (off:=2) lb Zcs tR)<|jc (Zam (j:=0) lb tS3 tR rfl (Comp.trans (Comp.self (zq1 go7) ((),(qb1,(fuse2,(qh3,(v20,())))))) (Comp.at' (Comp.inS (Comp.inS (Comp.inF (Comp.self (rI .i64) fuse2) (lE rfl)))) (by rfl : _ = 2)) (lE rfl)) rfl rfl) ?_
 refine lI hm fun v21 hv21 hm=>jc (Zan lb tR .cI (cs hv21))<|jn<|jif tR hm (fun hc2 hm=>?_) (fun hc2 hm=>?_)
 · refine jr<|jmv rfl rfl<|jc (Zae lb tR (fun e v h=>by subst h; rfl))<|jc (Zad (off:=3) lb Zd0 tR)<|jc (ZaL (j:=0) tS4 tR .cB rfl rfl ((UpdR.snd (UpdR.snd (UpdR.snd (UpdR.fst (UpdR.self (by rfl)))))).at (by change (1 + (1 + (1 + 0))) = (0 + 3); omega)) rfl)<|JL.sub ⟨[(2,ov (CLO 52 [PTR gb10 0,PTR gb11 0,PTR gb13 0,PTR gb16 0]))],[cvar gb5 (zq1 go7) ((),(qb1,(fuse2,(true,(v20,()))))),cqm go7 (S rS) Zaa qm8 (some x6),cvar gb10 (rW (PTO (Option.map (fun _=>qm8 x12) x9))) (),cvar gb11 (rW (PTR gb5 0)) (),cvar gb13 rS x12,cvar gb16 (rW (HDX go18 (o14 * 1) n15)) (),cown go18 (rU UInt8) x17 0 gc19],[]⟩ (.cons rfl .nil) rfl rfl<|jn<|jr<|jmv rfl rfl ?_
   obtain ⟨⟨x22,x23⟩,hv_x_22,hm⟩:=Zas hm
   refine jx (Zak (js:=[2,1,1,0,0,0,0]) ld cl52 (ZbZ k x9 x6 qb1 fuse2 true v20 x12 o14 n15 x17 gb10 go7 qm8 gb11 gb5 gb13 gb16 go18 gc19 (x22,x23) hv_x_22) tR .nil rfl) fun qm24=>jn<|jr<|jc (Zac lb .cI)<|jn<|JC.ret<|JQ.outR ?_
   obtain rfl:=so hm
   exact JQ.done (js:=[3,1,0,0,0,0,0]) (ss:=[.val (S (rI .i64) (8 : Int))]) qm24 (.inl rfl) (.nil rfl) rfl (.cons (.tmp rfl) .nil) rfl rfl rfl
 refine JC.skip<|JQ.then<|bI hm fun x27 hx3 hq3=>JC.seqJ (γ:=Unit) (stj:=fun _=>⟨[(1,ov (CLO 52 [PTR gb10 0,PTR gb11 0,PTR gb13 0,PTR gb16 0]))],[cvar gb10 (rW (PTO (Option.map (fun _=>qm8 x12) x9))) (),cqm go7 (S rS) Zaa qm8 (some x6),cvar gb11 (rW (PTR gb5 0)) (),cvar gb5 (zq1 go7) ((),(qb1,(x27,(qh3,(v20,()))))),cvar gb13 rS x12,cvar gb16 (rW (HDX go18 (o14 * 1) n15)) (),cown go18 (rU UInt8) x17 0 gc19],[]⟩) (fun _=>?_) ?_
 · refine jr<|jmv rfl rfl ?_
   obtain ⟨⟨x28,x29⟩,hv_x_28,hq3⟩:=Zas hq3
   refine jx (Zak (js:=[0,0,0,0,0,0,0]) ld cl52 (ZbZ k x9 x6 qb1 x27 qh3 v20 x12 o14 n15 x17 gb10 go7 qm8 gb11 gb5 gb13 gb16 go18 gc19 (x28,x29) hv_x_28) tR .nil rfl) fun qm30=>jn<|jr<|jc (Zac lb .cI)<|jn<|JC.ret ?_
   obtain rfl:=so hq3
   exact JQ.done (js:=[3,1,0,0,0,0,0]) (ss:=[.val (S (rI .i64) (0 : Int))]) qm30 (.inl rfl) (.nil rfl) rfl (.cons (.tmp rfl) .nil) rfl rfl rfl
 refine jr<|jmv rfl rfl<|jc (Zae lb tR (fun e v h=>by subst h; rfl))<|jc (Zad (off:=2) lb Zcs tR)<|jc (Zam (j:=0) lb tS3 tR rfl (Comp.trans (Comp.self (zq1 go7) ((),(qb1,(fuse2,(qh3,(v20,())))))) (Comp.at' (Comp.inS (Comp.inS (Comp.inF (Comp.self (rI .i64) fuse2) (lE rfl)))) (by rfl : _ = 2)) (lE rfl)) rfl rfl)<|JL.sub ⟨[(0,ov (PTR gb5 0)),(1,ov (CLO 52 [PTR gb10 0,PTR gb11 0,PTR gb13 0,PTR gb16 0])),(31,ov (S (rI .i64) fuse2))],[cvar gb5 (zq1 go7) ((),(qb1,(fuse2,(qh3,(v20,()))))),cqm go7 (S rS) Zaa qm8 (some x6),cvar gb10 (rW (PTO (Option.map (fun _=>qm8 x12) x9))) (),cvar gb11 (rW (PTR gb5 0)) (),cvar gb13 rS x12,cvar gb16 (rW (HDX go18 (o14 * 1) n15)) (),cown go18 (rU UInt8) x17 0 gc19],[]⟩ (.cons rfl (.cons rfl (.cons rfl .nil))) rfl rfl<|lI hx3 fun v25 hv25 hx3=>jc (Zan lb tR .cI (cs hv25))<|jn<|jif tR hx3 (fun hc4 hx3=>?_) (fun hc4 hx3=>?_)
 · refine JC.region<|jmv rfl rfl<|jc (Zae lb tR (fun e v h=>by subst h; rfl))<|jc (Zad (off:=2) lb Zcs tR)<|jc (Zam (j:=0) lb tS3 tR rfl (Comp.trans (Comp.self (zq1 go7) ((),(qb1,(fuse2,(qh3,(v20,())))))) (Comp.at' (Comp.inS (Comp.inS (Comp.inF (Comp.self (rI .i64) fuse2) (lE rfl)))) (by rfl : _ = 2)) (lE rfl)) rfl rfl)<|lI hx3 fun v26 hv26 hx3=>jc (Zbx lb tR .cI (cs hv26))<|jc (Zae lb tR (fun e v h=>by subst h; rfl))<|jc (Zad (off:=2) lb Zcs tR)<|jc (ZaL (j:=0) tS3 tR tR rfl rfl ((UpdR.snd (UpdR.snd (UpdR.fst (UpdR.self (by rfl))))).at (by change (1 + (1 + 0)) = (0 + 2); omega)) rfl)<|JL.nil ?_
   try obtain rfl:=so hx3
   refine JQ.pre (Imp.var (j:=0) (q:=(zq1 go7)) (y:=((),(qb1,(v26,(qh3,(v20,())))))) rfl Wk.refl) ?_
   exact JQ.join () (Imp.norm (js:=[2,1,1,0,0,0,0]) rfl (.cons rfl .nil))
 refine JC.skip ?_
 try obtain rfl:=so hx3
 refine JQ.pre (Imp.var (j:=0) (q:=(zq1 go7)) (y:=((),(qb1,(fuse2,(qh3,(v20,())))))) rfl Wk.refl) ?_
 exact JQ.join () (Imp.norm (js:=[2,1,1,0,0,0,0]) rfl (.cons rfl .nil))

theorem Zdm (k : Nat) (qn1 : (List UInt8)) (o2 : Nat) (n3 : Nat) (qb4 : Int) (qg5 : Int) (qh6 : Bool) (qd7 : Int) (x9 : (List ((List UInt8) × Zaf))) (x12 : (List UInt8)) (gb8 : Nat) (go10 : Option Nat) (qm11 : ((List UInt8) → Nat)) (go13 : Option Nat) (gc14 : Nat) (r : Int × (List ((List UInt8) × Zaf)) × Int × Bool × Int) (hm : ZaM k qn1 o2 n3 qb4 qg5 qh6 qd7 x9 x12 = some r) : Sim Try.prog 28 [PTR gb8 0,S rS qn1,HDX go13 (o2 * 1) n3] [cvar gb8 (zq1 go10) ((),(qb4,(qg5,(qh6,(qd7,()))))),cqm go10 (S rS) Zaa qm11 (some x9),cown go13 (rU UInt8) x12 0 gc14] (γ:=((List UInt8) → Nat)) (fun q=>[cvar gb8 (zq1 go10) ((),(qb4,(r.2.2.1,(r.2.2.2.1,(r.2.2.2.2,()))))),cqm go10 (S rS) Zaa q (some r.2.1),cown go13 (rU UInt8) x12 0 gc14]) (fun q=>.one (.val (S (rI .i64) r.1))):=by
 unfold ZaM at hm
 refine Sim.of Try.func28 rfl rfl (lE rfl) (fun e0 w0=>?_)
 refine JC.at ⟨[(0,ov (PTR gb8 0)),(1,ov (S rS qn1)),(2,ov (HDX go13 (o2 * 1) n3))],[cvar gb8 (zq1 go10) ((),(qb4,(qg5,(qh6,(qd7,()))))),cqm go10 (S rS) Zaa qm11 (some x9),cown go13 (rU UInt8) x12 0 gc14],[]⟩<|jr<|jx (Zd6 lb tR) fun gb15=>jx (ZdT lb tR) fun gb16=>jx (Zd6 lb tR) fun gb17=>jc (Zac lb .cI)<|jn<|JC.seq<|JC.block<|jr<|jc (Zal (j:=3) lb tS25 tR rfl (Comp.self (rW (PTR gb8 0)) ()))<|bI hm fun _ hv_u_18 hm=>jx (Zak (js:=[0,0]) ld cl34 (ZaA k qb4 qg5 qh6 qd7 x9 gb8 go10 qm11 () hv_u_18) .func (.cons tR .nil) rfl) (fun _=>?_)
 refine JL.sub ⟨[(3,ov (PTR gb15 0)),(4,ov (PTR gb16 0)),(5,ov (PTR gb17 0)),(11,ov (S rB true))],[cvar gb8 (zq1 go10) ((),(qb4,(qg5,(qh6,(qd7,()))))),cqm go10 (S rS) Zaa qm11 (some x9),cown go13 (rU UInt8) x12 0 gc14,cvar gb15 (rW (PTR gb8 0)) (),cvar gb16 rS qn1,cvar gb17 (rW (HDX go13 (o2 * 1) n3)) ()],[]⟩ (.cons rfl (.cons rfl (.cons rfl (.cons rfl .nil)))) rfl rfl<|jc (Zce lb tR rfl)<|jc (Zac lb tR)<|jn<|JC.condF tR rfl<|jr<|jc (Zam (j:=4) lb tS9 tR rfl (Comp.self rS qn1) rfl rfl)<|bI hm fun v19 hv19 hm=>jx (Zak (js:=[]) ld cl16 (ZcA k qn1 v19 hv19) .func (.cons tR .nil) rfl) fun _=>lI hm fun v20 hv20 hm=>jc (Zce lb tR hv20)<|jc (Zac lb tR)<|jn<|jif tR hm (fun hc1 hm=>?_) (fun hc1 hm=>?_)
 · refine jr<|jc (Zac lb .cI)<|jn<|JC.ret<|JQ.outRB<|JQ.outR ?_
   obtain rfl:=so hm
   exact JQ.done (js:=[0,0,0]) (ss:=[.val (S (rI .i64) (2 : Int))]) qm11 (.inl rfl) (.nil rfl) rfl (.cons (.tmp rfl) .nil) rfl rfl rfl
 refine JC.skip<|JQ.outNB<|JQ.then<|JC.seq ?_
 obtain ⟨f21,hv_f_21,hm⟩:=Za2 hm
 refine JC.anyF (base:=[(3,ov (PTR gb15 0)),(4,ov (PTR gb16 0)),(5,ov (PTR gb17 0))])
     (fs:=fun γ=>[⟨some 17,ov (PTR gb8 0)⟩,⟨some 18,ov (PTR gb8 0)⟩,⟨some 19,ov (PTR gb8 (0 + 0))⟩,⟨some 20,ov (MPV go10)⟩,⟨some 21,ov (S rS qn1)⟩,⟨some 22,ov (PTO (Option.map (fun _=>qm11 qn1) f21))⟩,⟨some 7,ov (PTR (γ 6 0) 0)⟩,⟨none,.one .any⟩])
     (rs:=fun γ=>[⟨cvar gb8 (zq1 go10) ((),(qb4,(qg5,(qh6,(qd7,()))))),none,none,[3]⟩,⟨cqm go10 (S rS) Zaa qm11 (some x9),none,none,[5]⟩,⟨cown go13 (rU UInt8) x12 0 gc14,none,none,[]⟩,⟨cvar gb15 (rW (PTR gb8 0)) (),none,none,[0]⟩,⟨cvar gb16 rS qn1,none,none,[4]⟩,⟨cvar gb17 (rW (HDX go13 (o2 * 1) n3)) (),none,none,[]⟩,⟨cvar (γ 6 0) (rW (PTO none)) (),(some 6),(some 7),[]⟩,⟨cvar (γ 6 0) (rW (PTO (Option.map (fun _=>qm11 qn1) f21))) (),(some 7),none,[]⟩])
     (afts:=[[],[],[],[],[],[],[6,7],[]]) (js:=[0,0,0,0,0,0]) mixed (.cons rfl (.cons rfl (.cons rfl .nil))) (fun _=>rfl)
     (by
      refine dR 1 (fun γ ρ B hb hd=>Zag.lk ⟨ρ,(cvar gb15 (rW (PTR gb8 0)) ())::B,_⟩ (Zal (j:=0) lb tS25 (.tmp (hb 3 _ rfl)) rfl (Comp.self (rW (PTR gb8 0)) ())))<|dS 2 (fun γ ρ B hb hd=>Zae lb (tl hd 0 17) (fun e v h=>by subst h; rfl))<|dS 3 (fun γ ρ B hb hd=>Zad (off:=0) lb Zct (tl hd 1 18))<|dR 4 (fun γ ρ B hb hd=>Zag.lk ⟨ρ,(cvar gb8 (zq1 go10) ((),(qb4,(qg5,(qh6,(qd7,()))))))::B,_⟩ (Zal (j:=0) lb tS62 (tl hd 2 19) rfl (Comp.trans (Comp.self (zq1 go10) ((),(qb4,(qg5,(qh6,(qd7,())))))) (Comp.at' (Comp.inF (Comp.self (rW (MPV go10)) ()) (lE rfl)) (by rfl : _ = 0)) (lE rfl))))<|dR 5 (fun γ ρ B hb hd=>Zag.lk ⟨ρ,(cvar gb16 rS qn1)::B,_⟩ (Zam (j:=0) lb tS9 (.tmp (hb 4 _ rfl)) rfl (Comp.self rS qn1) rfl rfl)) ?_
      refine dR 6 (fun γ ρ B hb hd=>Zag.lk ⟨ρ,(cqm go10 (S rS) Zaa qm11 (some x9))::B,_⟩ (Zc5 (j:=0) lb tu62 ky9 tZ69 rfl rfl (tl hd 3 20) (tl hd 4 21) hv_f_21)) ?_
      refine Zat.cons (j:=7) rfl (fun _=>rfl) (.runX (fun _ _=>rfl) (fun γ ρ B hb hd=>⟨.none,OpX.ghost (γ:=Nat) (st':=fun q=>setO ⟨ρ,(cvar q (rW (PTO none)) ())::B,_⟩ (some 7) (ov (PTR q 0))) (fun q c=>q) (OpX.front (Zcd lb tZ69 zr69)) (fun q=>Imp.refl)⟩) (fun _ _=>rfl) (fun _ _=>rfl)) ?_
      refine dR 8 (fun γ ρ B hb hd=>Zag.at ⟨ρ,(cvar (γ 6 0) (rW (PTO none)) ())::B,_⟩ (setO ⟨ρ,(cvar (γ 6 0) (rW (PTO (Option.map (fun _=>qm11 qn1) f21))) ())::B,_⟩ _ _) (Zb4 (j:=0) tS69 (tl hd 6 7) (tl hd 5 22) rfl (UpdR.self (by rfl)) rfl)) ?_
      exact Zat.nil)
     (by decide +kernel) (fun _=>rfl) (fun _=>rfl) (fun _=>rfl) rfl
     (ρ':=fun γ=>[(3,ov (PTR gb15 0)),(4,ov (PTR gb16 0)),(5,ov (PTR gb17 0)),(7,ov (PTR (γ 6 0) 0))])
     (X':=fun γ=>[cvar gb8 (zq1 go10) ((),(qb4,(qg5,(qh6,(qd7,()))))),cqm go10 (S rS) Zaa qm11 (some x9),cown go13 (rU UInt8) x12 0 gc14,cvar gb15 (rW (PTR gb8 0)) (),cvar gb16 rS qn1,cvar gb17 (rW (HDX go13 (o2 * 1) n3)) (),cvar (γ 6 0) (rW (PTO (Option.map (fun _=>qm11 qn1) f21))) ()])
     (fun γ ρ hb hd=>(.cons (hb 3 _ rfl) (.cons (hb 4 _ rfl) (.cons (hb 5 _ rfl) (.cons (hdq hd 6 7 rfl) .nil))))) (fun _=>rfl) (fun γ=>?_)
 generalize (γ 6 0) = gb22
 clear γ
 refine JQ.at ⟨[(3,ov (PTR gb15 0)),(4,ov (PTR gb16 0)),(5,ov (PTR gb17 0)),(7,ov (PTR gb22 0))],[cvar gb8 (zq1 go10) ((),(qb4,(qg5,(qh6,(qd7,()))))),cqm go10 (S rS) Zaa qm11 (some x9),cown go13 (rU UInt8) x12 0 gc14,cvar gb15 (rW (PTR gb8 0)) (),cvar gb16 rS qn1,cvar gb17 (rW (HDX go13 (o2 * 1) n3)) (),cvar gb22 (rW (PTO (Option.map (fun _=>qm11 qn1) f21))) ()],[]⟩<|JQ.then<|JC.seq<|bI hm fun x27 hx2 hq2=>JC.seqJ (γ:=Unit) (stj:=fun _=>⟨[(3,ov (PTR gb15 0)),(4,ov (PTR gb16 0)),(5,ov (PTR gb17 0)),(7,ov (PTR gb22 0)),(39,ov (S rB x27))],[cvar gb15 (rW (PTR gb8 0)) (),cvar gb8 (zq1 go10) ((),(qb4,(qg5,(qh6,(qd7,()))))),cqm go10 (S rS) Zaa qm11 (some x9),cvar gb16 rS qn1,cvar gb17 (rW (HDX go13 (o2 * 1) n3)) (),cown go13 (rU UInt8) x12 0 gc14,cvar gb22 (rW (PTO (Option.map (fun _=>qm11 qn1) f21))) ()],[]⟩) (fun _=>?_) ?_
 · refine jif tR hq2 (fun hc10 hq2=>?_) (fun hc10 hq2=>?_)
   · refine jr<|jc (Zac lb .cI)<|jn<|JC.ret<|JQ.outR ?_
     obtain rfl:=so hq2
     exact JQ.done (js:=[1,1,3]) (ss:=[.val (S (rI .i64) (5 : Int))]) qm11 (.inl rfl) (.nil rfl) rfl (.cons (.tmp rfl) .nil) rfl rfl rfl
   refine JC.skip<|JQ.then<|jr<|jc (ZcH lb (.cons tR (.cons tR (.cons tR (.cons tR .nil)))))<|jc (Zac lb tR)<|jn<|jr<|jc (Zal (j:=0) lb tS25 tR rfl (Comp.self (rW (PTR gb8 0)) ()))<|jmv rfl rfl<|jmv rfl rfl ?_
   obtain ⟨⟨v28,x29,x30,x31,x32,x33⟩,hv28,hq2⟩:=Zas hq2
   refine jx (Zak (js:=[1,1,4,0,0,0,0]) ld cl53 (Zcu k qb4 qg5 qh6 qd7 x9 f21 qn1 o2 n3 x12 gb8 go10 qm11 gb22 gb15 gb16 gb17 go13 gc14 (v28,x29,x30,x31,x32,x33) hv28) .func (.cons tR (.cons tR (.cons tR .nil))) rfl) fun qm34=>jc (Zac lb tR)<|jn<|JC.ret ?_
   obtain rfl:=so hq2
   exact JQ.done (js:=[0,0,4]) (ss:=[.val (S (rI .i64) v28)]) qm34 (.inl rfl) (.nil rfl) rfl (.cons (.tmp rfl) .nil) rfl rfl rfl
 refine bI hx2 fun v23 hv23 hx2=>?_
 obtain ⟨v24,hv24,hx2⟩:=Za2 hx2
 rcases Zbc hx2 with ⟨hc4,hx2⟩ | ⟨hc4,hx2⟩
 · refine JC.anyF (base:=[(3,ov (PTR gb15 0)),(4,ov (PTR gb16 0)),(5,ov (PTR gb17 0)),(7,ov (PTR gb22 0))])
       (fs:=fun γ=>[⟨some 23,ov (HDX go13 (o2 * 1) n3)⟩,⟨some 24,ov (S (rI .i64) ((n3 : Nat) : Int))⟩,⟨some 25,ov (PTR gb8 0)⟩,⟨some 26,ov (S (rI .i64) v23)⟩,⟨some 27,ov (S rB v24)⟩,⟨some 28,ov (S rB v24)⟩,⟨some 29,.one .und⟩,⟨some 30,.one .und⟩,⟨some 31,.one .und⟩,⟨some 32,.one .und⟩,⟨some 33,.one .und⟩,⟨some 34,.one .und⟩,⟨some 35,.one .und⟩,⟨some 36,.one .und⟩,⟨some 37,.one .und⟩,⟨some 38,.one .und⟩,⟨some 39,ov (S rB true)⟩])
       (rs:=fun γ=>[⟨cvar gb8 (zq1 go10) ((),(qb4,(qg5,(qh6,(qd7,()))))),none,none,[3]⟩,⟨cqm go10 (S rS) Zaa qm11 (some x9),none,none,[3]⟩,⟨cown go13 (rU UInt8) x12 0 gc14,none,none,[]⟩,⟨cvar gb15 (rW (PTR gb8 0)) (),none,none,[2]⟩,⟨cvar gb16 rS qn1,none,none,[]⟩,⟨cvar gb17 (rW (HDX go13 (o2 * 1) n3)) (),none,none,[0]⟩,⟨cvar gb22 (rW (PTO (Option.map (fun _=>qm11 qn1) f21))) (),none,none,[]⟩])
       (afts:=nn 17) (js:=[0,0,0,0,0,0,0]) mixed (.cons rfl (.cons rfl (.cons rfl (.cons rfl .nil)))) (fun _=>rfl)
       (by
      refine dR 1 (fun γ ρ B hb hd=>Zag.lk ⟨ρ,(cvar gb17 (rW (HDX go13 (o2 * 1) n3)) ())::B,_⟩ (Zal (j:=0) lb tS31 (.tmp (hb 5 _ rfl)) rfl (Comp.self (rW (HDX go13 (o2 * 1) n3)) ())))<|dS 2 (fun γ ρ B hb hd=>ZhD lb tu31 (tl hd 0 23))<|dR 3 (fun γ ρ B hb hd=>Zag.lk ⟨ρ,(cvar gb15 (rW (PTR gb8 0)) ())::B,_⟩ (Zal (j:=0) lb tS25 (.tmp (hb 3 _ rfl)) rfl (Comp.self (rW (PTR gb8 0)) ())))<|dR 4 (fun γ ρ B hb hd=>Zag.lk ⟨ρ,(cvar gb8 (zq1 go10) ((),(qb4,(qg5,(qh6,(qd7,()))))))::(cqm go10 (S rS) Zaa qm11 (some x9))::B,_⟩ ((Zak (js:=[0,0]) ld cl11 (Zaq k qb4 qg5 qh6 qd7 x9 gb8 go10 qm11 v23 hv23) .func (.cons (tl hd 2 25) .nil) rfl).post (fun _=>Imp.pick (js:=[0,0]) rfl rfl)))<|dS 5 (fun γ ρ B hb hd=>Zan lb (tl hd 1 24) (tl hd 3 26) (cs hv24)) ?_
      refine dm 6 4 27<|kn 7 5 28 rfl hc4<|kn 8 5 28 rfl hc4<|kn 9 5 28 rfl hc4<|ku 10 8 31 rfl ?_
      refine ku 11 8 31 rfl<|ku 12 8 31 rfl<|ku 13 8 31 rfl<|ku 14 8 31 rfl<|ku 15 8 31 rfl ?_
      refine kn 16 5 28 rfl hc4<|dS 17 (fun γ ρ B hb hd=>Zaw lb (tl hd 5 28) hc4 .cB) ?_
      exact Zat.nil)
       (by decide +kernel) (fun _=>rfl) (fun _=>rfl) (fun _=>rfl) rfl
       (ρ':=fun γ=>[(3,ov (PTR gb15 0)),(4,ov (PTR gb16 0)),(5,ov (PTR gb17 0)),(7,ov (PTR gb22 0)),(39,ov (S rB true))])
       (X':=fun γ=>[cvar gb8 (zq1 go10) ((),(qb4,(qg5,(qh6,(qd7,()))))),cqm go10 (S rS) Zaa qm11 (some x9),cown go13 (rU UInt8) x12 0 gc14,cvar gb15 (rW (PTR gb8 0)) (),cvar gb16 rS qn1,cvar gb17 (rW (HDX go13 (o2 * 1) n3)) (),cvar gb22 (rW (PTO (Option.map (fun _=>qm11 qn1) f21))) ()])
       (fun γ ρ hb hd=>(.cons (hb 3 _ rfl) (.cons (hb 4 _ rfl) (.cons (hb 5 _ rfl) (.cons (hb 7 _ rfl) (.cons (hdq hd 16 39 rfl) .nil)))))) (fun _=>rfl) (fun γ=>?_)
   refine JQ.at ⟨[(3,ov (PTR gb15 0)),(4,ov (PTR gb16 0)),(5,ov (PTR gb17 0)),(7,ov (PTR gb22 0)),(39,ov (S rB true))],[cvar gb8 (zq1 go10) ((),(qb4,(qg5,(qh6,(qd7,()))))),cqm go10 (S rS) Zaa qm11 (some x9),cown go13 (rU UInt8) x12 0 gc14,cvar gb15 (rW (PTR gb8 0)) (),cvar gb16 rS qn1,cvar gb17 (rW (HDX go13 (o2 * 1) n3)) (),cvar gb22 (rW (PTO (Option.map (fun _=>qm11 qn1) f21))) ()],[]⟩ ?_
   try obtain rfl:=so hx2
   exact JQ.join () (Imp.norm (js:=[3,0,0,1,1,0,0]) rfl (.cons rfl (.cons rfl (.cons rfl (.cons rfl (.cons rfl .nil))))))
 obtain ⟨v25,hv25,hx2⟩:=Za2 hx2
 rcases Zbc hx2 with ⟨hc9,hx2⟩ | ⟨hc9,hx2⟩
 · obtain ⟨v26,hv26,hx2⟩:=Za2 hx2
   refine JC.anyF (base:=[(3,ov (PTR gb15 0)),(4,ov (PTR gb16 0)),(5,ov (PTR gb17 0)),(7,ov (PTR gb22 0))])
       (fs:=fun γ=>[⟨some 23,ov (HDX go13 (o2 * 1) n3)⟩,⟨some 24,ov (S (rI .i64) ((n3 : Nat) : Int))⟩,⟨some 25,ov (PTR gb8 0)⟩,⟨some 26,ov (S (rI .i64) v23)⟩,⟨some 27,ov (S rB v24)⟩,⟨some 28,ov (S rB v24)⟩,⟨some 29,ov (PTO (Option.map (fun _=>qm11 qn1) f21))⟩,⟨some 30,ov (S rB v25)⟩,⟨some 31,ov (S rB v25)⟩,⟨some 32,bif v25 then ov (PTR gb8 0) else .one .und⟩,⟨some 33,bif v25 then ov (PTR gb8 0) else .one .und⟩,⟨some 34,bif v25 then ov (PTR gb8 (0 + 0)) else .one .und⟩,⟨some 35,ov (MPV go10)⟩,⟨some 36,ov (S (rI .i64) (List.length (Option.getD (some x9) []) : Int))⟩,⟨some 37,ov (S rB v26)⟩,⟨some 38,ov (S rB v26)⟩,⟨some 39,ov (S rB v26)⟩])
       (rs:=fun γ=>[⟨cvar gb8 (zq1 go10) ((),(qb4,(qg5,(qh6,(qd7,()))))),none,none,[3,12]⟩,⟨cqm go10 (S rS) Zaa qm11 (some x9),none,none,[3,13]⟩,⟨cown go13 (rU UInt8) x12 0 gc14,none,none,[]⟩,⟨cvar gb15 (rW (PTR gb8 0)) (),none,none,[2,9]⟩,⟨cvar gb16 rS qn1,none,none,[]⟩,⟨cvar gb17 (rW (HDX go13 (o2 * 1) n3)) (),none,none,[0]⟩,⟨cvar gb22 (rW (PTO (Option.map (fun _=>qm11 qn1) f21))) (),none,none,[6]⟩])
       (afts:=nn 17) (js:=[0,0,0,0,0,0,0]) mixed (.cons rfl (.cons rfl (.cons rfl (.cons rfl .nil)))) (fun _=>rfl)
       (by
      refine dR 1 (fun γ ρ B hb hd=>Zag.lk ⟨ρ,(cvar gb17 (rW (HDX go13 (o2 * 1) n3)) ())::B,_⟩ (Zal (j:=0) lb tS31 (.tmp (hb 5 _ rfl)) rfl (Comp.self (rW (HDX go13 (o2 * 1) n3)) ())))<|dS 2 (fun γ ρ B hb hd=>ZhD lb tu31 (tl hd 0 23))<|dR 3 (fun γ ρ B hb hd=>Zag.lk ⟨ρ,(cvar gb15 (rW (PTR gb8 0)) ())::B,_⟩ (Zal (j:=0) lb tS25 (.tmp (hb 3 _ rfl)) rfl (Comp.self (rW (PTR gb8 0)) ())))<|dR 4 (fun γ ρ B hb hd=>Zag.lk ⟨ρ,(cvar gb8 (zq1 go10) ((),(qb4,(qg5,(qh6,(qd7,()))))))::(cqm go10 (S rS) Zaa qm11 (some x9))::B,_⟩ ((Zak (js:=[0,0]) ld cl11 (Zaq k qb4 qg5 qh6 qd7 x9 gb8 go10 qm11 v23 hv23) .func (.cons (tl hd 2 25) .nil) rfl).post (fun _=>Imp.pick (js:=[0,0]) rfl rfl)))<|dS 5 (fun γ ρ B hb hd=>Zan lb (tl hd 1 24) (tl hd 3 26) (cs hv24)) ?_
      refine dm 6 4 27<|dY 7 (fun γ ρ B hb hd=>⟨.yes rfl (ltB rfl) (hl hd 5 28 rfl) hc4,Zag.lk ⟨ρ,(cvar gb22 (rW (PTO (Option.map (fun _=>qm11 qn1) f21))) ())::B,_⟩ (Zal (j:=0) lb tS69 (.tmp (hb 7 _ rfl)) rfl (Comp.self (rW (PTO (Option.map (fun _=>qm11 qn1) f21))) ()))⟩)<|dY 8 (fun γ ρ B hb hd=>⟨.yes rfl (ltB rfl) (hl hd 5 28 rfl) hc4,lkB (Zd7 (neg:=false) lb tu69 (tl hd 6 29) (HasO.const (p:=PTO none) fun _=>rfl) hv25)⟩)<|dY 9 (fun γ ρ B hb hd=>⟨.yes rfl (ltB rfl) (hl hd 5 28 rfl) hc4,lkB (Zai lb (tl hd 7 30))⟩) ?_
      refine eT 10 8 31 v25 (fun γ=>ov (PTR gb8 0)) (fun γ ρ B hb hd hq5=>Zag.lk ⟨ρ,(cvar gb15 (rW (PTR gb8 0)) ())::B,_⟩ (Zal (j:=0) lb tS25 (.tmp (hb 3 _ rfl)) rfl (Comp.self (rW (PTR gb8 0)) ()))) ?_
      refine dT 11 8 31 v25 (fun γ=>ov (PTR gb8 0)) (fun γ ρ B hb hd hq6=>Zae lb (HasO.cnd (tl hd 9 32) hq6) (fun e v h=>by subst h; rfl)) ?_
      refine dT 12 8 31 v25 (fun γ=>ov (PTR gb8 (0 + 0))) (fun γ ρ B hb hd hq7=>Zad (off:=0) lb Zct (HasO.cnd (tl hd 10 33) hq7)) ?_
      refine dY 13 (fun γ ρ B hb hd=>⟨.yes rfl (ltB rfl) (hl hd 8 31 rfl) hc9,Zag.lk ⟨ρ,(cvar gb8 (zq1 go10) ((),(qb4,(qg5,(qh6,(qd7,()))))))::B,_⟩ (Zal (j:=0) lb tS62 (HasO.cnd (tl hd 11 34) hc9) rfl (Comp.trans (Comp.self (zq1 go10) ((),(qb4,(qg5,(qh6,(qd7,())))))) (Comp.at' (Comp.inF (Comp.self (rW (MPV go10)) ()) (lE rfl)) (by rfl : _ = 0)) (lE rfl)))⟩)<|dY 14 (fun γ ρ B hb hd=>⟨.yes rfl (ltB rfl) (hl hd 8 31 rfl) hc9,Zag.lk ⟨ρ,(cqm go10 (S rS) Zaa qm11 (some x9))::B,_⟩ (Zfz (j:=0) lb tu62 rfl (tl hd 12 35))⟩)<|dY 15 (fun γ ρ B hb hd=>⟨.yes rfl (ltB rfl) (hl hd 8 31 rfl) hc9,lkB (Zan lb (tl hd 13 36) .cI (cs hv26))⟩)<|dY 16 (fun γ ρ B hb hd=>⟨.yes rfl (ltB rfl) (hl hd 5 28 rfl) hc4,lkB (Zaw lb (tl hd 8 31) hc9 (tl hd 14 37))⟩)<|dS 17 (fun γ ρ B hb hd=>Zar lb (tl hd 5 28) hc4 (tl hd 15 38)) ?_
      exact Zat.nil)
       (by decide +kernel) (fun _=>rfl) (fun _=>rfl) (fun _=>rfl) rfl
       (ρ':=fun γ=>[(3,ov (PTR gb15 0)),(4,ov (PTR gb16 0)),(5,ov (PTR gb17 0)),(7,ov (PTR gb22 0)),(39,ov (S rB v26))])
       (X':=fun γ=>[cvar gb8 (zq1 go10) ((),(qb4,(qg5,(qh6,(qd7,()))))),cqm go10 (S rS) Zaa qm11 (some x9),cown go13 (rU UInt8) x12 0 gc14,cvar gb15 (rW (PTR gb8 0)) (),cvar gb16 rS qn1,cvar gb17 (rW (HDX go13 (o2 * 1) n3)) (),cvar gb22 (rW (PTO (Option.map (fun _=>qm11 qn1) f21))) ()])
       (fun γ ρ hb hd=>(.cons (hb 3 _ rfl) (.cons (hb 4 _ rfl) (.cons (hb 5 _ rfl) (.cons (hb 7 _ rfl) (.cons (hdq hd 16 39 rfl) .nil)))))) (fun _=>rfl) (fun γ=>?_)
   refine JQ.at ⟨[(3,ov (PTR gb15 0)),(4,ov (PTR gb16 0)),(5,ov (PTR gb17 0)),(7,ov (PTR gb22 0)),(39,ov (S rB v26))],[cvar gb8 (zq1 go10) ((),(qb4,(qg5,(qh6,(qd7,()))))),cqm go10 (S rS) Zaa qm11 (some x9),cown go13 (rU UInt8) x12 0 gc14,cvar gb15 (rW (PTR gb8 0)) (),cvar gb16 rS qn1,cvar gb17 (rW (HDX go13 (o2 * 1) n3)) (),cvar gb22 (rW (PTO (Option.map (fun _=>qm11 qn1) f21))) ()],[]⟩ ?_
   try obtain rfl:=so hx2
   exact JQ.join () (Imp.norm (js:=[3,0,0,1,1,0,0]) rfl (.cons rfl (.cons rfl (.cons rfl (.cons rfl (.cons rfl .nil))))))
 refine JC.anyF (base:=[(3,ov (PTR gb15 0)),(4,ov (PTR gb16 0)),(5,ov (PTR gb17 0)),(7,ov (PTR gb22 0))])
     (fs:=fun γ=>[⟨some 23,ov (HDX go13 (o2 * 1) n3)⟩,⟨some 24,ov (S (rI .i64) ((n3 : Nat) : Int))⟩,⟨some 25,ov (PTR gb8 0)⟩,⟨some 26,ov (S (rI .i64) v23)⟩,⟨some 27,ov (S rB v24)⟩,⟨some 28,ov (S rB v24)⟩,⟨some 29,ov (PTO (Option.map (fun _=>qm11 qn1) f21))⟩,⟨some 30,ov (S rB v25)⟩,⟨some 31,ov (S rB v25)⟩,⟨some 32,bif v25 then ov (PTR gb8 0) else .one .und⟩,⟨some 33,bif v25 then ov (PTR gb8 0) else .one .und⟩,⟨some 34,bif v25 then ov (PTR gb8 (0 + 0)) else .one .und⟩,⟨some 35,.one .und⟩,⟨some 36,.one .und⟩,⟨some 37,.one .und⟩,⟨some 38,ov (S rB false)⟩,⟨some 39,ov (S rB false)⟩])
     (rs:=fun γ=>[⟨cvar gb8 (zq1 go10) ((),(qb4,(qg5,(qh6,(qd7,()))))),none,none,[3]⟩,⟨cqm go10 (S rS) Zaa qm11 (some x9),none,none,[3]⟩,⟨cown go13 (rU UInt8) x12 0 gc14,none,none,[]⟩,⟨cvar gb15 (rW (PTR gb8 0)) (),none,none,[2,9]⟩,⟨cvar gb16 rS qn1,none,none,[]⟩,⟨cvar gb17 (rW (HDX go13 (o2 * 1) n3)) (),none,none,[0]⟩,⟨cvar gb22 (rW (PTO (Option.map (fun _=>qm11 qn1) f21))) (),none,none,[6]⟩])
     (afts:=nn 17) (js:=[0,0,0,0,0,0,0]) mixed (.cons rfl (.cons rfl (.cons rfl (.cons rfl .nil)))) (fun _=>rfl)
     (by
      refine dR 1 (fun γ ρ B hb hd=>Zag.lk ⟨ρ,(cvar gb17 (rW (HDX go13 (o2 * 1) n3)) ())::B,_⟩ (Zal (j:=0) lb tS31 (.tmp (hb 5 _ rfl)) rfl (Comp.self (rW (HDX go13 (o2 * 1) n3)) ())))<|dS 2 (fun γ ρ B hb hd=>ZhD lb tu31 (tl hd 0 23))<|dR 3 (fun γ ρ B hb hd=>Zag.lk ⟨ρ,(cvar gb15 (rW (PTR gb8 0)) ())::B,_⟩ (Zal (j:=0) lb tS25 (.tmp (hb 3 _ rfl)) rfl (Comp.self (rW (PTR gb8 0)) ())))<|dR 4 (fun γ ρ B hb hd=>Zag.lk ⟨ρ,(cvar gb8 (zq1 go10) ((),(qb4,(qg5,(qh6,(qd7,()))))))::(cqm go10 (S rS) Zaa qm11 (some x9))::B,_⟩ ((Zak (js:=[0,0]) ld cl11 (Zaq k qb4 qg5 qh6 qd7 x9 gb8 go10 qm11 v23 hv23) .func (.cons (tl hd 2 25) .nil) rfl).post (fun _=>Imp.pick (js:=[0,0]) rfl rfl)))<|dS 5 (fun γ ρ B hb hd=>Zan lb (tl hd 1 24) (tl hd 3 26) (cs hv24)) ?_
      refine dm 6 4 27<|dY 7 (fun γ ρ B hb hd=>⟨.yes rfl (ltB rfl) (hl hd 5 28 rfl) hc4,Zag.lk ⟨ρ,(cvar gb22 (rW (PTO (Option.map (fun _=>qm11 qn1) f21))) ())::B,_⟩ (Zal (j:=0) lb tS69 (.tmp (hb 7 _ rfl)) rfl (Comp.self (rW (PTO (Option.map (fun _=>qm11 qn1) f21))) ()))⟩)<|dY 8 (fun γ ρ B hb hd=>⟨.yes rfl (ltB rfl) (hl hd 5 28 rfl) hc4,lkB (Zd7 (neg:=false) lb tu69 (tl hd 6 29) (HasO.const (p:=PTO none) fun _=>rfl) hv25)⟩)<|dY 9 (fun γ ρ B hb hd=>⟨.yes rfl (ltB rfl) (hl hd 5 28 rfl) hc4,lkB (Zai lb (tl hd 7 30))⟩) ?_
      refine eT 10 8 31 v25 (fun γ=>ov (PTR gb8 0)) (fun γ ρ B hb hd hq5=>Zag.lk ⟨ρ,(cvar gb15 (rW (PTR gb8 0)) ())::B,_⟩ (Zal (j:=0) lb tS25 (.tmp (hb 3 _ rfl)) rfl (Comp.self (rW (PTR gb8 0)) ()))) ?_
      refine dT 11 8 31 v25 (fun γ=>ov (PTR gb8 0)) (fun γ ρ B hb hd hq6=>Zae lb (HasO.cnd (tl hd 9 32) hq6) (fun e v h=>by subst h; rfl)) ?_
      refine dT 12 8 31 v25 (fun γ=>ov (PTR gb8 (0 + 0))) (fun γ ρ B hb hd hq7=>Zad (off:=0) lb Zct (HasO.cnd (tl hd 10 33) hq7)) ?_
      refine kn 13 8 31 rfl hc9<|kn 14 8 31 rfl hc9<|kn 15 8 31 rfl hc9<|dY 16 (fun γ ρ B hb hd=>⟨.yes rfl (ltB rfl) (hl hd 5 28 rfl) hc4,lkB (Zar lb (tl hd 8 31) hc9 .cB)⟩)<|dS 17 (fun γ ρ B hb hd=>Zar lb (tl hd 5 28) hc4 (tl hd 15 38)) ?_
      exact Zat.nil)
     (by decide +kernel) (fun _=>rfl) (fun _=>rfl) (fun _=>rfl) rfl
     (ρ':=fun γ=>[(3,ov (PTR gb15 0)),(4,ov (PTR gb16 0)),(5,ov (PTR gb17 0)),(7,ov (PTR gb22 0)),(39,ov (S rB false))])
     (X':=fun γ=>[cvar gb8 (zq1 go10) ((),(qb4,(qg5,(qh6,(qd7,()))))),cqm go10 (S rS) Zaa qm11 (some x9),cown go13 (rU UInt8) x12 0 gc14,cvar gb15 (rW (PTR gb8 0)) (),cvar gb16 rS qn1,cvar gb17 (rW (HDX go13 (o2 * 1) n3)) (),cvar gb22 (rW (PTO (Option.map (fun _=>qm11 qn1) f21))) ()])
     (fun γ ρ hb hd=>(.cons (hb 3 _ rfl) (.cons (hb 4 _ rfl) (.cons (hb 5 _ rfl) (.cons (hb 7 _ rfl) (.cons (hdq hd 16 39 rfl) .nil)))))) (fun _=>rfl) (fun γ=>?_)
 refine JQ.at ⟨[(3,ov (PTR gb15 0)),(4,ov (PTR gb16 0)),(5,ov (PTR gb17 0)),(7,ov (PTR gb22 0)),(39,ov (S rB false))],[cvar gb8 (zq1 go10) ((),(qb4,(qg5,(qh6,(qd7,()))))),cqm go10 (S rS) Zaa qm11 (some x9),cown go13 (rU UInt8) x12 0 gc14,cvar gb15 (rW (PTR gb8 0)) (),cvar gb16 rS qn1,cvar gb17 (rW (HDX go13 (o2 * 1) n3)) (),cvar gb22 (rW (PTO (Option.map (fun _=>qm11 qn1) f21))) ()],[]⟩ ?_
 try obtain rfl:=so hx2
 exact JQ.join () (Imp.norm (js:=[3,0,0,1,1,0,0]) rfl (.cons rfl (.cons rfl (.cons rfl (.cons rfl (.cons rfl .nil))))))

theorem ZcZ (k : Nat) (qb2 : Int) (qg3 : Int) (qh4 : Bool) (qd5 : Int) (x7 : (List ((List UInt8) × Zaf))) (x10 : (List UInt8)) (gb1 : Nat) (gb6 : Nat) (go8 : Option Nat) (qm9 : ((List UInt8) → Nat)) (gb11 : Nat) (r : (List ((List UInt8) × Zaf))) (hm : ZbG k qb2 qg3 qh4 qd5 x7 x10 = some r) : Sim Try.prog 58 [PTR gb1 0,PTR gb11 0] [cvar gb1 (rW (PTR gb6 0)) (),cvar gb6 (zq1 go8) ((),(qb2,(qg3,(qh4,(qd5,()))))),cqm go8 (S rS) Zaa qm9 (some x7),cvar gb11 rS x10] (γ:=Unit) (fun q=>[cvar gb1 (rW (PTR gb6 0)) (),cvar gb6 (zq1 go8) ((),(qb2,(qg3,(qh4,(qd5,()))))),cqm go8 (S rS) Zaa qm9 (some r),cvar gb11 rS x10]) (fun q=>.tup []):=by
 unfold ZbG at hm
 refine Sim.of Try.func58 rfl rfl (lE rfl) (fun e0 w0=>?_)
 refine JC.at ⟨[(0,ov (PTR gb1 0)),(1,ov (PTR gb11 0))],[cvar gb1 (rW (PTR gb6 0)) (),cvar gb6 (zq1 go8) ((),(qb2,(qg3,(qh4,(qd5,()))))),cqm go8 (S rS) Zaa qm9 (some x7),cvar gb11 rS x10],[]⟩ ?_
 obtain ⟨x12,hv_x_12,hm⟩:=Za2 hm
 refine JC.anyF (base:=[(0,ov (PTR gb1 0)),(1,ov (PTR gb11 0))])
     (fs:=fun γ=>[⟨some 2,ov (PTR gb6 0)⟩,⟨some 3,ov (PTR gb6 0)⟩,⟨some 4,ov (PTR gb6 (0 + 0))⟩,⟨some 5,ov (MPV go8)⟩,⟨some 6,ov (S rS x10)⟩,⟨none,.one .any⟩])
     (rs:=fun γ=>[⟨cvar gb1 (rW (PTR gb6 0)) (),none,none,[0]⟩,⟨cvar gb6 (zq1 go8) ((),(qb2,(qg3,(qh4,(qd5,()))))),none,none,[3]⟩,⟨cqm go8 (S rS) Zaa qm9 (some x7),none,(some 5),[]⟩,⟨cvar gb11 rS x10,none,none,[4]⟩,⟨cqm go8 (S rS) Zaa qm9 (some x12),(some 5),none,[]⟩])
     (afts:=nn 6) (js:=[0,0,0,0]) mixed (.cons rfl (.cons rfl .nil)) (fun _=>rfl)
     (by
      refine dR 1 (fun γ ρ B hb hd=>Zag.lk ⟨ρ,(cvar gb1 (rW (PTR gb6 0)) ())::B,_⟩ (Zal (j:=0) lb tS25 (.tmp (hb 0 _ rfl)) rfl (Comp.self (rW (PTR gb6 0)) ())))<|dS 2 (fun γ ρ B hb hd=>Zae lb (tl hd 0 2) (fun e v h=>by subst h; rfl))<|dS 3 (fun γ ρ B hb hd=>Zad (off:=0) lb Zct (tl hd 1 3))<|dR 4 (fun γ ρ B hb hd=>Zag.lk ⟨ρ,(cvar gb6 (zq1 go8) ((),(qb2,(qg3,(qh4,(qd5,()))))))::B,_⟩ (Zal (j:=0) lb tS62 (tl hd 2 4) rfl (Comp.trans (Comp.self (zq1 go8) ((),(qb2,(qg3,(qh4,(qd5,())))))) (Comp.at' (Comp.inF (Comp.self (rW (MPV go8)) ()) (lE rfl)) (by rfl : _ = 0)) (lE rfl))))<|dR 5 (fun γ ρ B hb hd=>Zag.lk ⟨ρ,(cvar gb11 rS x10)::B,_⟩ (Zam (j:=0) lb tS9 (.tmp (hb 1 _ rfl)) rfl (Comp.self rS x10) rfl rfl)) ?_
      refine dR 6 (fun γ ρ B hb hd=>Zag.at ⟨ρ,(cqm go8 (S rS) Zaa qm9 (some x7))::B,_⟩ (setO ⟨ρ,(cqm go8 (S rS) Zaa qm9 (some x12))::B,_⟩ _ _) (ZiC (j:=0) rfl tu62 ky9 rfl (tl hd 3 5) (tl hd 4 6) (cs hv_x_12))) ?_
      exact Zat.nil)
     (by decide +kernel) (fun _=>rfl) (fun _=>rfl) (fun _=>rfl) rfl
     (ρ':=fun γ=>[])
     (X':=fun γ=>[cvar gb1 (rW (PTR gb6 0)) (),cvar gb6 (zq1 go8) ((),(qb2,(qg3,(qh4,(qd5,()))))),cvar gb11 rS x10,cqm go8 (S rS) Zaa qm9 (some x12)])
     (fun γ ρ hb hd=>.nil) (fun _=>rfl) (fun γ=>?_)
 refine JQ.at ⟨[],[cvar gb1 (rW (PTR gb6 0)) (),cvar gb6 (zq1 go8) ((),(qb2,(qg3,(qh4,(qd5,()))))),cvar gb11 rS x10,cqm go8 (S rS) Zaa qm9 (some x12)],[]⟩ ?_
 obtain rfl:=so hm
 refine JQ.pre (Imp.var (j:=1) (q:=(zq1 go8)) (y:=((),(qb2,(qg3,(qh4,(qd5,())))))) rfl Wk.refl) ?_
 exact JQ.done (js:=[0,0,1,0]) (ss:=[]) () (.inr rfl) (.nil rfl) rfl .nil rfl rfl rfl

theorem ZcW (k : Nat) (qb1 : Int) (fuse2 : Int) (qh3 : Bool) (qd4 : Int) (x6 : (List ((List UInt8) × Zaf))) (x10 : (List UInt8)) (gb5 : Nat) (go7 : Option Nat) (qm8 : ((List UInt8) → Nat)) (gb9 : Nat) (gb11 : Nat) (r : Int × (List ((List UInt8) × Zaf)) × Int × Bool × Int) (hm : ZaU k qb1 fuse2 qh3 qd4 x6 x10 = some r) : Sim Try.prog 53 [PTR gb5 0,CLO 58 [PTR gb9 0,PTR gb11 0],CLO 55 []] [cvar gb5 (zq1 go7) ((),(qb1,(fuse2,(qh3,(qd4,()))))),cqm go7 (S rS) Zaa qm8 (some x6),cvar gb9 (rW (PTR gb5 0)) (),cvar gb11 rS x10] (γ:=Unit) (fun q=>[cvar gb5 (zq1 go7) ((),(qb1,(r.2.2.1,(r.2.2.2.1,(r.2.2.2.2,()))))),cqm go7 (S rS) Zaa qm8 (some r.2.1),cvar gb9 (rW (PTR gb5 0)) (),cvar gb11 rS x10]) (fun q=>.one (.val (S (rI .i64) r.1))):=by
 unfold ZaU at hm
 refine Sim.of Try.func53 rfl rfl (lE rfl) (fun e0 w0=>?_)
 refine JC.at ⟨[(0,ov (PTR gb5 0)),(1,ov (CLO 58 [PTR gb9 0,PTR gb11 0])),(2,ov (CLO 55 []))],[cvar gb5 (zq1 go7) ((),(qb1,(fuse2,(qh3,(qd4,()))))),cqm go7 (S rS) Zaa qm8 (some x6),cvar gb9 (rW (PTR gb5 0)) (),cvar gb11 rS x10],[]⟩<|jr<|jc (Zac lb .cI)<|jn<|JC.seq<|jr<|jmv rfl rfl<|jc (Zae lb tR (fun e v h=>by subst h; rfl))<|jc (Zad (off:=3) lb Zd0 tR)<|jc (Zam (j:=0) lb tS4 tR rfl (Comp.trans (Comp.self (zq1 go7) ((),(qb1,(fuse2,(qh3,(qd4,())))))) (Comp.at' (Comp.inS (Comp.inS (Comp.inS (Comp.inF (Comp.self rB qh3) (lE rfl))))) (by rfl : _ = 3)) (lE rfl)) rfl rfl)<|jn<|jif tR hm (fun hc1 hm=>?_) (fun hc1 hm=>?_)
 · refine jr<|jc (Zac lb .cI)<|jn<|JC.ret<|JQ.outR ?_
   obtain rfl:=so hm
   refine JQ.pre (Imp.var (j:=0) (q:=(zq1 go7)) (y:=((),(qb1,(fuse2,(qh3,(qd4,())))))) rfl Wk.refl) ?_
   exact JQ.done (js:=[0,0,0,0]) (ss:=[.val (S (rI .i64) (8 : Int))]) () (.inl rfl) (.nil rfl) rfl (.cons (.tmp rfl) .nil) rfl rfl rfl
 refine JC.skip<|JQ.then<|jr<|jmv rfl rfl<|jc (Zae lb tR (fun e v h=>by subst h; rfl))<|jc (Zad (off:=4) lb ZdZ tR)<|jc (Zam (j:=0) lb tS3 tR rfl (Comp.trans (Comp.self (zq1 go7) ((),(qb1,(fuse2,(qh3,(qd4,())))))) (Comp.at' (Comp.inS (Comp.inS (Comp.inS (Comp.inS (Comp.inF (Comp.self (rI .i64) qd4) (lE rfl)))))) (by rfl : _ = 4)) (lE rfl)) rfl rfl)<|lI hm fun v12 hv12 hm=>jc (Zbx lb tR .cI (cs hv12))<|jc (Zae lb tR (fun e v h=>by subst h; rfl))<|jc (Zad (off:=4) lb ZdZ tR)<|JL.sub ⟨[(0,ov (PTR gb5 0)),(1,ov (CLO 58 [PTR gb9 0,PTR gb11 0])),(2,ov (CLO 55 [])),(15,ov (S (rI .i64) v12)),(17,ov (PTR gb5 (0 + 4)))],[cvar gb5 (zq1 go7) ((),(qb1,(fuse2,(qh3,(qd4,()))))),cqm go7 (S rS) Zaa qm8 (some x6),cvar gb9 (rW (PTR gb5 0)) (),cvar gb11 rS x10],[]⟩ (.cons rfl (.cons rfl (.cons rfl (.cons rfl (.cons rfl .nil))))) rfl rfl<|jc (ZaL (j:=0) tS3 tR tR rfl rfl ((UpdR.snd (UpdR.snd (UpdR.snd (UpdR.snd (UpdR.fst (UpdR.self (by rfl))))))).at (by change (1 + (1 + (1 + (1 + 0)))) = (0 + 4); omega)) rfl)<|jn<|JC.seq<|jr<|jmv rfl rfl<|jc (Zae lb tR (fun e v h=>by subst h; rfl))<|jc (Zad (off:=2) lb Zcs tR)<|jc (Zam (j:=0) lb tS3 tR rfl (Comp.trans (Comp.self (zq1 go7) ((),(qb1,(fuse2,(qh3,(v12,())))))) (Comp.at' (Comp.inS (Comp.inS (Comp.inF (Comp.self (rI .i64) fuse2) (lE rfl)))) (by rfl : _ = 2)) (lE rfl)) rfl rfl) ?_
 obtain ⟨v13,hv13,hm⟩:=Za2 hm
 refine jc (Zan lb tR .cI (cs hv13))<|jn<|jif tR hm (fun hc2 hm=>?_) (fun hc2 hm=>?_)
 · refine jr<|jmv rfl rfl<|jc (Zae lb tR (fun e v h=>by subst h; rfl))<|jc (Zad (off:=3) lb Zd0 tR)<|jc (ZaL (j:=0) tS4 tR .cB rfl rfl ((UpdR.snd (UpdR.snd (UpdR.snd (UpdR.fst (UpdR.self (by rfl)))))).at (by change (1 + (1 + (1 + 0))) = (0 + 3); omega)) rfl)<|JL.sub ⟨[(2,ov (CLO 55 []))],[cvar gb5 (zq1 go7) ((),(qb1,(fuse2,(true,(v12,()))))),cqm go7 (S rS) Zaa qm8 (some x6),cvar gb9 (rW (PTR gb5 0)) (),cvar gb11 rS x10],[]⟩ (.cons rfl .nil) rfl rfl<|jn<|jr<|jmv rfl rfl<|bI hm fun _ hv_u_14 hm=>jx (Zak (js:=[]) ld cl55 (ZcU k () hv_u_14) tR .nil rfl) fun _=>jn<|jr<|jc (Zac lb .cI)<|jn<|JC.ret<|JQ.outR ?_
   obtain rfl:=so hm
   refine JQ.pre (Imp.var (j:=0) (q:=(zq1 go7)) (y:=((),(qb1,(fuse2,(true,(v12,())))))) rfl Wk.refl) ?_
   exact JQ.done (js:=[0,0,0,0]) (ss:=[.val (S (rI .i64) (8 : Int))]) () (.inl rfl) (.nil rfl) rfl (.cons (.tmp rfl) .nil) rfl rfl rfl
 refine JC.skip<|JQ.then<|bI hm fun x17 hx3 hq3=>JC.seqJ (γ:=Unit) (stj:=fun _=>⟨[(1,ov (CLO 58 [PTR gb9 0,PTR gb11 0]))],[cvar gb9 (rW (PTR gb5 0)) (),cvar gb5 (zq1 go7) ((),(qb1,(x17,(qh3,(v12,()))))),cqm go7 (S rS) Zaa qm8 (some x6),cvar gb11 rS x10],[]⟩) (fun _=>?_) ?_
 · refine jr<|jmv rfl rfl<|bI hq3 fun x18 hv_x_18 hq3=>jx (Zak (js:=[0,0,0,0]) ld cl58 (ZcZ k qb1 x17 qh3 v12 x6 x10 gb9 gb5 go7 qm8 gb11 x18 hv_x_18) tR .nil rfl) fun _=>jn<|jr<|jc (Zac lb .cI)<|jn<|JC.ret ?_
   obtain rfl:=so hq3
   exact JQ.done (js:=[1,1,0,0]) (ss:=[.val (S (rI .i64) (0 : Int))]) () (.inl rfl) (.nil rfl) rfl (.cons (.tmp rfl) .nil) rfl rfl rfl
 refine jr<|jmv rfl rfl<|jc (Zae lb tR (fun e v h=>by subst h; rfl))<|jc (Zad (off:=2) lb Zcs tR)<|jc (Zam (j:=0) lb tS3 tR rfl (Comp.trans (Comp.self (zq1 go7) ((),(qb1,(fuse2,(qh3,(v12,())))))) (Comp.at' (Comp.inS (Comp.inS (Comp.inF (Comp.self (rI .i64) fuse2) (lE rfl)))) (by rfl : _ = 2)) (lE rfl)) rfl rfl)<|JL.sub ⟨[(0,ov (PTR gb5 0)),(1,ov (CLO 58 [PTR gb9 0,PTR gb11 0])),(31,ov (S (rI .i64) fuse2))],[cvar gb5 (zq1 go7) ((),(qb1,(fuse2,(qh3,(v12,()))))),cqm go7 (S rS) Zaa qm8 (some x6),cvar gb9 (rW (PTR gb5 0)) (),cvar gb11 rS x10],[]⟩ (.cons rfl (.cons rfl (.cons rfl .nil))) rfl rfl<|lI hx3 fun v15 hv15 hx3=>jc (Zan lb tR .cI (cs hv15))<|jn<|jif tR hx3 (fun hc4 hx3=>?_) (fun hc4 hx3=>?_)
 · refine JC.region<|jmv rfl rfl<|jc (Zae lb tR (fun e v h=>by subst h; rfl))<|jc (Zad (off:=2) lb Zcs tR)<|jc (Zam (j:=0) lb tS3 tR rfl (Comp.trans (Comp.self (zq1 go7) ((),(qb1,(fuse2,(qh3,(v12,())))))) (Comp.at' (Comp.inS (Comp.inS (Comp.inF (Comp.self (rI .i64) fuse2) (lE rfl)))) (by rfl : _ = 2)) (lE rfl)) rfl rfl)<|lI hx3 fun v16 hv16 hx3=>jc (Zbx lb tR .cI (cs hv16))<|jc (Zae lb tR (fun e v h=>by subst h; rfl))<|jc (Zad (off:=2) lb Zcs tR)<|jc (ZaL (j:=0) tS3 tR tR rfl rfl ((UpdR.snd (UpdR.snd (UpdR.fst (UpdR.self (by rfl))))).at (by change (1 + (1 + 0)) = (0 + 2); omega)) rfl)<|JL.nil ?_
   try obtain rfl:=so hx3
   refine JQ.pre (Imp.var (j:=0) (q:=(zq1 go7)) (y:=((),(qb1,(v16,(qh3,(v12,())))))) rfl Wk.refl) ?_
   exact JQ.join () (Imp.norm (js:=[2,0,0,0]) rfl (.cons rfl .nil))
 refine JC.skip ?_
 try obtain rfl:=so hx3
 refine JQ.pre (Imp.var (j:=0) (q:=(zq1 go7)) (y:=((),(qb1,(fuse2,(qh3,(v12,())))))) rfl Wk.refl) ?_
 exact JQ.join () (Imp.norm (js:=[2,0,0,0]) rfl (.cons rfl .nil))

end Go.Proofs.Ytipchpbcjkhnaaa
