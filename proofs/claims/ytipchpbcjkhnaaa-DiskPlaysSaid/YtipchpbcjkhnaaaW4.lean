/- Walks. -/
import Derived.Test.YtipchpbcjkhnaaaT
import Derived.Test.YtipchpbcjkhnaaaW0
import Derived.Test.YtipchpbcjkhnaaaW1
import Derived.Test.YtipchpbcjkhnaaaW2
import Derived.Test.YtipchpbcjkhnaaaW3
namespace Go.Proofs.Ytipchpbcjkhnaaa
open Go Fw
set_option linter.unusedVariables false
set_option maxRecDepth 100000
set_option maxHeartbeats 4000000

theorem Zc9 (k : Nat) (r : Bool) (hm : ZcG k = some r) : Sim Try.prog 8 [] [] (γ:=Unit) (fun q=>[]) (fun q=>.one (.val (S rB r))):=by
 unfold ZcG at hm
 refine Sim.of Try.func8 rfl rfl (lE rfl) (fun e0 w0=>?_)
 refine JC.at ⟨[],[],[]⟩<|jr<|jc (Zac lb .cB)<|jn<|jr ?_
 obtain ⟨ts1,hs1,hm⟩:=Zas hm
 rcases ts1 with ts1 | ts1
 · obtain _:=ts1
   dsimp only at hm
   refine jx (Zak (js:=[]) ld cl9 (Zeu k (9 : Int) () hs1) .func (.cons .cI .nil) rfl) (fun q=>?_)
   obtain ⟨gb1,go2⟩:=q
   refine jmv rfl rfl<|jc (Zao (i:=0) lb tR rfl)<|jc (Zao (i:=1) lb tR rfl)<|jc (Zac lb tR)<|jc (Zac lb tR)<|jn<|JC.seq ?_
   obtain ⟨⟨x30,qg31,qh32,qd33,x34⟩,hx2,hq2⟩:=Zas hm
   refine JC.seqJ (γ:=((List UInt8) → Nat)) (stj:=fun q=>⟨[(1,ov (PTR gb1 0)),(40,ov (S rB x34))],[cvar gb1 (zq1 go2) ((),((9 : Int),(qg31,(qh32,(qd33,()))))),cqm go2 (S rS) Zaa q (some x30)],[]⟩) (fun q=>?_) ?_
   · obtain ⟨qm35,hqq⟩ : ∃ z,z = q:=⟨_,rfl⟩
     subst hqq
     refine JC.at ⟨[(1,ov (PTR gb1 0)),(40,ov (S rB x34))],[cvar gb1 (zq1 go2) ((),((9 : Int),(qg31,(qh32,(qd33,()))))),cqm go2 (S rS) Zaa qm35 (some x30)],[]⟩<|jif tR hq2 (fun hc3 hq2=>?_) (fun hc3 hq2=>?_)
     · refine jr<|jc (Zac lb .cB)<|jn<|JC.ret<|JQ.outR ?_
       obtain rfl:=so hq2
       exact jd (.val (S rB false)) rfl rfl rfl rfl rfl rfl
     refine JC.skip<|JQ.then<|jr<|jmv rfl rfl<|jc (Zd8 (r:=(rI .i64)) lb tu34 tz3 tZ3 rfl (lE rfl) (.S rfl .cI .nil) rfl)<|bI hq2 fun v36 hv36 hq2=>jx (Zak (js:=[0,0]) ld cl24 (Zcr k ([(1 : Int)] : (List Int)) (9 : Int) qg31 qh32 qd33 x30 gb1 go2 qm35 v36 hv36) .func (.cons tR (.cons tR .nil)) rfl) (fun q=>?_)
     obtain ⟨gb37,go38,qm39⟩:=q
     refine jc (Zac lb tR)<|jn<|JC.seq<|jr<|jmv rfl rfl<|jc (Zd2 (neg:=false) lb tu25 tR (HasO.const (p:=PTO none) fun _=>rfl))<|jn<|JC.condF tR rfl<|JC.skip<|JQ.then<|jr<|jmv rfl rfl ?_
     obtain ⟨⟨v40,v41⟩,hv40,hq2⟩:=Zas hq2
     refine jx (Zak (js:=[0,0]) ld cl12 (Zbt k ([97] : List UInt8) (9 : Int) (-1 : Int) false (0 : Int) (v36) gb37 go38 qm39 (v40,v41) hv40) .func (.cons tR (.cons (HasO.cS (l:=[97]) rfl) .nil)) rfl) (fun q=>?_)
     obtain ⟨go42,gc43⟩:=q
     refine JL.nrm ⟨[(1,ov (PTR gb1 0)),(48,.tup [.val (HDR go42 0 (List.length v40) gc43),.val (S (rI .i64) v41)])],[cown go42 (rU UInt8) v40 0 gc43,cvar gb1 (zq1 go2) ((),((9 : Int),(qg31,(qh32,(qd33,()))))),cqm go2 (S rS) Zaa qm35 (some x30)],[]⟩ [0,2,2] rfl (.cons rfl (.cons rfl .nil)) rfl<|jmv rfl rfl<|jc (Zao (i:=0) lb tR rfl)<|jc (Zao (i:=1) lb tR rfl)<|jc (Zac lb tR)<|jc (Zac lb tR)<|jn<|jr<|jmv rfl rfl ?_
     obtain ⟨⟨v44,v45⟩,hv44,hq2⟩:=Zas hq2
     refine jx (Zak (js:=[1,1]) ld cl27 (ZbX k ([97] : List UInt8) (9 : Int) qg31 qh32 qd33 x30 gb1 go2 qm35 (v44,v45) hv44) .func (.cons tR (.cons (HasO.cS (l:=[97]) rfl) .nil)) rfl) fun _=>jmv rfl rfl<|jc (Zao (i:=0) lb tR rfl)<|jc (Zao (i:=1) lb tR rfl)<|JL.sub ⟨[(1,ov (PTR gb1 0)),(4,ov (HDR go42 0 (List.length v40) gc43)),(5,ov (S (rI .i64) v41)),(54,ov (S (rI .i64) v44)),(55,ov (S (rI .i64) v45))],[cvar gb1 (zq1 go2) ((),((9 : Int),(qg31,(qh32,(qd33,()))))),cqm go2 (S rS) Zaa qm35 (some x30),cown go42 (rU UInt8) v40 0 gc43],[]⟩ (.cons rfl (.cons rfl (.cons rfl (.cons rfl (.cons rfl .nil))))) rfl rfl<|jc (Zac lb tR)<|jc (Zac lb tR)<|jn<|JC.seq<|bI hq2 fun x54 hx4 hq4=>JC.seqJ (γ:=Unit) (stj:=fun _=>⟨[(1,ov (PTR gb1 0)),(70,ov (S rB x54))],[cvar gb1 (zq1 go2) ((),((9 : Int),(qg31,(qh32,(qd33,()))))),cqm go2 (S rS) Zaa qm35 (some x30)],[]⟩) (fun _=>?_) ?_
     · refine jif tR hq4 (fun hc15 hq4=>?_) (fun hc15 hq4=>?_)
       · refine jr<|jc (Zac lb .cB)<|jn<|JC.ret<|JQ.outR ?_
         obtain rfl:=so hq4
         exact jd (.val (S rB false)) rfl rfl rfl rfl rfl rfl
       refine JC.skip<|JQ.then<|jr<|jmv rfl rfl<|bI hq4 fun x55 hv_x_55 hq4=>jx (Zak (js:=[0,0]) ld cl32 (Zcx k (1 : Int) (9 : Int) qg31 qh32 qd33 x30 gb1 go2 qm35 x55 hv_x_55) .func (.cons tR (.cons .cI .nil)) rfl) fun _=>jn<|jr<|jmv rfl rfl ?_
       obtain ⟨⟨v56,x57,x58,x59,x60⟩,hv56,hq4⟩:=Zas hq4
       refine jx (Zak (js:=[0,0]) ld cl29 (Zck k ([97] : List UInt8) ([98] : List UInt8) (9 : Int) x55 qh32 qd33 x30 gb1 go2 qm35 (v56,x57,x58,x59,x60) hv56) .func (.cons tR (.cons (HasO.cS (l:=[97]) rfl) (.cons (HasO.cS (l:=[98]) rfl) .nil))) rfl) fun qm61=>jmv rfl rfl<|jx (ZeB (r:=(rU UInt8)) lb tu31 tz5 tZ5 rfl (lE rfl) (.S rfl (HasO.cU (x:=(119 : UInt8)) rfl (by decide)) .nil) rfl) fun gb62=>JL.sub ⟨[(1,ov (PTR gb1 0)),(74,ov (S (rI .i64) v56)),(75,ov (PTR gb1 0)),(76,ov (HDR (some gb62) 0 (List.length ([(119 : UInt8)] : (List UInt8))) (1)))],[cvar gb1 (zq1 go2) ((),((9 : Int),(x58,(x59,(x60,()))))),cqm go2 (S rS) Zaa qm61 (some (x57)),cown (some gb62) (rU UInt8) ([(119 : UInt8)] : (List UInt8)) 0 (1)],[]⟩ (.cons rfl (.cons rfl (.cons rfl (.cons rfl .nil)))) rfl rfl<|jc (Zfu (j:=2) lb tu31 tu5 rfl tR (lE rfl)) ?_
       obtain ⟨⟨v63,x64,x65,x66,x67⟩,hv63,hq4⟩:=Zas hq4
       refine JL.pre (Imp.frz (j:=2) rfl (ImpK.slotH (s:=76) rfl (ImpK.slotH (s:=77) rfl ImpK.refl)))<|jx (Zak (js:=[0,0]) ld cl28 (Zbn k ([98] : List UInt8) ([(119 : UInt8)] : (List UInt8)) (9 : Int) x58 x59 x60 (x57) gb1 go2 qm61 (v63,x64,x65,x66,x67) hv63) .func (.cons tR (.cons (HasO.cS (l:=[98]) rfl) (.cons (HasO.wk tR wkHL) .nil))) rfl) fun qm68=>JL.nrm ⟨[(1,ov (PTR gb1 0)),(74,ov (S (rI .i64) v56)),(78,ov (S (rI .i64) v63))],[cvar gb1 (zq1 go2) ((),((9 : Int),(x65,(x66,(x67,()))))),cqm go2 (S rS) Zaa qm68 (some (x64))],[]⟩ [0,0] rfl (.cons rfl (.cons rfl (.cons rfl .nil))) rfl<|jc (Zac lb tR)<|jc (Zac lb tR)<|jn<|jr<|jmv rfl rfl ?_
       obtain ⟨⟨v69,v70⟩,hv69,hq4⟩:=Zas hq4
       refine jx (Zak (js:=[0,0]) ld cl12 (Zbt k ([98] : List UInt8) (9 : Int) x65 x66 x67 (x64) gb1 go2 qm68 (v69,v70) hv69) .func (.cons tR (.cons (HasO.cS (l:=[98]) rfl) .nil)) rfl) (fun q=>?_)
       obtain ⟨go71,gc72⟩:=q
       refine jmv rfl rfl<|jc (Zao (i:=0) lb tR rfl)<|jc (Zao (i:=1) lb tR rfl)<|jc (Zac lb tR)<|jc (Zac lb tR)<|jn<|jr<|jmv rfl rfl<|JL.sub ⟨[(1,ov (PTR gb1 0)),(8,ov (S (rI .i64) v56)),(9,ov (S (rI .i64) v63)),(10,ov (HDR go71 0 (List.length v69) gc72)),(11,ov (S (rI .i64) v70)),(85,ov (PTR gb1 0))],[cown go71 (rU UInt8) v69 0 gc72,cvar gb1 (zq1 go2) ((),((9 : Int),(x65,(x66,(x67,()))))),cqm go2 (S rS) Zaa qm68 (some (x64))],[]⟩ (.cons rfl (.cons rfl (.cons rfl (.cons rfl (.cons rfl (.cons rfl .nil)))))) rfl rfl ?_
       obtain ⟨⟨v73,v74⟩,hv73,hq4⟩:=Zas hq4
       refine jx (Zak (js:=[1,1]) ld cl12 (Zbt k ([99] : List UInt8) (9 : Int) x65 x66 x67 (x64) gb1 go2 qm68 (v73,v74) hv73) .func (.cons tR (.cons (HasO.cS (l:=[99]) rfl) .nil)) rfl) (fun q=>?_)
       obtain ⟨go75,gc76⟩:=q
       refine jmv rfl rfl<|jc (Zao (i:=0) lb tR rfl)<|jc (Zao (i:=1) lb tR rfl)<|jc (Zac lb tR)<|jc (Zac lb tR)<|jn<|bI hq4 fun t115 hx16 hq16=>JC.seqJ (γ:=Unit) (stj:=fun _=>⟨[(0,ov (S rB t115))],[],[]⟩) (fun _=>?_) ?_
       · refine JC.ret ?_
         obtain rfl:=so hq16
         exact jd (.val (S rB t115)) rfl rfl rfl rfl rfl rfl
       refine JC.region<|jmv rfl rfl<|bI hx16 fun _ hv_u_77 hx16=>jx (Zak (js:=[]) ld cl10 (ZaW k v56 () hv_u_77) .func (.cons tR .nil) rfl) fun _=>lI hx16 fun v78 hv78 hx16=>jc (Zan lb tR .cI (cs hv78))<|jmv rfl rfl<|JL.nrm ⟨[(1,ov (PTR gb1 0)),(9,ov (S (rI .i64) v63)),(10,ov (HDR go71 0 (List.length v69) gc72)),(11,ov (S (rI .i64) v70)),(13,ov (S (rI .i64) v74)),(92,ov (S rB v78))],[cvar gb1 (zq1 go2) ((),((9 : Int),(x65,(x66,(x67,()))))),cqm go2 (S rS) Zaa qm68 (some (x64)),cown go71 (rU UInt8) v69 0 gc72],[]⟩ [1,1,1] rfl (.cons rfl (.cons rfl (.cons rfl (.cons rfl (.cons rfl (.cons rfl .nil)))))) rfl<|jT (ov (S (rI .i64) v63)) rfl rfl rfl rfl (fun hq17=>Zai lb tR)<|bI hx16 fun _ hv_u_79 hx16=>jT (ov (S (rI .i64) v63)) rfl rfl rfl rfl (fun hq18=>(Zak (js:=[]) ld cl10 (ZaW k v63 () (ifT hv_u_79 hq18)) .func (.cons (HasO.cnd tR hq18) .nil) rfl).post (fun _=>Imp.refl)) ?_
       refine lI hx16 fun v80 hv80 hx16=>jT (ov (S rB v80)) rfl rfl rfl rfl (fun hq19=>Zan lb (HasO.cnd tR hq19) .cI (cs hv80))<|lI hx16 fun v81 hv81 hx16=>jc (Za8 lb tR (fun hb20=>(HasO.cnd tR hb20)) (fun hb20=>.cB) hv81)<|jmv rfl rfl ?_
       rcases Zbc hx16 with ⟨hc22,hx16⟩ | ⟨hc22,hx16⟩
       · refine JL.run (.yes rfl (ltB rfl) rfl hc22) (Zai lb tR)<|JL.run (.yes rfl (ltB rfl) rfl hc22) (ZeI (j:=2) lb tu31 tu5 tu9 rfl tR)<|lI hx16 fun v82 hv82 hx16=>JL.run (.yes rfl (ltB rfl) rfl hc22) (ZcP lb tR (HasO.cS (l:=[120,121,122,117,118,119]) rfl) (cs hv82))<|jc (Zaw lb tR hc22 tR)<|jmv rfl rfl<|jT (ov (S (rI .i64) v70)) rfl rfl rfl rfl (fun hq23=>Zai lb tR)<|bI hx16 fun _ hv_u_83 hx16=>jT (ov (S (rI .i64) v70)) rfl rfl rfl rfl (fun hq24=>(Zak (js:=[]) ld cl10 (ZaW k v70 () (ifT hv_u_83 hq24)) .func (.cons (HasO.cnd tR hq24) .nil) rfl).post (fun _=>Imp.refl))<|JL.nrm ⟨[(1,ov (PTR gb1 0)),(13,ov (S (rI .i64) v74)),(102,ov (S rB v82)),(104,bif v82 then ov (S (rI .i64) v70) else .one .und)],[cvar gb1 (zq1 go2) ((),((9 : Int),(x65,(x66,(x67,()))))),cqm go2 (S rS) Zaa qm68 (some (x64))],[]⟩ [0,0] rfl (.cons rfl (.cons rfl (.cons rfl (.cons rfl .nil)))) rfl ?_
         refine lI hx16 fun v84 hv84 hx16=>jT (ov (S rB v84)) rfl rfl rfl rfl (fun hq25=>Zan lb (HasO.cnd tR hq25) .cI (cs hv84))<|lI hx16 fun v85 hv85 hx16=>jc (Za8 lb tR (fun hb26=>(HasO.cnd tR hb26)) (fun hb26=>.cB) hv85)<|jmv rfl rfl<|jT (ov (PTR gb1 0)) rfl rfl rfl rfl (fun hq27=>Zai lb tR) ?_
         rcases Zbc hx16 with ⟨hc29,hx16⟩ | ⟨hc29,hx16⟩
         · obtain ⟨⟨v86,x87,x88,x89,x90⟩,hv86,hx16⟩:=Zas hx16
           refine JL.runX (.yes rfl (ltB rfl) rfl hc29) (Zak (js:=[0,0]) ld cl33 (Zcz k ([98] : List UInt8) (0 : Int) (9 : Int) x65 x66 x67 (x64) gb1 go2 qm68 (v86,x87,x88,x89,x90) hv86) .func (.cons (HasO.cnd tR hc29) (.cons (HasO.cS (l:=[98]) rfl) (.cons .cI .nil))) rfl) fun _=>bI hx16 fun _ hv_u_91 hx16=>JL.runX (.yes rfl (ltB rfl) rfl hc29) (Zak (js:=[]) ld cl10 (ZaW k v86 () hv_u_91) .func (.cons tR .nil) rfl) fun _=>lI hx16 fun v92 hv92 hx16=>JL.run (.yes rfl (ltB rfl) rfl hc29) (Zan lb tR .cI (cs hv92))<|jc (Zaw lb tR hc29 tR)<|jmv rfl rfl<|jT (ov (PTR gb1 0)) rfl rfl rfl rfl (fun hq30=>Zai lb tR)<|JL.sub ⟨[(1,ov (PTR gb1 0)),(13,ov (S (rI .i64) v74)),(113,ov (S rB v92)),(114,bif v92 then ov (PTR gb1 0) else .one .und)],[cvar gb1 (zq1 go2) ((),((9 : Int),(x88,(x89,(x90,()))))),cqm go2 (S rS) Zaa qm68 (some (x87))],[]⟩ (.cons rfl (.cons rfl (.cons rfl (.cons rfl .nil)))) rfl rfl ?_
           rcases Zbc hx16 with ⟨hc32,hx16⟩ | ⟨hc32,hx16⟩
           · refine JL.runX (.yes rfl (ltB rfl) rfl hc32) (ZeB (r:=(rU UInt8)) lb tu31 tz5 tZ5 rfl (lE rfl) (.S rfl (HasO.cU (x:=(120 : UInt8)) rfl (by decide)) .nil) rfl) fun gb93=>JL.run (.yes rfl (ltB rfl) rfl hc32) (Zfu (j:=2) lb tu31 tu5 rfl tR (lE rfl)) ?_
             obtain ⟨⟨v94,x95,x96,x97,x98⟩,hv94,hx16⟩:=Zas hx16
             refine JL.pre (Imp.frz (j:=2) rfl (ImpK.slotH (s:=115) rfl (ImpK.slotH (s:=116) rfl ImpK.refl)))<|JL.runX (.yes rfl (ltB rfl) rfl hc32) (Zak (js:=[0,0]) ld cl28 (Zbn k ([66] : List UInt8) ([(120 : UInt8)] : (List UInt8)) (9 : Int) x88 x89 x90 (x87) gb1 go2 qm68 (v94,x95,x96,x97,x98) hv94) .func (.cons (HasO.cnd tR hc32) (.cons (HasO.cS (l:=[66]) rfl) (.cons (HasO.wk tR wkHL) .nil))) rfl) fun qm99=>JL.nrm ⟨[(1,ov (PTR gb1 0)),(13,ov (S (rI .i64) v74)),(113,ov (S rB v92)),(117,ov (S (rI .i64) v94))],[cvar gb1 (zq1 go2) ((),((9 : Int),(x96,(x97,(x98,()))))),cqm go2 (S rS) Zaa qm99 (some (x95))],[]⟩ [0,0] rfl (.cons rfl (.cons rfl (.cons rfl (.cons rfl .nil)))) rfl<|bI hx16 fun _ hv_u_100 hx16=>JL.runX (.yes rfl (ltB rfl) rfl hc32) (Zak (js:=[]) ld cl10 (ZaW k v94 () hv_u_100) .func (.cons tR .nil) rfl) fun _=>lI hx16 fun v101 hv101 hx16=>JL.run (.yes rfl (ltB rfl) rfl hc32) (Zan lb tR .cI (cs hv101))<|jc (Zaw lb tR hc32 tR)<|jmv rfl rfl<|jT (ov (PTR gb1 0)) rfl rfl rfl rfl (fun hq33=>Zai lb tR) ?_
             rcases Zbc hx16 with ⟨hc35,hx16⟩ | ⟨hc35,hx16⟩
             · refine bI hx16 fun v102 hv102 hx16=>JL.runX (.yes rfl (ltB rfl) rfl hc35) (ZiL lb tu31 tB5 zv5 .cI .cI hv102) (fun gb103=>?_)
               obtain ⟨⟨v104,x105,x106,x107,x108⟩,hv104,hx16⟩:=Zas hx16
               refine JL.pre (Imp.frz (j:=2) rfl (ImpK.slotH (s:=123) rfl ImpK.refl))<|JL.runX (.yes rfl (ltB rfl) rfl hc35) (Zak (js:=[0,0]) ld cl28 (Zbn k ([98] : List UInt8) v102 (9 : Int) x96 x97 x98 (x95) gb1 go2 qm99 (v104,x105,x106,x107,x108) hv104) .func (.cons (HasO.cnd tR hc35) (.cons (HasO.cS (l:=[98]) rfl) (.cons (HasO.wk tR wkHL) .nil))) rfl) fun qm109=>JL.nrm ⟨[(13,ov (S (rI .i64) v74)),(121,ov (S rB v101)),(124,ov (S (rI .i64) v104))],[],[]⟩ [] rfl (.cons rfl (.cons rfl (.cons rfl .nil))) rfl<|bI hx16 fun _ hv_u_110 hx16=>JL.runX (.yes rfl (ltB rfl) rfl hc35) (Zak (js:=[]) ld cl10 (ZaW k v104 () hv_u_110) .func (.cons tR .nil) rfl) fun _=>lI hx16 fun v111 hv111 hx16=>JL.run (.yes rfl (ltB rfl) rfl hc35) (Zan lb tR .cI (cs hv111))<|jc (Zaw lb tR hc35 tR)<|jmv rfl rfl<|jT (ov (S (rI .i64) v74)) rfl rfl rfl rfl (fun hq36=>Zai lb tR) ?_
               refine bI hx16 fun _ hv_u_112 hx16=>jT (ov (S (rI .i64) v74)) rfl rfl rfl rfl (fun hq37=>(Zak (js:=[]) ld cl10 (ZaW k v74 () (ifT hv_u_112 hq37)) .func (.cons (HasO.cnd tR hq37) .nil) rfl).post (fun _=>Imp.refl))<|lI hx16 fun v113 hv113 hx16=>jT (ov (S rB v113)) rfl rfl rfl rfl (fun hq38=>Zan lb (HasO.cnd tR hq38) .cI (cs hv113))<|lI hx16 fun v114 hv114 hx16=>jc (Za8 lb tR (fun hb39=>(HasO.cnd tR hb39)) (fun hb39=>.cB) hv114)<|jc (Zac lb tR)<|JL.nil ?_
               try obtain rfl:=so hx16
               exact jo rfl rfl rfl
             refine jk rfl hc35<|jk rfl hc35<|jk rfl hc35<|jk rfl hc35<|jc (Zar lb tR hc35 .cB)<|jmv rfl rfl<|jk rfl rfl<|jk rfl rfl<|jk rfl rfl<|jc (Zar lb tR rfl .cB)<|jc (Zac lb tR)<|JL.nil ?_
             try obtain rfl:=so hx16
             exact jo rfl rfl rfl
           refine jk rfl hc32<|jk rfl hc32<|jk rfl hc32<|jk rfl hc32<|jk rfl hc32<|jc (Zar lb tR hc32 .cB)<|jmv rfl rfl<|jk rfl rfl<|jk rfl rfl<|jk rfl rfl<|jk rfl rfl<|jk rfl rfl<|jc (Zar lb tR rfl .cB)<|jmv rfl rfl<|jk rfl rfl<|jk rfl rfl<|jk rfl rfl<|jc (Zar lb tR rfl .cB)<|jc (Zac lb tR)<|JL.nil ?_
           try obtain rfl:=so hx16
           exact jo rfl rfl rfl
         refine jk rfl hc29<|jk rfl hc29<|jk rfl hc29<|jc (Zar lb tR hc29 .cB)<|jmv rfl rfl<|jk rfl rfl<|jk rfl rfl<|jk rfl rfl<|jk rfl rfl<|jk rfl rfl<|jk rfl rfl<|jc (Zar lb tR rfl .cB)<|jmv rfl rfl<|jk rfl rfl<|jk rfl rfl<|jk rfl rfl<|jk rfl rfl<|jk rfl rfl<|jc (Zar lb tR rfl .cB)<|jmv rfl rfl<|jk rfl rfl<|jk rfl rfl<|jk rfl rfl<|jc (Zar lb tR rfl .cB)<|jc (Zac lb tR)<|JL.nrm ⟨[(0,ov (S rB false))],[],[]⟩ [] rfl (.cons rfl .nil) rfl<|JL.nil ?_
         try obtain rfl:=so hx16
         exact jo rfl rfl rfl
       refine jk rfl hc22<|jk rfl hc22<|jk rfl hc22<|jc (Zar lb tR hc22 .cB)<|jmv rfl rfl<|jk rfl rfl<|jk rfl rfl<|jk rfl rfl<|jc (Zar lb tR rfl .cB)<|jmv rfl rfl<|jk rfl rfl<|jk rfl rfl<|jk rfl rfl<|jk rfl rfl<|jc (Zar lb tR rfl .cB)<|jmv rfl rfl<|jk rfl rfl<|jk rfl rfl<|jk rfl rfl<|jk rfl rfl<|jk rfl rfl<|jk rfl rfl<|jc (Zar lb tR rfl .cB)<|JL.nrm ⟨[(1,ov (PTR gb1 0)),(13,ov (S (rI .i64) v74)),(120,ov (S rB false))],[cvar gb1 (zq1 go2) ((),((9 : Int),(x65,(x66,(x67,()))))),cqm go2 (S rS) Zaa qm68 (some (x64))],[]⟩ [0,0] rfl (.cons rfl (.cons rfl (.cons rfl .nil))) rfl<|jmv rfl rfl<|jk rfl rfl<|jk rfl rfl<|jk rfl rfl<|jk rfl rfl<|jk rfl rfl<|jc (Zar lb tR rfl .cB)<|jmv rfl rfl<|jk rfl rfl<|jk rfl rfl<|jk rfl rfl<|jc (Zar lb tR rfl .cB)<|jc (Zac lb tR)<|JL.nil ?_
       try obtain rfl:=so hx16
       exact jo rfl rfl rfl
     refine JC.region<|jmv rfl rfl<|jc (ZeI (j:=2) lb tu31 tu5 tu9 rfl tR)<|lI hx4 fun v46 hv46 hx4=>jc (ZcP lb tR (HasO.cS (l:=[120,121,122,117]) rfl) (cs hv46))<|jmv rfl rfl<|jF (ov (S (rI .i64) v44)) rfl rfl rfl rfl (fun hq5=>Zai lb tR)<|lI hx4 fun v47 hv47 hx4=>jF (ov (S rB v47)) rfl rfl rfl rfl (fun hq6=>Zan lb (HasO.cnd tR (notT (notF hq6))) .cI (cs hv47))<|lI hx4 fun v48 hv48 hx4=>jc (Za8 lb tR (fun hb7=>.cB) (fun hb7=>(HasO.cnd tR (notT hb7))) hv48)<|jmv rfl rfl<|jF (ov (S (rI .i64) v41)) rfl rfl rfl rfl (fun hq_8=>Zai lb tR) ?_
     refine bI hx4 fun _ hv_u_49 hx4=>jF (ov (S (rI .i64) v41)) rfl rfl rfl rfl (fun hq9=>(Zak (js:=[]) ld cl10 (ZaW k v41 () (ifT hv_u_49 hq9)) .func (.cons (HasO.cnd tR (notT (notF hq9))) .nil) rfl).post (fun _=>Imp.refl))<|JL.nrm ⟨[(1,ov (PTR gb1 0)),(7,ov (S (rI .i64) v45)),(63,ov (S rB v48)),(65,bif (!v48) then ov (S (rI .i64) v41) else .one .und)],[cvar gb1 (zq1 go2) ((),((9 : Int),(qg31,(qh32,(qd33,()))))),cqm go2 (S rS) Zaa qm35 (some x30)],[]⟩ [0,0] rfl (.cons rfl (.cons rfl (.cons rfl (.cons rfl .nil)))) rfl<|jF (ov (S (rI .i64) v45)) rfl rfl rfl rfl (fun hq_10=>Zai lb tR)<|bI hx4 fun _ hv_u_50 hx4=>jF (ov (S (rI .i64) v45)) rfl rfl rfl rfl (fun hq11=>(Zak (js:=[]) ld cl10 (ZaW k v45 () (ifT hv_u_50 hq11)) .func (.cons (HasO.cnd tR (notT (notF hq11))) .nil) rfl).post (fun _=>Imp.refl))<|lI hx4 fun v51 hv51 hx4=>jF (ov (S (rI .i64) v51)) rfl rfl rfl rfl (fun hq12=>Zbx lb (HasO.cnd tR (notT (notF hq12))) (HasO.cnd tR (notT (notF hq12))) (cs hv51)) ?_
     obtain ⟨v52,hv52,hx4⟩:=Za2 hx4
     refine jF (ov (S rB v52)) rfl rfl rfl rfl (fun hq13=>Zan lb (HasO.cnd tR (notT (notF hq13))) .cI (cs hv52))<|lI hx4 fun v53 hv53 hx4=>jc (Za8 lb tR (fun hb14=>.cB) (fun hb14=>(HasO.cnd tR (notT hb14))) hv53)<|JL.nil ?_
     try obtain rfl:=so hx4
     exact JQ.join () (Imp.norm (js:=[0,0]) rfl (.cons rfl (.cons rfl .nil)))
   refine JC.region<|jmv rfl rfl<|jc (Zd2 (neg:=false) lb tu25 tR (HasO.const (p:=PTO none) fun _=>rfl))<|jmv rfl rfl<|JL.sub ⟨[(1,ov (PTR gb1 0)),(2,ov (S (rI .i64) (0 : Int))),(20,ov (S rB false))],[cvar gb1 (zq1 go2) ((),((9 : Int),((-1 : Int),(false,((0 : Int),()))))),cqm go2 (S rS) Zaa (fun _ : (List UInt8)=>0) (some ([] : (List ((List UInt8) × Zaf))))],[]⟩ (.cons rfl (.cons rfl (.cons rfl .nil))) rfl rfl<|JL.run (.yes rfl (ltB rfl) rfl rfl) (Zai lb tR)<|bI hx2 fun _ hv_u_3 hx2=>JL.runX (.yes rfl (ltB rfl) rfl rfl) (Zak (js:=[]) ld cl10 (ZaW k (0 : Int) () hv_u_3) .func (.cons tR .nil) rfl) fun _=>JL.run (.yes rfl (ltB rfl) rfl rfl) (Zai lb tR)<|JL.runX (.yes rfl (ltB rfl) rfl rfl) (ZeB (r:=(rU UInt8)) lb tu31 tz5 tZ5 rfl (lE rfl) (.S rfl (HasO.cU (x:=(120 : UInt8)) rfl (by decide)) (.S rfl (HasO.cU (x:=(121 : UInt8)) rfl (by decide)) (.S rfl (HasO.cU (x:=(122 : UInt8)) rfl (by decide)) .nil))) rfl) fun gb4=>JL.run (.yes rfl (ltB rfl) rfl rfl) (Zfu (j:=2) lb tu31 tu5 rfl tR (lE rfl)) ?_
   obtain ⟨⟨v5,x6,x7,x8,x9⟩,hv5,hx2⟩:=Zas hx2
   refine JL.pre (Imp.frz (j:=2) rfl (ImpK.slotH (s:=24) rfl (ImpK.slotH (s:=25) rfl ImpK.refl)))<|JL.runX (.yes rfl (ltB rfl) rfl rfl) (Zak (js:=[0,0]) ld cl28 (Zbn k ([97] : List UInt8) ([(120 : UInt8),(121 : UInt8),(122 : UInt8)] : (List UInt8)) (9 : Int) (-1 : Int) false (0 : Int) ([] : (List ((List UInt8) × Zaf))) gb1 go2 (fun _ : (List UInt8)=>0) (v5,x6,x7,x8,x9) hv5) .func (.cons tR (.cons (HasO.cS (l:=[97]) rfl) (.cons (HasO.wk tR wkHL) .nil))) rfl) fun qm10=>JL.nrm ⟨[(1,ov (PTR gb1 0)),(20,ov (S rB false)),(22,ov (S (rI .i64) (0 : Int))),(26,ov (S (rI .i64) v5))],[cvar gb1 (zq1 go2) ((),((9 : Int),(x7,(x8,(x9,()))))),cqm go2 (S rS) Zaa qm10 (some (x6))],[]⟩ [0,0] rfl (.cons rfl (.cons rfl (.cons rfl (.cons rfl .nil)))) rfl<|bI hx2 fun _ hv_u_11 hx2=>JL.runX (.yes rfl (ltB rfl) rfl rfl) (Zak (js:=[]) ld cl10 (ZaW k v5 () hv_u_11) .func (.cons tR .nil) rfl) fun _=>lI hx2 fun v12 hv12 hx2=>JL.run (.yes rfl (ltB rfl) rfl rfl) (Zbx lb tR tR (cs hv12))<|JL.run (.yes rfl (ltB rfl) rfl rfl) (Zai lb tR) ?_
   obtain ⟨⟨v13,x14,x15,x16,x17⟩,hv13,hx2⟩:=Zas hx2
   refine JL.runX (.yes rfl (ltB rfl) rfl rfl) (Zak (js:=[0,0]) ld cl31 (Zcy k ([97] : List UInt8) (9 : Int) x7 x8 x9 (x6) gb1 go2 qm10 (v13,x14,x15,x16,x17) hv13) .func (.cons tR (.cons (HasO.cS (l:=[97]) rfl) .nil)) rfl) fun _=>bI hx2 fun _ hv_u_18 hx2=>JL.runX (.yes rfl (ltB rfl) rfl rfl) (Zak (js:=[]) ld cl10 (ZaW k v13 () hv_u_18) .func (.cons tR .nil) rfl) fun _=>lI hx2 fun v19 hv19 hx2=>JL.run (.yes rfl (ltB rfl) rfl rfl) (Zbx lb tR tR (cs hv19))<|JL.run (.yes rfl (ltB rfl) rfl rfl) (Zai lb tR)<|JL.runX (.yes rfl (ltB rfl) rfl rfl) (ZeB (r:=(rU UInt8)) lb tu31 tz5 tZ5 rfl (lE rfl) (.S rfl (HasO.cU (x:=(117 : UInt8)) rfl (by decide)) (.S rfl (HasO.cU (x:=(118 : UInt8)) rfl (by decide)) .nil)) rfl) fun gb20=>JL.sub ⟨[(1,ov (PTR gb1 0)),(20,ov (S rB false)),(32,ov (S (rI .i64) v19)),(33,ov (PTR gb1 0)),(34,ov (HDR (some gb20) 0 (List.length ([(117 : UInt8),(118 : UInt8)] : (List UInt8))) (2)))],[cvar gb1 (zq1 go2) ((),((9 : Int),(x15,(x16,(x17,()))))),cqm go2 (S rS) Zaa qm10 (some (x14)),zq3 gb20],[]⟩ (.cons rfl (.cons rfl (.cons rfl (.cons rfl (.cons rfl .nil))))) rfl rfl<|JL.run (.yes rfl (ltB rfl) rfl rfl) (Zfu (j:=2) lb tu31 tu5 rfl tR (lE rfl)) ?_
   obtain ⟨⟨v21,x22,x23,x24,x25⟩,hv21,hx2⟩:=Zas hx2
   refine JL.pre (Imp.frz (j:=2) rfl (ImpK.slotH (s:=34) rfl (ImpK.slotH (s:=35) rfl ImpK.refl)))<|JL.runX (.yes rfl (ltB rfl) rfl rfl) (Zak (js:=[0,0]) ld cl28 (Zbn k ([97] : List UInt8) ([(117 : UInt8),(118 : UInt8)] : (List UInt8)) (9 : Int) x15 x16 x17 (x14) gb1 go2 qm10 (v21,x22,x23,x24,x25) hv21) .func (.cons tR (.cons (HasO.cS (l:=[97]) rfl) (.cons (HasO.wk tR wkHL) .nil))) rfl) fun qm26=>JL.nrm ⟨[(1,ov (PTR gb1 0)),(20,ov (S rB false)),(32,ov (S (rI .i64) v19)),(36,ov (S (rI .i64) v21))],[cvar gb1 (zq1 go2) ((),((9 : Int),(x23,(x24,(x25,()))))),cqm go2 (S rS) Zaa qm26 (some (x22))],[]⟩ [0,0] rfl (.cons rfl (.cons rfl (.cons rfl (.cons rfl .nil)))) rfl<|bI hx2 fun _ hv_u_27 hx2=>JL.runX (.yes rfl (ltB rfl) rfl rfl) (Zak (js:=[]) ld cl10 (ZaW k v21 () hv_u_27) .func (.cons tR .nil) rfl) fun _=>lI hx2 fun v28 hv28 hx2=>JL.run (.yes rfl (ltB rfl) rfl rfl) (Zbx lb tR tR (cs hv28))<|lI hx2 fun v29 hv29 hx2=>JL.run (.yes rfl (ltB rfl) rfl rfl) (Zan lb tR .cI (cs hv29)) ?_
   refine jc (Zar lb tR rfl tR)<|JL.nil ?_
   have hz:=Option.some.inj hx2
   replace hz:=Prod.mk.inj hz
   obtain ⟨hz_a,hz⟩:=hz
   first | subst hz_a | clear hz_a
   replace hz:=Prod.mk.inj hz
   obtain ⟨hz_a,hz⟩:=hz
   first | subst hz_a | clear hz_a
   replace hz:=Prod.mk.inj hz
   obtain ⟨hz_a,hz⟩:=hz
   first | subst hz_a | clear hz_a
   replace hz:=Prod.mk.inj hz
   obtain ⟨hz_a,hz⟩:=hz
   first | subst hz_a | clear hz_a
   first | subst hz | clear hz
   exact JQ.join qm26 (Imp.norm (js:=[0,0]) rfl (.cons rfl (.cons rfl .nil)))
 obtain _:=ts1
 dsimp only at hm
 refine jx (Zak (js:=[]) ld cl9 (Zet k (9 : Int) () hs1) .func (.cons .cI .nil) rfl) fun _=>jmv rfl rfl<|jc (Zao (i:=0) lb tR rfl)<|jc (Zao (i:=1) lb tR rfl)<|jc (Zac lb tR)<|jc (Zac lb tR)<|jn<|JC.seq<|bI hm fun _ hx40 hq40=>JC.seqJ (γ:=Unit) (stj:=fun _=>⟨[(1,ov (PTO none)),(40,ov (S rB true))],[],[]⟩) (fun _=>?_) ?_
 · refine JC.condT tR rfl<|jr<|jc (Zac lb .cB)<|jn<|JC.ret<|JQ.outR ?_
   obtain rfl:=so hq40
   exact jd (.val (S rB false)) rfl rfl rfl rfl rfl rfl
 exact JC.region<|jmv rfl rfl<|jc (ZgP (neg:=false) (ob:=none) lb tu25 tR (HasO.const (p:=PTO none) fun _=>rfl) rfl)<|jmv rfl rfl<|JL.sub ⟨[(1,ov (PTO none)),(2,ov (S (rI .i64) (2 : Int))),(20,ov (S rB true))],[],[]⟩ (.cons rfl (.cons rfl (.cons rfl .nil))) rfl rfl<|jk rfl rfl<|jk rfl rfl<|jk rfl rfl<|jk rfl rfl<|jk rfl rfl<|jk rfl rfl<|jk rfl rfl<|jk rfl rfl<|jk rfl rfl<|jk rfl rfl<|jk rfl rfl<|jk rfl rfl<|jk rfl rfl<|jk rfl rfl<|jk rfl rfl<|jk rfl rfl<|jk rfl rfl<|jk rfl rfl<|jk rfl rfl<|jc (Zaw lb tR rfl .cB)<|JL.nil<|JQ.join () (Imp.norm (js:=[]) rfl (.cons rfl (.cons rfl .nil)))

theorem Zco (k : Nat) (s1 : (List UInt8)) (r : Bool) (hm : ref05_MayName k s1 = some r) : Sim Try.prog 23 [S rS s1] [] (γ:=Unit) (fun q=>[]) (fun q=>.one (.val (S rB r))):=by
 unfold ref05_MayName at hm
 refine Sim.of Try.func23 rfl rfl (lE rfl) (fun e0 w0=>?_)
 refine JC.at ⟨[(0,ov (S rS s1))],[],[]⟩<|jr<|jc (Zac lb .cB)<|jn<|JC.seq<|bI hm fun x5 hx1 hq1=>JC.seqJ (γ:=Unit) (stj:=fun _=>⟨[(0,ov (S rS s1)),(12,ov (S rB x5))],[],[]⟩) (fun _=>?_) ?_
 · refine jif tR hq1 (fun hc6 hq1=>?_) (fun hc6 hq1=>?_)
   · refine jr<|jc (Zac lb .cB)<|jn<|JC.ret<|JQ.outR ?_
     obtain rfl:=so hq1
     exact jd (.val (S rB false)) rfl rfl rfl rfl rfl rfl
   refine JC.skip<|JQ.then<|bI hq1 fun tv7 hx7 hq7=>JC.seqK (α:=Unit) (γ:=Unit) (stj:=fun v q=>⟨[],[],[]⟩) (p:=fun v=>tv7 = (.inl v)) (fun v q hv=>?_) ?_
   · subst hv
     skip
     obtain _:=q
     dsimp only at hq7
     refine JC.at ⟨[],[],[]⟩<|jr<|jc (Zac lb .cB)<|jn<|JC.ret ?_
     obtain rfl:=so hq7
     exact jd (.val (S rB true)) rfl rfl rfl rfl rfl rfl
   refine jr<|jc (Zac lb .cI)<|jn<|JC.block<|bI hx7 fun tv8 hL8 hq8=>JC.pre ?_ (JC.loop (γ:=Unit) (stf:=fun s q=>⟨[(0,ov (S rS s1)),(3,ov (S (rI .i64) s))],[],[]⟩) (q:=()) hL8 ?_)
   · exact (Imp.norm (js:=[]) rfl (.cons rfl (.cons rfl .nil)))
   intro i6 q x hx hr
   obtain _:=q
   change ref05_MayName.b1 k s1 i6 = some x at hx
   unfold ref05_MayName.b1 at hx
   refine JC.at ⟨[(0,ov (S rS s1)),(3,ov (S (rI .i64) i6))],[],[]⟩<|JC.seq<|jr<|jmv rfl rfl<|jmv rfl rfl<|jc (Ze3 lb tu9 tR)<|lI hx fun v7 hv7 hx=>jc (Zan lb tR tR (cs hv7))<|jn<|jif tR hx (fun hc9 hx=>?_) (fun hc9 hx=>?_)
   · refine JC.skip<|JQ.then<|JC.seq<|JC.block<|bI hx fun ok25 hx10 hq10=>JC.seqJ (γ:=Unit) (stj:=fun _=>⟨[(0,ov (S rS s1)),(3,ov (S (rI .i64) i6)),(4,ov (S rB ok25))],[],[]⟩) (fun _=>?_) ?_
     · refine jr<|jmv rfl rfl<|lI hq10 fun v26 hv26 hq10=>jc (Zce lb tR hv26)<|jn<|jif tR hq10 (fun hc38 hq10=>?_) (fun hc38 hq10=>?_)
       · refine jr<|jc (Zac lb .cB)<|jn<|JC.ret<|JQ.outRB<|JQ.outR ?_
         try obtain rfl:=so hq10
         try obtain rfl:=hr _ rfl
         dsimp only at hq8
         refine JQ.outR<|JQ.outRB ?_
         try obtain rfl:=so hq8
         dsimp only at hq7
         refine JQ.outR ?_
         obtain rfl:=so hq7
         exact jd (.val (S rB false)) rfl rfl rfl rfl rfl rfl
       refine JC.skip<|JQ.outNB<|JQ.then<|JC.region<|jmv rfl rfl<|lI hq10 fun v27 hv27 hq10=>jc (Zbx lb tR .cI (cs hv27))<|jc (Zac lb tR)<|JL.nil ?_
       try obtain rfl:=so hq10
       exact JQ.next () rfl (Imp.norm (js:=[]) rfl (.cons rfl (.cons rfl .nil)))
     refine JC.region<|jmv rfl rfl<|jmv rfl rfl<|bI hx10 fun v8 hv8 hx10=>jc (Zc2 lb tu9 tR tR hv8)<|lI hx10 fun v9 hv9 hx10=>jc (ZdF lb tR (HasO.cU (x:=(97 : UInt8)) rfl (by decide)) (cs hv9))<|jmv rfl rfl<|jT (ov (S rS s1)) rfl rfl rfl rfl (fun hq11=>Zai lb tR)<|jT (ov (S (rI .i64) i6)) rfl rfl rfl rfl (fun hq12=>Zai lb tR)<|bI hx10 fun v10 hv10 hx10=>jT (ov (S (rU UInt8) v10)) rfl rfl rfl rfl (fun hq13=>Zc2 lb tu9 (HasO.cnd tR hq13) (HasO.cnd tR hq13) (ifT hv10 hq13)) ?_
     refine JL.sub ⟨[(0,ov (S rS s1)),(3,ov (S (rI .i64) i6)),(23,ov (S rB v9)),(26,bif v9 then ov (S (rU UInt8) v10) else .one .und)],[],[]⟩ (.cons rfl (.cons rfl (.cons rfl (.cons rfl .nil)))) rfl rfl<|lI hx10 fun v11 hv11 hx10=>jT (ov (S rB v11)) rfl rfl rfl rfl (fun hq14=>ZdF lb (HasO.cnd tR hq14) (HasO.cU (x:=(122 : UInt8)) rfl (by decide)) (cs hv11))<|lI hx10 fun v12 hv12 hx10=>jc (Za8 lb tR (fun hb15=>(HasO.cnd tR hb15)) (fun hb15=>.cB) hv12)<|jmv rfl rfl<|jF (ov (S rS s1)) rfl rfl rfl rfl (fun hq_16=>Zai lb tR)<|jF (ov (S (rI .i64) i6)) rfl rfl rfl rfl (fun hq17=>Zai lb tR)<|bI hx10 fun v13 hv13 hx10=>jF (ov (S (rU UInt8) v13)) rfl rfl rfl rfl (fun hq18=>Zc2 lb tu9 (HasO.cnd tR (notT (notF hq18))) (HasO.cnd tR (notT (notF hq18))) (ifT hv13 hq18)) ?_
     refine lI hx10 fun v14 hv14 hx10=>jF (ov (S rB v14)) rfl rfl rfl rfl (fun hq19=>ZdF lb (HasO.cnd tR (notT (notF hq19))) (HasO.cU (x:=(48 : UInt8)) rfl (by decide)) (cs hv14))<|jF (ov (S rB v14)) rfl rfl rfl rfl (fun hq20=>Zai lb (HasO.cnd tR (notT (notF hq20))))<|JL.cnd (sv:=ov (S rS s1)) (ZaY.cT (q:=(!v12)) (ltB rfl) rfl rfl) rfl (ltB rfl) (fun hq21=>Zai lb tR)<|JL.cnd (sv:=ov (S (rI .i64) i6)) (ZaY.cT (q:=(!v12)) (ltB rfl) rfl rfl) rfl (ltB rfl) (fun hq22=>Zai lb tR)<|bI hx10 fun v15 hv15 hx10=>JL.cnd (sv:=ov (S (rU UInt8) v15)) (ZaY.cT (q:=(!v12)) (ltB rfl) rfl rfl) rfl (ltB rfl) (fun hq23=>Zc2 lb tu9 (HasO.cnd tR (andI (notT (notF (andL hq23))) (andR hq23))) (HasO.cnd tR (andI (notT (notF (andL hq23))) (andR hq23))) (ifT hv15 hq23))<|lI hx10 fun v16 hv16 hx10=>JL.cnd (sv:=ov (S rB v16)) (ZaY.cT (q:=(!v12)) (ltB rfl) rfl rfl) rfl (ltB rfl) (fun hq24=>ZdF lb (HasO.cnd tR (andI (notT (notF (andL hq24))) (andR hq24))) (HasO.cU (x:=(57 : UInt8)) rfl (by decide)) (cs hv16)) ?_
     refine JL.sub ⟨[(0,ov (S rS s1)),(3,ov (S (rI .i64) i6)),(29,ov (S rB v12)),(34,bif (!v12) then ov (S rB v14) else .one .und),(38,bif ((!v12) && v14) then ov (S rB v16) else .one .und)],[],[]⟩ (.cons rfl (.cons rfl (.cons rfl (.cons rfl (.cons rfl .nil))))) rfl rfl<|lI hx10 fun v17 hv17 hx10=>jF (ov (S rB v17)) rfl rfl rfl rfl (fun hq25=>Za8 lb (HasO.cnd tR (notT (notF hq25))) (fun hb26=>(HasO.cnd tR (andI (notT (notF hq25)) hb26))) (fun hb26=>.cB) hv17)<|lI hx10 fun v18 hv18 hx10=>jc (Za8 lb tR (fun hb27=>.cB) (fun hb27=>(HasO.cnd tR (notT hb27))) hv18)<|jmv rfl rfl<|jF (ov (S rS s1)) rfl rfl rfl rfl (fun hq28=>Zai lb tR)<|jF (ov (S (rI .i64) i6)) rfl rfl rfl rfl (fun hq29=>Zai lb tR)<|bI hx10 fun v19 hv19 hx10=>jF (ov (S (rU UInt8) v19)) rfl rfl rfl rfl (fun hq30=>Zc2 lb tu9 (HasO.cnd tR (notT (notF hq30))) (HasO.cnd tR (notT (notF hq30))) (ifT hv19 hq30)) ?_
     refine lI hx10 fun v20 hv20 hx10=>jF (ov (S rB v20)) rfl rfl rfl rfl (fun hq31=>ZdF lb (HasO.cnd tR (notT (notF hq31))) (HasO.cU (x:=(46 : UInt8)) rfl (by decide)) (cs hv20))<|lI hx10 fun v21 hv21 hx10=>jc (Za8 lb tR (fun hb32=>.cB) (fun hb32=>(HasO.cnd tR (notT hb32))) hv21)<|jmv rfl rfl<|jF (ov (S rS s1)) rfl rfl rfl rfl (fun hq33=>Zai lb tR)<|jF (ov (S (rI .i64) i6)) rfl rfl rfl rfl (fun hq34=>Zai lb tR)<|bI hx10 fun v22 hv22 hx10=>jF (ov (S (rU UInt8) v22)) rfl rfl rfl rfl (fun hq35=>Zc2 lb tu9 (HasO.cnd tR (notT (notF hq35))) (HasO.cnd tR (notT (notF hq35))) (ifT hv22 hq35))<|JL.sub ⟨[(0,ov (S rS s1)),(3,ov (S (rI .i64) i6)),(47,ov (S rB v21)),(50,bif (!v21) then ov (S (rU UInt8) v22) else .one .und)],[],[]⟩ (.cons rfl (.cons rfl (.cons rfl (.cons rfl .nil)))) rfl rfl ?_
     refine lI hx10 fun v23 hv23 hx10=>jF (ov (S rB v23)) rfl rfl rfl rfl (fun hq36=>ZdF lb (HasO.cnd tR (notT (notF hq36))) (HasO.cU (x:=(45 : UInt8)) rfl (by decide)) (cs hv23))<|lI hx10 fun v24 hv24 hx10=>jc (Za8 lb tR (fun hb37=>.cB) (fun hb37=>(HasO.cnd tR (notT hb37))) hv24)<|jc (Zac lb tR)<|JL.nil ?_
     try obtain rfl:=so hx10
     exact JQ.join () (Imp.norm (js:=[]) rfl (.cons rfl (.cons rfl (.cons rfl .nil))))
   refine JC.exit<|JQ.outX ?_
   try obtain rfl:=so hx
   try obtain rfl:=hr _ rfl
   dsimp only at hq8
   refine JQ.outX<|JQ.here ?_
   try obtain rfl:=so hq8
   exact JQ.joinK () () rfl (Imp.norm (js:=[]) rfl .nil)
 refine JC.region<|jmv rfl rfl<|jc (Ze3 lb tu9 tR)<|lI hx1 fun v2 hv2 hx1=>jc (Zan lb tR .cI (cs hv2))<|jmv rfl rfl<|jF (ov (S rS s1)) rfl rfl rfl rfl (fun hq_2=>Zai lb tR)<|jF (ov (S (rI .i64) (List.length s1 : Int))) rfl rfl rfl rfl (fun hq_3=>Ze3 lb tu9 (HasO.cnd tR (notT (notF hq_3))))<|lI hx1 fun v3 hv3 hx1=>jF (ov (S rB v3)) rfl rfl rfl rfl (fun hq_4=>Zan lb (HasO.cnd tR (notT (notF hq_4))) .cI (cs hv3))<|lI hx1 fun v4 hv4 hx1=>jc (Za8 lb tR (fun hb5=>.cB) (fun hb5=>(HasO.cnd tR (notT hb5))) hv4)<|JL.nil ?_
 try obtain rfl:=so hx1
 exact JQ.join () (Imp.norm (js:=[]) rfl (.cons rfl (.cons rfl .nil)))

theorem ZdQ (k : Nat) (qn1 : (List UInt8)) (qc2 : Int) (ql3 : Int) (qj4 : Bool) (qe5 : Int) (gb6 : Nat) (r : Unit) (hm : ref05_Disk_at_pv_snvvvv k qn1 qc2 ql3 qj4 qe5 = some r) : Sim Try.prog 62 [PTR gb6 0,S rS qn1] [cvar gb6 zq9 ((),(qc2,(ql3,(qj4,(qe5,())))))] (γ:=Unit) (fun q=>[cvar gb6 zq9 ((),(qc2,(ql3,(qj4,(qe5,())))))]) (fun q=>.tup [.val (S (rI .i64) (0 : Int)),.val (S rB false)]):=by
 unfold ref05_Disk_at_pv_snvvvv at hm
 refine Sim.of Try.func62 rfl rfl (lE rfl) (fun e0 w0=>?_)
 refine JC.at ⟨[(0,ov (PTR gb6 0)),(1,ov (S rS qn1))],[cvar gb6 zq9 ((),(qc2,(ql3,(qj4,(qe5,())))))],[]⟩<|jr<|jc (Zac lb .cI)<|jc (Zac lb .cB)<|jn<|jr<|jc (Zac lb .cI)<|jn<|bI hm fun _ hx1 hq1=>JC.seqJ (γ:=Unit) (stj:=fun _=>⟨[(0,ov (PTR gb6 0)),(1,ov (S rS qn1)),(6,ov (S (rI .i64) (0 : Int)))],[cvar gb6 zq9 ((),(qc2,(ql3,(qj4,(qe5,())))))],[]⟩) (fun _=>?_) ?_
 · refine bI hq1 fun _ hx4 hq4=>JC.seqJ (γ:=Unit) (stj:=fun _=>⟨[(4,ov (S (rI .i64) (0 : Int))),(5,ov (S rB false))],[cvar gb6 zq9 ((),(qc2,(ql3,(qj4,(qe5,())))))],[]⟩) (fun _=>?_) ?_
   · exact JC.ret<|JQ.done (js:=[0]) (ss:=[.val (S (rI .i64) (0 : Int)),.val (S rB false)]) () (.inl rfl) (.nil rfl) rfl (.cons (.tmp rfl) (.cons (.tmp rfl) .nil)) rfl rfl rfl
   refine JC.anyF (base:=[(0,ov (PTR gb6 0)),(6,ov (S (rI .i64) (0 : Int)))])
       (fs:=fun γ=>[⟨some 28,ov (S (rI .i64) (0 : Int))⟩,⟨some 29,ov (S (rI .i64) (0 : Int))⟩,⟨some 30,ov (PTR gb6 0)⟩,⟨some 31,ov (PTR gb6 0)⟩,⟨some 32,ov (PTR gb6 (0 + 0))⟩,⟨some 33,ov (HDR none 0 0 0)⟩,⟨some 34,ov (S (rI .i64) (0 : Int))⟩,⟨some 35,ov (S rB false)⟩,⟨some 36,ov (S rB false)⟩,⟨some 37,.one .und⟩,⟨some 38,.one .und⟩,⟨some 39,.one .und⟩,⟨some 40,.one .und⟩,⟨some 41,.one .und⟩,⟨some 42,.one .und⟩,⟨some 43,.one .und⟩,⟨some 44,.one .und⟩,⟨some 45,.one .und⟩,⟨some 46,.one .und⟩,⟨some 47,ov (S rB false)⟩,⟨some 4,ov (S (rI .i64) (0 : Int))⟩,⟨some 5,ov (S rB false)⟩])
       (rs:=fun γ=>[⟨cvar gb6 zq9 ((),(qc2,(ql3,(qj4,(qe5,()))))),none,none,[5]⟩])
       (afts:=nn 22) (js:=[0]) mixed (.cons rfl (.cons rfl .nil)) (fun _=>rfl)
       (by
      refine db 1 6<|db 2 6<|db 3 0<|dS 4 (fun γ ρ B hb hd=>Zae lb (tl hd 2 30) (fun e v h=>by subst h; rfl))<|dS 5 (fun γ ρ B hb hd=>Zad (off:=0) lb Za6 (tl hd 3 31)) ?_
      refine dR 6 (fun γ ρ B hb hd=>Zag.lk ⟨ρ,(cvar gb6 zq9 ((),(qc2,(ql3,(qj4,(qe5,()))))))::B,_⟩ (Zal (j:=0) lb tS46 (tl hd 4 32) rfl (Comp.trans (Comp.self zq9 ((),(qc2,(ql3,(qj4,(qe5,())))))) (Comp.at' (Comp.inF (Comp.self (rW (HDR none 0 0 0)) ()) (lE rfl)) (by rfl : _ = 0)) (lE rfl))))<|dS 7 (fun γ ρ B hb hd=>Zb2 lb tu46 (tl hd 5 33))<|dS 8 (fun γ ρ B hb hd=>Zan lb (tl hd 1 29) (tl hd 6 34) (cs (by decide : decide ((0 : Int) < (0 : Int)) = false)))<|dm 9 7 35<|kn 10 8 36 rfl rfl ?_
      refine kn 11 8 36 rfl rfl<|kn 12 8 36 rfl rfl<|kn 13 8 36 rfl rfl<|kn 14 8 36 rfl rfl<|kn 15 8 36 rfl rfl ?_
      refine kn 16 8 36 rfl rfl<|kn 17 8 36 rfl rfl<|kn 18 8 36 rfl rfl<|kn 19 8 36 rfl rfl<|dS 20 (fun γ ρ B hb hd=>Zar lb (tl hd 8 36) rfl .cB) ?_
      refine dS 21 (fun γ ρ B hb hd=>Zac lb (tl hd 0 28))<|dS 22 (fun γ ρ B hb hd=>Zac lb (tl hd 19 47)) ?_
      exact Zat.nil)
       (by decide +kernel) (fun _=>rfl) (fun _=>rfl) (fun _=>rfl) rfl
       (ρ':=fun γ=>[(4,ov (S (rI .i64) (0 : Int))),(5,ov (S rB false))])
       (X':=fun γ=>[cvar gb6 zq9 ((),(qc2,(ql3,(qj4,(qe5,())))))])
       (fun γ ρ hb hd=>(.cons (hdq hd 20 4 rfl) (.cons (hdq hd 21 5 rfl) .nil))) (fun _=>rfl) (fun γ=>?_)
   exact JQ.at ⟨[(4,ov (S (rI .i64) (0 : Int))),(5,ov (S rB false))],[cvar gb6 zq9 ((),(qc2,(ql3,(qj4,(qe5,())))))],[]⟩<|JQ.join () (Imp.norm (js:=[0]) rfl (.cons rfl (.cons rfl .nil)))
 refine JC.block<|JC.pre ?_ (JC.loop (γ:=Unit) (stf:=fun s q=>⟨[(0,ov (PTR gb6 0)),(1,ov (S rS qn1)),(6,ov (S (rI .i64) (0 : Int)))],[cvar gb6 zq9 ((),(qc2,(ql3,(qj4,(qe5,())))))],[]⟩) (q:=()) hx1 ?_)
 · exact (Imp.norm (js:=[0]) rfl (.cons rfl (.cons rfl (.cons rfl .nil))))
 intro s q x hx hr
 obtain _:=q
 change ref05_Disk_at_pv_snvvvv.b1 k = some x at hx
 unfold ref05_Disk_at_pv_snvvvv.b1 at hx
 refine JC.at ⟨[(0,ov (PTR gb6 0)),(1,ov (S rS qn1)),(6,ov (S (rI .i64) (0 : Int)))],[cvar gb6 zq9 ((),(qc2,(ql3,(qj4,(qe5,())))))],[]⟩<|JC.seq<|bI hx fun _ hx3 hq3=>JC.seqJ (γ:=Unit) (stj:=fun _=>⟨[(0,ov (PTR gb6 0)),(1,ov (S rS qn1)),(6,ov (S (rI .i64) (0 : Int))),(25,ov (S rB false))],[cvar gb6 zq9 ((),(qc2,(ql3,(qj4,(qe5,())))))],[]⟩) (fun _=>?_) ?_
 · refine JC.condF tR rfl<|JC.exit<|JQ.outX ?_
   try obtain rfl:=so hq3
   have ht:=hr _ rfl
   have hq2:=cs ht
   clear hr ht
   exact JQ.outX<|JQ.here<|JQ.join () (Imp.norm (js:=[0]) rfl (.cons rfl (.cons rfl (.cons rfl .nil))))
 exact JC.region<|jmv rfl rfl<|jmv rfl rfl<|jc (Zae lb tR (fun e v h=>by subst h; rfl))<|jc (Zad (off:=0) lb Za6 tR)<|jc (Zal (j:=0) lb tS46 tR rfl (Comp.trans (Comp.self zq9 ((),(qc2,(ql3,(qj4,(qe5,())))))) (Comp.at' (Comp.inF (Comp.self (rW (HDR none 0 0 0)) ()) (lE rfl)) (by rfl : _ = 0)) (lE rfl)))<|jc (Zb2 lb tu46 tR)<|jc (Zan lb tR tR (cs (by decide : decide ((0 : Int) < (0 : Int)) = false)))<|jmv rfl rfl<|jk rfl rfl<|jk rfl rfl<|jk rfl rfl<|jk rfl rfl<|jk rfl rfl<|jk rfl rfl<|jk rfl rfl<|jk rfl rfl<|jk rfl rfl<|jk rfl rfl<|jc (Zar lb tR rfl .cB)<|JL.nil<|JQ.join () (Imp.norm (js:=[0]) rfl (.cons rfl (.cons rfl (.cons rfl (.cons rfl .nil)))))

theorem ZdD (k : Nat) (qn1 : (List UInt8)) (qc2 : Int) (ql3 : Int) (qj4 : Bool) (qe5 : Int) (gb6 : Nat) (r : Int) (hm : ZbI k qn1 qc2 ql3 qj4 qe5 = some r) : Sim Try.prog 41 [PTR gb6 0,S rS qn1] [cvar gb6 zq9 ((),(qc2,(ql3,(qj4,(qe5,())))))] (γ:=Unit) (fun q=>[cvar gb6 zq9 ((),(qc2,(ql3,(qj4,(qe5,())))))]) (fun q=>.tup [.val (S (rI .i64) (0 : Int)),.val (S (rI .i64) r)]):=by
 unfold ZbI at hm
 refine Sim.of Try.func41 rfl rfl (lE rfl) (fun e0 w0=>?_)
 refine JC.at ⟨[(0,ov (PTR gb6 0)),(1,ov (S rS qn1))],[cvar gb6 zq9 ((),(qc2,(ql3,(qj4,(qe5,())))))],[]⟩<|jr<|jc (Zac lb .cI)<|jc (Zac lb .cI)<|jn<|JC.seq<|jr<|jmv rfl rfl<|bI hm fun v7 hv7 hm=>jx (Zak (js:=[]) ld cl23 (Zco k qn1 v7 hv7) .func (.cons tR .nil) rfl) fun _=>lI hm fun v8 hv8 hm=>jc (Zce lb tR hv8)<|jn<|jif tR hm (fun hc1 hm=>?_) (fun hc1 hm=>?_)
 · refine jr<|jc (Zac lb .cI)<|jc (Zac lb .cI)<|jn<|JC.ret<|JQ.outR ?_
   obtain rfl:=so hm
   exact JQ.done (js:=[0]) (ss:=[.val (S (rI .i64) (0 : Int)),.val (S (rI .i64) (2 : Int))]) () (.inl rfl) (.nil rfl) rfl (.cons (.tmp rfl) (.cons (.tmp rfl) .nil)) rfl rfl rfl
 refine JC.skip<|JQ.then<|jr<|jmv rfl rfl<|jmv rfl rfl<|bI hm fun _ hv_u_9 hm=>jx (Zak (js:=[0]) ld cl62 (ZdQ k qn1 qc2 ql3 qj4 qe5 gb6 () hv_u_9) .func (.cons tR (.cons tR .nil)) rfl) fun _=>jmv rfl rfl<|jc (Zao (i:=0) lb tR rfl)<|JL.sub ⟨[(11,.tup [.val (S (rI .i64) (0 : Int)),.val (S rB false)]),(15,ov (S (rI .i64) (0 : Int)))],[cvar gb6 zq9 ((),(qc2,(ql3,(qj4,(qe5,())))))],[]⟩ (.cons rfl (.cons rfl .nil)) rfl rfl<|jc (Zao (i:=1) lb tR rfl)<|jc (Zac lb tR)<|jc (Zac lb tR)<|jn<|JC.seq<|jr<|jmv rfl rfl<|jc (Zce lb tR rfl)<|jn<|JC.condT tR rfl ?_
 refine jr<|jc (Zac lb .cI)<|jc (Zac lb .cI)<|jn<|JC.ret<|JQ.outR ?_
 obtain rfl:=so hm
 exact JQ.done (js:=[0]) (ss:=[.val (S (rI .i64) (0 : Int)),.val (S (rI .i64) (6 : Int))]) () (.inl rfl) (.nil rfl) rfl (.cons (.tmp rfl) (.cons (.tmp rfl) .nil)) rfl rfl rfl

theorem Zby (k : Nat) (qc1 : Int) (ql2 : Int) (qj3 : Bool) (qe4 : Int) (gb5 : Nat) (r : Unit) (hm : ref05_Disk_Room_p_snvvvv k qc1 ql2 qj3 qe4 = some r) : Sim Try.prog 42 [PTR gb5 0] [cvar gb5 zq9 ((),(qc1,(ql2,(qj3,(qe4,())))))] (γ:=Unit) (fun q=>[cvar gb5 zq9 ((),(qc1,(ql2,(qj3,(qe4,())))))]) (fun q=>.one (.val (S (rI .i64) qc1))):=by
 unfold ref05_Disk_Room_p_snvvvv at hm
 refine Sim.of Try.func42 rfl rfl (lE rfl) (fun e0 w0=>?_)
 refine JC.at ⟨[(0,ov (PTR gb5 0))],[cvar gb5 zq9 ((),(qc1,(ql2,(qj3,(qe4,())))))],[]⟩<|jr<|jc (Zac lb .cI)<|jn<|jr<|jmv rfl rfl<|jc (Zae lb tR (fun e v h=>by subst h; rfl))<|jc (Zad (off:=1) lb Zf0 tR)<|jc (Zam (j:=0) lb tS3 tR rfl (Comp.trans (Comp.self zq9 ((),(qc1,(ql2,(qj3,(qe4,())))))) (Comp.at' (Comp.inS (Comp.inF (Comp.self (rI .i64) qc1) (lE rfl))) (by rfl : _ = 1)) (lE rfl)) rfl rfl)<|jc (Zac lb tR)<|jn<|bI hm fun _ hx1 hq1=>JC.seqJ (γ:=Unit) (stj:=fun _=>⟨[(3,ov (S (rI .i64) qc1))],[cvar gb5 zq9 ((),(qc1,(ql2,(qj3,(qe4,())))))],[]⟩) (fun _=>?_) ?_
 · exact jr<|jmv rfl rfl<|jc (Zac lb tR)<|jn<|JC.ret<|JQ.done (js:=[0]) (ss:=[.val (S (rI .i64) qc1)]) () (.inl rfl) (.nil rfl) rfl (.cons (.tmp rfl) .nil) rfl rfl rfl
 refine jr<|jc (Zac lb .cI)<|jn<|JC.block<|JC.pre ?_ (JC.loop (γ:=Unit) (stf:=fun s q=>⟨[(0,ov (PTR gb5 0)),(3,ov (S (rI .i64) qc1)),(4,ov (S (rI .i64) (0 : Int)))],[cvar gb5 zq9 ((),(qc1,(ql2,(qj3,(qe4,())))))],[]⟩) (q:=()) hx1 ?_)
 · exact (Imp.norm (js:=[0]) rfl (.cons rfl (.cons rfl (.cons rfl .nil))))
 intro s q x hx hr
 obtain _:=q
 change ref05_Disk_Room_p_snvvvv.b1 k = some x at hx
 unfold ref05_Disk_Room_p_snvvvv.b1 at hx
 refine JC.at ⟨[(0,ov (PTR gb5 0)),(3,ov (S (rI .i64) qc1)),(4,ov (S (rI .i64) (0 : Int)))],[cvar gb5 zq9 ((),(qc1,(ql2,(qj3,(qe4,())))))],[]⟩<|JC.seq<|jr<|jmv rfl rfl<|jmv rfl rfl<|jc (Zae lb tR (fun e v h=>by subst h; rfl))<|jc (Zad (off:=0) lb Za6 tR)<|jc (Zal (j:=0) lb tS46 tR rfl (Comp.trans (Comp.self zq9 ((),(qc1,(ql2,(qj3,(qe4,())))))) (Comp.at' (Comp.inF (Comp.self (rW (HDR none 0 0 0)) ()) (lE rfl)) (by rfl : _ = 0)) (lE rfl)))<|jc (Zb2 lb tu46 tR)<|jc (Zan lb tR tR (cs (by decide : decide ((0 : Int) < (0 : Int)) = false)))<|jn<|JC.condF tR rfl<|JC.exit<|JQ.outX ?_
 try obtain rfl:=so hx
 have ht:=hr _ rfl
 have hq2:=cs ht
 clear hr ht
 exact JQ.outX<|JQ.here<|JQ.join () (Imp.norm (js:=[0]) rfl (.cons rfl .nil))

theorem Za4 (k : Nat) (qb1 : Int) (fuse2 : Int) (qh3 : Bool) (qd4 : Int) (x6 : (List ((List UInt8) × Zaf))) (gb5 : Nat) (go7 : Option Nat) (qm8 : ((List UInt8) → Nat)) (r : Unit) (hm : ZbA k qb1 fuse2 qh3 qd4 x6 = some r) : Sim Try.prog 25 [PTR gb5 0] [cvar gb5 (zq1 go7) ((),(qb1,(fuse2,(qh3,(qd4,()))))),cqm go7 (S rS) Zaa qm8 (some x6)] (γ:=Unit) (fun q=>[cvar gb5 (zq1 go7) ((),(qb1,(fuse2,(qh3,(qd4,()))))),cqm go7 (S rS) Zaa qm8 (some x6)]) (fun q=>.one (.val (S rB qh3))):=by
 unfold ZbA at hm
 refine Sim.of Try.func25 rfl rfl (lE rfl) (fun e0 w0=>?_)
 refine JC.at ⟨[(0,ov (PTR gb5 0))],[cvar gb5 (zq1 go7) ((),(qb1,(fuse2,(qh3,(qd4,()))))),cqm go7 (S rS) Zaa qm8 (some x6)],[]⟩<|jr<|jc (Zac lb .cB)<|jn<|bI hm fun _ hx1 hq1=>JC.seqJ (γ:=Unit) (stj:=fun _=>⟨[(2,ov (S rB qh3))],[cvar gb5 (zq1 go7) ((),(qb1,(fuse2,(qh3,(qd4,()))))),cqm go7 (S rS) Zaa qm8 (some x6)],[]⟩) (fun _=>?_) ?_
 · exact JC.ret<|JQ.done (js:=[0,0]) (ss:=[.val (S rB qh3)]) () (.inl rfl) (.nil rfl) rfl (.cons (.tmp rfl) .nil) rfl rfl rfl
 refine JC.region<|jmv rfl rfl<|bI hx1 fun _ hv_u_9 hx1=>jx (Zak (js:=[0,0]) ld cl34 (ZaA k qb1 fuse2 qh3 qd4 x6 gb5 go7 qm8 () hv_u_9) .func (.cons tR .nil) rfl) fun _=>jmv rfl rfl<|JL.run (.yes rfl (ltB rfl) rfl rfl) (Zai lb tR)<|JL.run (.yes rfl (ltB rfl) rfl rfl) (Zae lb tR (fun e v h=>by subst h; rfl))<|JL.run (.yes rfl (ltB rfl) rfl rfl) (Zad (off:=3) lb Zd0 tR)<|JL.run (.yes rfl (ltB rfl) rfl rfl) (Zam (j:=0) lb tS4 tR rfl (Comp.trans (Comp.self (zq1 go7) ((),(qb1,(fuse2,(qh3,(qd4,())))))) (Comp.at' (Comp.inS (Comp.inS (Comp.inS (Comp.inF (Comp.self rB qh3) (lE rfl))))) (by rfl : _ = 3)) (lE rfl)) rfl rfl)<|jc (Zaw lb tR rfl tR)<|jc (Zac lb tR) ?_
 exact JL.sub ⟨[(2,ov (S rB qh3))],[cvar gb5 (zq1 go7) ((),(qb1,(fuse2,(qh3,(qd4,()))))),cqm go7 (S rS) Zaa qm8 (some x6)],[]⟩ (.cons rfl .nil) rfl rfl<|JL.nil<|JQ.join () (Imp.norm (js:=[0,0]) rfl (.cons rfl .nil))

theorem Zbh (k : Nat) (qb1 : Int) (fuse2 : Int) (qh3 : Bool) (qd4 : Int) (x6 : (List ((List UInt8) × Zaf))) (gb5 : Nat) (go7 : Option Nat) (qm8 : ((List UInt8) → Nat)) (r : Unit) (hm : Zbp k qb1 fuse2 qh3 qd4 x6 = some r) : Sim Try.prog 26 [PTR gb5 0] [cvar gb5 (zq1 go7) ((),(qb1,(fuse2,(qh3,(qd4,()))))),cqm go7 (S rS) Zaa qm8 (some x6)] (γ:=Unit) (fun q=>[cvar gb5 (zq1 go7) ((),(qb1,(fuse2,(qh3,(qd4,()))))),cqm go7 (S rS) Zaa qm8 (some x6)]) (fun q=>.one (.val (S (rI .i64) qd4))):=by
 unfold Zbp at hm
 refine Sim.of Try.func26 rfl rfl (lE rfl) (fun e0 w0=>?_)
 refine JC.at ⟨[(0,ov (PTR gb5 0))],[cvar gb5 (zq1 go7) ((),(qb1,(fuse2,(qh3,(qd4,()))))),cqm go7 (S rS) Zaa qm8 (some x6)],[]⟩<|jr<|jc (Zac lb .cI)<|jn<|JC.seq<|jr<|jmv rfl rfl<|bI hm fun _ hv_u_9 hm=>jx (Zak (js:=[0,0]) ld cl34 (ZaA k qb1 fuse2 qh3 qd4 x6 gb5 go7 qm8 () hv_u_9) .func (.cons tR .nil) rfl) fun _=>jc (Zce lb tR rfl)<|jn<|JC.condF tR rfl<|JC.skip<|JQ.then<|jr<|jmv rfl rfl<|jc (Zae lb tR (fun e v h=>by subst h; rfl))<|jc (Zad (off:=4) lb ZdZ tR) ?_
 exact jc (Zam (j:=0) lb tS3 tR rfl (Comp.trans (Comp.self (zq1 go7) ((),(qb1,(fuse2,(qh3,(qd4,())))))) (Comp.at' (Comp.inS (Comp.inS (Comp.inS (Comp.inS (Comp.inF (Comp.self (rI .i64) qd4) (lE rfl)))))) (by rfl : _ = 4)) (lE rfl)) rfl rfl)<|jc (Zac lb tR)<|jn<|JC.ret<|JQ.done (js:=[0,0]) (ss:=[.val (S (rI .i64) qd4)]) () (.inl rfl) (.nil rfl) rfl (.cons (.tmp rfl) .nil) rfl rfl rfl

end Go.Proofs.Ytipchpbcjkhnaaa
