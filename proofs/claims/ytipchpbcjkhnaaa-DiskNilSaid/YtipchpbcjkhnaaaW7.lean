/- Walks. -/
import Derived.Test.YtipchpbcjkhnaaaT
import Derived.Test.YtipchpbcjkhnaaaW0
import Derived.Test.YtipchpbcjkhnaaaW1
import Derived.Test.YtipchpbcjkhnaaaW2
import Derived.Test.YtipchpbcjkhnaaaW3
import Derived.Test.YtipchpbcjkhnaaaW4
import Derived.Test.YtipchpbcjkhnaaaW6
namespace Go.Proofs.Ytipchpbcjkhnaaa
open Go Fw
set_option linter.unusedVariables false
set_option maxRecDepth 100000
set_option maxHeartbeats 4000000

theorem sim_law05_DiskNil (k : Nat) (r : Bool) (hm : law05_DiskNil k = some r) : Sim Try.prog 6 [] [] (γ := Unit) (fun q => []) (fun q => .one (.val (S rB r))) := by
 unfold law05_DiskNil at hm
 refine Sim.of Try.func6 rfl rfl (lE rfl) (fun e0 w0 => ?_)
 refine JC.at ⟨[], [], []⟩ <| jr <| jc (op_assign lb .cB) <| jn <| jr ?_
 obtain ⟨ts1, hs1, hm⟩ := bnd_inv hm
 rcases ts1 with ts1 | ts1
 · obtain _ := ts1
   dsimp only at hm
   refine jx (op_call (js := []) ld cl9 (sim_disk_New_v0 k (16777216 : Int) () hs1) .func (.cons .cI .nil) rfl) (fun q => ?_)
   obtain ⟨gb_1, go_2⟩ := q
   refine jmv rfl rfl <| jc (op_extract (i := 0) lb tR rfl) <| jc (op_extract (i := 1) lb tR rfl) <| jc (op_assign lb tR) <| jc (op_assign lb tR) <| jn <| JC.seq <| bI hm fun _ hx2 hq2 => JC.seqJ (γ := Unit) (stj := fun _ => ⟨[(1, ov (PTR gb_1 0)), (16, ov (S rB false))], [zq2 gb_1 go_2, cqm go_2 (S rS) r_disk_file (fun _ : (List UInt8) => 0) (some ([] : (List ((List UInt8) × disk_file))))], []⟩) (fun _ => ?_) ?_
   · refine JC.condF tR rfl <| JC.skip <| JQ.then <| bI hq2 fun tv3 hx3 hq3 => JC.seqK (α := (List ((List UInt8) × disk_file)) × Int × Bool × Int) (γ := ((List UInt8) → Nat)) (stj := fun v q => ⟨[(1, ov (PTR gb_1 0))], [cvar gb_1 (zq1 go_2) ((), ((16777216 : Int), (v.2.1, (v.2.2.1, (v.2.2.2, ()))))), cqm go_2 (S rS) r_disk_file q (some v.1)], []⟩) (p := fun v => tv3 = (.inl v)) (fun v q hv => ?_) ?_
     · subst hv
       obtain ⟨x_32, fuse_33, dead_34, writes_35⟩ := v
       obtain ⟨gbe_36, hqq⟩ : ∃ z, z = q := ⟨_, rfl⟩
       subst hqq
       dsimp only at hq3
       refine JC.at ⟨[(1, ov (PTR gb_1 0))], [zq4 gb_1 go_2 fuse_33 dead_34 writes_35, cqm go_2 (S rS) r_disk_file gbe_36 (some x_32)], []⟩ ?_
       obtain ⟨⟨x_73, fuse_74, dead_75, writes_76, x_77⟩, hx7, hq7⟩ := bnd_inv hq3
       refine JC.seqJ (γ := ((List UInt8) → Nat)) (stj := fun q => ⟨[(1, ov (PTR gb_1 0)), (4, ov (S rB x_77))], [zq4 gb_1 go_2 fuse_74 dead_75 writes_76, cqm go_2 (S rS) r_disk_file q (some x_73)], []⟩) (fun q => ?_) ?_
       · obtain ⟨gbe_78, hqq⟩ : ∃ z, z = q := ⟨_, rfl⟩
         subst hqq
         refine JC.at ⟨[(1, ov (PTR gb_1 0)), (4, ov (S rB x_77))], [zq4 gb_1 go_2 fuse_74 dead_75 writes_76, cqm go_2 (S rS) r_disk_file gbe_78 (some x_73)], []⟩ <| jr <| jc (op_build lb tZ64 zr64 tp64 .nil rfl) <| jx (op_boxA lb tR) fun gb_79 => jc (op_assign lb tR) <| jn <| bI hq7 fun t_85 hx21 hq21 => JC.seqJ (γ := Unit) (stj := fun _ => ⟨[(0, ov (S rB t_85))], [], []⟩) (fun _ => ?_) ?_
         · refine JC.ret ?_
           obtain rfl := so hq21
           exact jd (.val (S rB t_85)) rfl rfl rfl rfl rfl rfl
         refine JC.region <| jmv rfl rfl <| jmv rfl rfl <| jT (ov (PTR gb_1 0)) rfl rfl rfl rfl (fun hq_22 => op_move lb tR) ?_
         rcases iteB_inv hx21 with ⟨hc24, hx21⟩ | ⟨hc24, hx21⟩
         · refine bI hx21 fun v_80 hv_80 hx21 => JL.runX (.yes rfl (ltB rfl) rfl hc24) (op_call (js := [0, 0]) ld cl30 (sim_law05_nothing_np_smvvvvm k (16777216 : Int) fuse_74 dead_75 writes_76 x_73 gb_1 go_2 gbe_78 v_80 hv_80) .func (.cons (HasO.const (p := PTO none) fun _ => rfl) (.cons (HasO.cnd tR hc24) .nil)) rfl) fun _ => jc (op_pickT lb tR hc24 tR) <| jmv rfl rfl <| jT (ov (PTR gb_79 0)) rfl rfl rfl rfl (fun hq_25 => op_move lb tR) <| JL.sub ⟨[(1, ov (PTR gb_1 0)), (5, ov (PTR gb_79 0)), (72, ov (S rB v_80)), (73, bif v_80 then ov (PTR gb_79 0) else .one .und)], [zq4 gb_1 go_2 fuse_74 dead_75 writes_76, cqm go_2 (S rS) r_disk_file gbe_78 (some x_73), cvar gb_79 zq0 ((), ((0 : Int), ((0 : Int), (false, ((0 : Int), ())))))], []⟩ (.cons rfl (.cons rfl (.cons rfl (.cons rfl .nil)))) rfl rfl <| jT (ov (PTR gb_1 0)) rfl rfl rfl rfl (fun hq_26 => op_move lb tR) ?_
           rcases iteB_inv hx21 with ⟨hc28, hx21⟩ | ⟨hc28, hx21⟩
           · refine bI hx21 fun v_81 hv_81 hx21 => JL.runX (.yes rfl (ltB rfl) rfl hc28) (op_call (js := [2, 0, 0]) ld cl30 (sim_law05_nothing_pp_snvvvvsmvvvvm k (0 : Int) (0 : Int) false (0 : Int) (16777216 : Int) fuse_74 dead_75 writes_76 x_73 gb_79 gb_1 go_2 gbe_78 v_81 hv_81) .func (.cons (HasO.cnd tR hc28) (.cons (HasO.cnd tR hc28) .nil)) rfl) fun _ => jc (op_pickT lb tR hc28 tR) <| jmv rfl rfl <| jT (ov (PTR gb_79 0)) rfl rfl rfl rfl (fun hq_29 => op_move lb tR) ?_
             rcases iteB_inv hx21 with ⟨hc31, hx21⟩ | ⟨hc31, hx21⟩
             · refine bI hx21 fun v_82 hv_82 hx21 => JL.runX (.yes rfl (ltB rfl) rfl hc31) (op_call (js := [0]) ld cl21 (sim_disk_Disk_Same_pn_snvvvv k (0 : Int) (0 : Int) false (0 : Int) gb_79 v_82 hv_82) .func (.cons (HasO.cnd tR hc31) (.cons (HasO.const (p := PTO none) fun _ => rfl) .nil)) rfl) fun _ => jc (op_pickT lb tR hc31 tR) <| jmv rfl rfl <| bI hx21 fun v_83 hv_83 hx21 => jT (ov (S rB v_83)) rfl rfl rfl rfl (fun hq_32 => (op_call (js := []) ld cl8 (sim_law05_known k v_83 (ifT hv_83 hq_32)) .func .nil rfl).post (fun _ => Imp.refl)) <| lI hx21 fun v_84 hv_84 hx21 => jc (op_pickCS lb tR (fun hb33 => (HasO.cnd tR hb33)) (fun hb33 => .cB) hv_84) <| JL.nrm ⟨[(83, ov (S rB v_84))], [], []⟩ [] rfl (.cons rfl .nil) rfl <| jc (op_assign lb tR) <| JL.nil ?_
               try obtain rfl := so hx21
               exact jo rfl rfl rfl
             refine jk rfl hc31 <| jc (op_pickF lb tR hc31 .cB) <| jmv rfl rfl <| jk rfl rfl <| jc (op_pickF lb tR rfl .cB) <| jc (op_assign lb tR) <| JL.nil ?_
             try obtain rfl := so hx21
             exact jo rfl rfl rfl
           refine jk rfl hc28 <| jc (op_pickF lb tR hc28 .cB) <| jmv rfl rfl <| jk rfl rfl <| jk rfl rfl <| jc (op_pickF lb tR rfl .cB) <| jmv rfl rfl <| jk rfl rfl <| jc (op_pickF lb tR rfl .cB) <| jc (op_assign lb tR) <| JL.nil ?_
           try obtain rfl := so hx21
           exact jo rfl rfl rfl
         refine jk rfl hc24 <| jc (op_pickF lb tR hc24 .cB) <| jmv rfl rfl <| jk rfl rfl <| jk rfl rfl <| jk rfl rfl <| jc (op_pickF lb tR rfl .cB) <| jmv rfl rfl <| JL.nrm ⟨[(5, ov (PTR gb_79 0)), (77, ov (S rB false))], [cvar gb_79 zq0 ((), ((0 : Int), ((0 : Int), (false, ((0 : Int), ())))))], []⟩ [2] rfl (.cons rfl (.cons rfl .nil)) rfl <| jk rfl rfl <| jk rfl rfl <| jc (op_pickF lb tR rfl .cB) <| jmv rfl rfl <| jk rfl rfl <| jc (op_pickF lb tR rfl .cB) <| jc (op_assign lb tR) <| JL.nil ?_
         try obtain rfl := so hx21
         exact jo rfl rfl rfl
       refine JC.region <| jmv rfl rfl ?_
       obtain ⟨⟨v_37, x_38, x_39, x_40, x_41⟩, hv_37, hx7⟩ := bnd_inv hx7
       refine jx (op_call (js := [0, 0]) ld cl28 (sim_disk_Disk_Append_pvv_smvvvvm k ([111, 110, 101, 45, 109, 111, 114, 101] : List UInt8) ([] : (List UInt8)) (16777216 : Int) fuse_33 dead_34 writes_35 x_32 gb_1 go_2 gbe_36 (v_37, x_38, x_39, x_40, x_41) hv_37) .func (.cons tR (.cons (HasO.cS (l := [111, 110, 101, 45, 109, 111, 114, 101]) rfl) (.cons (HasO.wk (q := S (rL (rU UInt8)) []) HasO.nilH wkNil) .nil))) rfl) fun gbe_42 => bI hx7 fun _ hv_u_43 hx7 => jx (op_call (js := []) ld cl10 (sim_law05_num k v_37 () hv_u_43) .func (.cons tR .nil) rfl) fun _ => lI hx7 fun v_44 hv_44 hx7 => jc (op_cmpI lb tR .cI (cs hv_44)) <| jmv rfl rfl <| jT (ov (PTR gb_1 0)) rfl rfl rfl rfl (fun hq_8 => op_move lb tR) ?_
       rcases iteB_inv hx7 with ⟨hc10, hx7⟩ | ⟨hc10, hx7⟩
       · obtain ⟨⟨v_45, x_46, x_47, x_48, x_49⟩, hv_45, hx7⟩ := bnd_inv hx7
         refine JL.runX (.yes rfl (ltB rfl) rfl hc10) (op_call (js := [0, 0]) ld cl29 (sim_disk_Disk_Rename_pvv_smvvvvm k ([102, 97, 97] : List UInt8) ([111, 110, 101, 45, 109, 111, 114, 101] : List UInt8) (16777216 : Int) x_39 x_40 x_41 (x_38) gb_1 go_2 gbe_42 (v_45, x_46, x_47, x_48, x_49) hv_45) .func (.cons (HasO.cnd tR hc10) (.cons (HasO.cS (l := [102, 97, 97]) rfl) (.cons (HasO.cS (l := [111, 110, 101, 45, 109, 111, 114, 101]) rfl) .nil))) rfl) fun gbe_50 => bI hx7 fun _ hv_u_51 hx7 => JL.runX (.yes rfl (ltB rfl) rfl hc10) (op_call (js := []) ld cl10 (sim_law05_num k v_45 () hv_u_51) .func (.cons tR .nil) rfl) fun _ => JL.sub ⟨[(1, ov (PTR gb_1 0)), (40, ov (S rB v_44)), (43, ov (S (rI .i64) v_45))], [cvar gb_1 (zq1 go_2) ((), ((16777216 : Int), (x_47, (x_48, (x_49, ()))))), cqm go_2 (S rS) r_disk_file gbe_50 (some (x_46))], []⟩ (.cons rfl (.cons rfl (.cons rfl .nil))) rfl rfl <| lI hx7 fun v_52 hv_52 hx7 => JL.run (.yes rfl (ltB rfl) rfl hc10) (op_cmpI lb tR .cI (cs hv_52)) <| jc (op_pickT lb tR hc10 tR) <| jmv rfl rfl <| jT (ov (PTR gb_1 0)) rfl rfl rfl rfl (fun hq_11 => op_move lb tR) ?_
         rcases iteB_inv hx7 with ⟨hc13, hx7⟩ | ⟨hc13, hx7⟩
         · refine bI hx7 fun v_53 hv_53 hx7 => JL.runX (.yes rfl (ltB rfl) rfl hc13) (op_makeOg lb tu31 tB5 zv5 .cI .cI hv_53) (fun gb_54 => ?_)
           obtain ⟨⟨v_55, x_56, x_57, x_58, x_59⟩, hv_55, hx7⟩ := bnd_inv hx7
           refine JL.pre (Imp.frz (j := 2) rfl (ImpK.slotH (s := 48) rfl ImpK.refl)) <| JL.runX (.yes rfl (ltB rfl) rfl hc13) (op_call (js := [0, 0]) ld cl28 (sim_disk_Disk_Append_pvv_smvvvvm k ([111, 110, 101, 45, 109, 111, 114, 101] : List UInt8) v_53 (16777216 : Int) x_47 x_48 x_49 (x_46) gb_1 go_2 gbe_50 (v_55, x_56, x_57, x_58, x_59) hv_55) .func (.cons (HasO.cnd tR hc13) (.cons (HasO.cS (l := [111, 110, 101, 45, 109, 111, 114, 101]) rfl) (.cons (HasO.wk tR wkHL) .nil))) rfl) fun gbe_60 => JL.nrm ⟨[(1, ov (PTR gb_1 0)), (46, ov (S rB v_52)), (49, ov (S (rI .i64) v_55))], [cvar gb_1 (zq1 go_2) ((), ((16777216 : Int), (x_57, (x_58, (x_59, ()))))), cqm go_2 (S rS) r_disk_file gbe_60 (some (x_56))], []⟩ [0, 0] rfl (.cons rfl (.cons rfl (.cons rfl .nil))) rfl <| bI hx7 fun _ hv_u_61 hx7 => JL.runX (.yes rfl (ltB rfl) rfl hc13) (op_call (js := []) ld cl10 (sim_law05_num k v_55 () hv_u_61) .func (.cons tR .nil) rfl) fun _ => lI hx7 fun v_62 hv_62 hx7 => JL.run (.yes rfl (ltB rfl) rfl hc13) (op_cmpI lb tR .cI (cs hv_62)) <| jc (op_pickT lb tR hc13 tR) <| jmv rfl rfl <| jT (ov (PTR gb_1 0)) rfl rfl rfl rfl (fun hq_14 => op_move lb tR) ?_
           refine jT (ov (S (rL (rU UInt8)) ([(1 : UInt8)] : (List UInt8)))) rfl rfl rfl rfl (fun hq_15 => op_buildF (r := (rU UInt8)) lb tu31 tz5 tZ5 rfl (lE rfl) (.S rfl (HasO.cU (x := (1 : UInt8)) rfl (by decide)) .nil) rfl) ?_
           rcases iteB_inv hx7 with ⟨hc17, hx7⟩ | ⟨hc17, hx7⟩
           · obtain ⟨⟨v_63, x_64, x_65, x_66, x_67⟩, hv_63, hx7⟩ := bnd_inv hx7
             refine JL.runX (.yes rfl (ltB rfl) rfl hc17) (op_call (js := [0, 0]) ld cl28 (sim_disk_Disk_Append_pvv_smvvvvm k ([102, 97, 98] : List UInt8) ([(1 : UInt8)] : (List UInt8)) (16777216 : Int) x_57 x_58 x_59 (x_56) gb_1 go_2 gbe_60 (v_63, x_64, x_65, x_66, x_67) hv_63) .func (.cons (HasO.cnd tR hc17) (.cons (HasO.cS (l := [102, 97, 98]) rfl) (.cons (HasO.cnd tR hc17) .nil))) rfl) fun gbe_68 => bI hx7 fun _ hv_u_69 hx7 => JL.runX (.yes rfl (ltB rfl) rfl hc17) (op_call (js := []) ld cl10 (sim_law05_num k v_63 () hv_u_69) .func (.cons tR .nil) rfl) fun _ => lI hx7 fun v_70 hv_70 hx7 => JL.run (.yes rfl (ltB rfl) rfl hc17) (op_cmpI lb tR .cI (cs hv_70)) <| jc (op_pickT lb tR hc17 tR) <| JL.sub ⟨[(1, ov (PTR gb_1 0)), (59, ov (S rB v_70))], [cvar gb_1 (zq1 go_2) ((), ((16777216 : Int), (x_65, (x_66, (x_67, ()))))), cqm go_2 (S rS) r_disk_file gbe_68 (some (x_64))], []⟩ (.cons rfl (.cons rfl .nil)) rfl rfl <| jmv rfl rfl <| jT (ov (PTR gb_1 0)) rfl rfl rfl rfl (fun hq_18 => op_move lb tR) ?_
             rcases iteB_inv hx7 with ⟨hc20, hx7⟩ | ⟨hc20, hx7⟩
             · refine bI hx7 fun v_71 hv_71 hx7 => JL.runX (.yes rfl (ltB rfl) rfl hc20) (op_call (js := [0, 0]) ld cl11 (sim_disk_Disk_Room_p_smvvvvm k (16777216 : Int) x_65 x_66 x_67 (x_64) gb_1 go_2 gbe_68 v_71 hv_71) .func (.cons (HasO.cnd tR hc20) .nil) rfl) fun _ => lI hx7 fun v_72 hv_72 hx7 => JL.run (.yes rfl (ltB rfl) rfl hc20) (op_cmpI lb tR .cI (cs hv_72)) <| jc (op_pickT lb tR hc20 tR) <| jc (op_assign lb tR) <| JL.nil ?_
               have hz := Option.some.inj hx7
               replace hz := Prod.mk.inj hz
               obtain ⟨hz_a, hz⟩ := hz
               first | subst hz_a | clear hz_a
               replace hz := Prod.mk.inj hz
               obtain ⟨hz_a, hz⟩ := hz
               first | subst hz_a | clear hz_a
               replace hz := Prod.mk.inj hz
               obtain ⟨hz_a, hz⟩ := hz
               first | subst hz_a | clear hz_a
               replace hz := Prod.mk.inj hz
               obtain ⟨hz_a, hz⟩ := hz
               first | subst hz_a | clear hz_a
               first | subst hz | clear hz
               exact JQ.join gbe_68 (Imp.norm (js := [0, 0]) rfl (.cons rfl (.cons rfl .nil)))
             refine jk rfl hc20 <| jk rfl hc20 <| jc (op_pickF lb tR hc20 .cB) <| jc (op_assign lb tR) <| JL.nil ?_
             have hz := Option.some.inj hx7
             replace hz := Prod.mk.inj hz
             obtain ⟨hz_a, hz⟩ := hz
             first | subst hz_a | clear hz_a
             replace hz := Prod.mk.inj hz
             obtain ⟨hz_a, hz⟩ := hz
             first | subst hz_a | clear hz_a
             replace hz := Prod.mk.inj hz
             obtain ⟨hz_a, hz⟩ := hz
             first | subst hz_a | clear hz_a
             replace hz := Prod.mk.inj hz
             obtain ⟨hz_a, hz⟩ := hz
             first | subst hz_a | clear hz_a
             first | subst hz | clear hz
             exact JQ.join gbe_68 (Imp.norm (js := [0, 0]) rfl (.cons rfl (.cons rfl .nil)))
           refine jk rfl hc17 <| jk rfl hc17 <| jk rfl hc17 <| jc (op_pickF lb tR hc17 .cB) <| jmv rfl rfl <| jk rfl rfl <| jk rfl rfl <| jk rfl rfl <| jc (op_pickF lb tR rfl .cB) <| jc (op_assign lb tR) <| JL.nil ?_
           have hz := Option.some.inj hx7
           replace hz := Prod.mk.inj hz
           obtain ⟨hz_a, hz⟩ := hz
           first | subst hz_a | clear hz_a
           replace hz := Prod.mk.inj hz
           obtain ⟨hz_a, hz⟩ := hz
           first | subst hz_a | clear hz_a
           replace hz := Prod.mk.inj hz
           obtain ⟨hz_a, hz⟩ := hz
           first | subst hz_a | clear hz_a
           replace hz := Prod.mk.inj hz
           obtain ⟨hz_a, hz⟩ := hz
           first | subst hz_a | clear hz_a
           first | subst hz | clear hz
           exact JQ.join gbe_60 (Imp.norm (js := [0, 0]) rfl (.cons rfl (.cons rfl .nil)))
         refine jk rfl hc13 <| jk rfl hc13 <| jk rfl hc13 <| jk rfl hc13 <| jc (op_pickF lb tR hc13 .cB) <| jmv rfl rfl <| jk rfl rfl <| jk rfl rfl <| jk rfl rfl <| jk rfl rfl <| jk rfl rfl <| jc (op_pickF lb tR rfl .cB) <| jmv rfl rfl <| jk rfl rfl <| jk rfl rfl <| jk rfl rfl <| jc (op_pickF lb tR rfl .cB) <| jc (op_assign lb tR) <| JL.nil ?_
         have hz := Option.some.inj hx7
         replace hz := Prod.mk.inj hz
         obtain ⟨hz_a, hz⟩ := hz
         first | subst hz_a | clear hz_a
         replace hz := Prod.mk.inj hz
         obtain ⟨hz_a, hz⟩ := hz
         first | subst hz_a | clear hz_a
         replace hz := Prod.mk.inj hz
         obtain ⟨hz_a, hz⟩ := hz
         first | subst hz_a | clear hz_a
         replace hz := Prod.mk.inj hz
         obtain ⟨hz_a, hz⟩ := hz
         first | subst hz_a | clear hz_a
         first | subst hz | clear hz
         exact JQ.join gbe_50 (Imp.norm (js := [0, 0]) rfl (.cons rfl (.cons rfl .nil)))
       refine jk rfl hc10 <| jk rfl hc10 <| jk rfl hc10 <| jc (op_pickF lb tR hc10 .cB) <| jmv rfl rfl <| jk rfl rfl <| jk rfl rfl <| jk rfl rfl <| jk rfl rfl <| jk rfl rfl <| jc (op_pickF lb tR rfl .cB) <| jmv rfl rfl <| JL.sub ⟨[(1, ov (PTR gb_1 0)), (53, ov (S rB false))], [cvar gb_1 (zq1 go_2) ((), ((16777216 : Int), (x_39, (x_40, (x_41, ()))))), cqm go_2 (S rS) r_disk_file gbe_42 (some (x_38))], []⟩ (.cons rfl (.cons rfl .nil)) rfl rfl <| jk rfl rfl <| jk rfl rfl <| jk rfl rfl <| jk rfl rfl <| jk rfl rfl <| jc (op_pickF lb tR rfl .cB) <| jmv rfl rfl <| jk rfl rfl <| jk rfl rfl <| jk rfl rfl <| jc (op_pickF lb tR rfl .cB) <| jc (op_assign lb tR) <| JL.nil ?_
       have hz := Option.some.inj hx7
       replace hz := Prod.mk.inj hz
       obtain ⟨hz_a, hz⟩ := hz
       first | subst hz_a | clear hz_a
       replace hz := Prod.mk.inj hz
       obtain ⟨hz_a, hz⟩ := hz
       first | subst hz_a | clear hz_a
       replace hz := Prod.mk.inj hz
       obtain ⟨hz_a, hz⟩ := hz
       first | subst hz_a | clear hz_a
       replace hz := Prod.mk.inj hz
       obtain ⟨hz_a, hz⟩ := hz
       first | subst hz_a | clear hz_a
       first | subst hz | clear hz
       exact JQ.join gbe_42 (Imp.norm (js := [0, 0]) rfl (.cons rfl (.cons rfl .nil)))
     refine jr <| jc (op_assign lb .cI) <| jn <| JC.block <| bI hx3 fun tv4 hL4 hq4 => JC.pre ?_ (JC.loop (γ := ((List UInt8) → Nat)) (stf := fun s q => ⟨[(1, ov (PTR gb_1 0)), (3, ov (S (rI .i64) s.2.2.2.2))], [cvar gb_1 (zq1 go_2) ((), ((16777216 : Int), (s.2.1, (s.2.2.1, (s.2.2.2.1, ()))))), cqm go_2 (S rS) r_disk_file q (some s.1)], []⟩) (q := (fun _ : (List UInt8) => 0)) hL4 ?_)
     · exact (Imp.norm (js := [0, 0]) rfl (.cons rfl (.cons rfl .nil)))
     intro s q x hx hr
     obtain ⟨x_4, fuse_5, dead_6, writes_7, x_8⟩ := s
     obtain ⟨gbe_9, hqq⟩ : ∃ z, z = q := ⟨_, rfl⟩
     subst hqq
     change law05_DiskNil.b1 k x_4 fuse_5 dead_6 writes_7 x_8 = some x at hx
     unfold law05_DiskNil.b1 at hx
     refine JC.at ⟨[(1, ov (PTR gb_1 0)), (3, ov (S (rI .i64) x_8))], [zq4 gb_1 go_2 fuse_5 dead_6 writes_7, cqm go_2 (S rS) r_disk_file gbe_9 (some x_4)], []⟩ <| JC.seq <| jr <| jmv rfl rfl <| lI hx fun v_10 hv_10 hx => jc (op_cmpI lb tR .cI (cs hv_10)) <| jn <| jif tR hx (fun hc5 hx => ?_) (fun hc5 hx => ?_)
     · refine JC.skip <| JQ.then <| JC.seq <| JC.block <| jr <| jmv rfl rfl <| jmv rfl rfl <| bI hx fun v_11 hv_11 hx => jc (op_arI lb tR .cI hv_11) <| lI hx fun v_12 hv_12 hx => jc (op_arI lb .cI tR (cs hv_12)) <| lI hx fun v_13 hv_13 hx => jc (op_convIU lb tu3 tu5 tR hv_13) <| jmv rfl rfl ?_
       refine bI hx fun v_14 hv_14 hx => jc (op_arI lb tR .cI hv_14) <| lI hx fun v_15 hv_15 hx => jc (op_arI lb .cI tR (cs hv_15)) <| lI hx fun v_16 hv_16 hx => jc (op_convIU lb tu3 tu5 tR hv_16) <| jc (op_buildF (r := (rU UInt8)) lb tu31 tz5 tZ5 rfl (lE rfl) (.S rfl tR (.S rfl tR .nil)) rfl) <| JL.sub ⟨[(1, ov (PTR gb_1 0)), (3, ov (S (rI .i64) x_8)), (21, ov (PTR gb_1 0)), (30, ov (S (rL (rU UInt8)) ([v_13, v_16] : (List UInt8))))], [zq4 gb_1 go_2 fuse_5 dead_6 writes_7, cqm go_2 (S rS) r_disk_file gbe_9 (some x_4)], []⟩ (.cons rfl (.cons rfl (.cons rfl (.cons rfl .nil)))) rfl rfl <| jc (op_convBS lb tu31 tu5 tu9 tR) ?_
       obtain ⟨v_17, hv_17, hx⟩ := bnd_inv hx
       refine jc (op_catSg lb (HasO.cS (l := [102]) rfl) tR hv_17) ?_
       obtain ⟨⟨v_18, x_19, x_20, x_21, x_22⟩, hv_18, hx⟩ := bnd_inv hx
       refine jx (op_call (js := [0, 0]) ld cl28 (sim_disk_Disk_Append_pvv_smvvvvm k v_17 ([] : (List UInt8)) (16777216 : Int) fuse_5 dead_6 writes_7 x_4 gb_1 go_2 gbe_9 (v_18, x_19, x_20, x_21, x_22) hv_18) .func (.cons tR (.cons tR (.cons (HasO.wk (q := S (rL (rU UInt8)) []) HasO.nilH wkNil) .nil))) rfl) fun gbe_23 => bI hx fun _ hv_u_24 hx => jx (op_call (js := []) ld cl10 (sim_law05_num k v_18 () hv_u_24) .func (.cons tR .nil) rfl) fun _ => lI hx fun v_25 hv_25 hx => jc (op_cmpI lb tR .cI (cs hv_25)) <| jn <| jif tR hx (fun hc6 hx => ?_) (fun hc6 hx => ?_)
       · refine jr <| jc (op_assign lb .cB) <| jn <| JC.ret <| JQ.outRB <| JQ.outR ?_
         try obtain rfl := so hx
         try obtain rfl := hr _ rfl
         dsimp only at hq4
         refine JQ.outR <| JQ.outRB ?_
         try obtain rfl := so hq4
         dsimp only at hq3
         refine JQ.outR ?_
         obtain rfl := so hq3
         exact jd (.val (S rB false)) rfl rfl rfl rfl rfl rfl
       refine JC.skip <| JQ.outNB <| JQ.then <| JC.region <| jmv rfl rfl <| lI hx fun v_26 hv_26 hx => jc (op_arI lb tR .cI (cs hv_26)) <| jc (op_assign lb tR) <| JL.nil ?_
       try obtain rfl := so hx
       exact JQ.next gbe_23 rfl (Imp.norm (js := [0, 0]) rfl (.cons rfl (.cons rfl .nil)))
     refine JC.exit <| JQ.outX ?_
     try obtain rfl := so hx
     try obtain rfl := hr _ rfl
     dsimp only at hq4
     refine JQ.outX <| JQ.here ?_
     try obtain rfl := so hq4
     exact JQ.joinK (x_4, fuse_5, dead_6, writes_7) gbe_9 rfl (Imp.norm (js := [0, 0]) rfl (.cons rfl .nil))
   exact JC.region <| jmv rfl rfl <| jc (op_nilP (neg := false) lb tu25 tR (HasO.const (p := PTO none) fun _ => rfl)) <| jmv rfl rfl <| JL.sub ⟨[(1, ov (PTR gb_1 0)), (2, ov (S (rI .i64) (0 : Int))), (12, ov (S rB false))], [zq2 gb_1 go_2, cqm go_2 (S rS) r_disk_file (fun _ : (List UInt8) => 0) (some ([] : (List ((List UInt8) × disk_file))))], []⟩ (.cons rfl (.cons rfl (.cons rfl .nil))) rfl rfl <| JL.run (.yes rfl (ltB rfl) rfl rfl) (op_move lb tR) <| bI hx2 fun _ hv_u_3 hx2 => JL.runX (.yes rfl (ltB rfl) rfl rfl) (op_call (js := []) ld cl10 (sim_law05_num k (0 : Int) () hv_u_3) .func (.cons tR .nil) rfl) fun _ => JL.run (.yes rfl (ltB rfl) rfl rfl) (op_cmpI lb tR .cI (cs (by decide : ((0 : Int) != (0 : Int)) = false))) <| jc (op_pickF lb tR rfl tR) <| JL.nil <| JQ.join () (Imp.norm (js := [0, 0]) rfl (.cons rfl (.cons rfl .nil)))
 obtain _ := ts1
 dsimp only at hm
 refine jx (op_call (js := []) ld cl9 (sim_disk_New_v1 k (16777216 : Int) () hs1) .func (.cons .cI .nil) rfl) fun _ => jmv rfl rfl <| jc (op_extract (i := 0) lb tR rfl) <| jc (op_extract (i := 1) lb tR rfl) <| jc (op_assign lb tR) <| jc (op_assign lb tR) <| jn <| JC.seq <| bI hm fun _ hx34 hq34 => JC.seqJ (γ := Unit) (stj := fun _ => ⟨[(1, ov (PTO none)), (16, ov (S rB true))], [], []⟩) (fun _ => ?_) ?_
 · refine JC.condT tR rfl <| jr <| jc (op_assign lb .cB) <| jn <| JC.ret <| JQ.outR ?_
   obtain rfl := so hq34
   exact jd (.val (S rB false)) rfl rfl rfl rfl rfl rfl
 exact JC.region <| jmv rfl rfl <| jc (op_nilO (neg := false) (ob := none) lb tu25 tR (HasO.const (p := PTO none) fun _ => rfl) rfl) <| jmv rfl rfl <| JL.sub ⟨[(1, ov (PTO none)), (2, ov (S (rI .i64) (2 : Int))), (12, ov (S rB true))], [], []⟩ (.cons rfl (.cons rfl (.cons rfl .nil))) rfl rfl <| jk rfl rfl <| jk rfl rfl <| jk rfl rfl <| jc (op_pickT lb tR rfl .cB) <| JL.nil <| JQ.join () (Imp.norm (js := []) rfl (.cons rfl (.cons rfl .nil)))

end Go.Proofs.Ytipchpbcjkhnaaa
