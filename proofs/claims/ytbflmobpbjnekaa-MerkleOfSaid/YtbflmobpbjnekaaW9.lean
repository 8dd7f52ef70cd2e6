/- Walks. -/
import Derived.Test.YtbflmobpbjnekaaT
import Derived.Test.YtbflmobpbjnekaaW3
import Derived.Test.YtbflmobpbjnekaaW5
import Derived.Test.YtbflmobpbjnekaaW6
import Derived.Test.YtbflmobpbjnekaaW8
namespace Go.Proofs.Ytbflmobpbjnekaa
open Go Fw
set_option linter.unusedVariables false
set_option maxRecDepth 100000
set_option maxHeartbeats 4000000

theorem sim_law08_MerkleOf (k : Nat) (leaves_1 : (List (Vector UInt8 32))) (r : Bool) (hm : law08_MerkleOf k leaves_1 = some r) : Sim Try.prog 3 [S (rL (rV 32 (rU UInt8))) leaves_1] [] (γ := Unit) (fun q => []) (fun q => .one (.val (S rB r))) := by
 unfold law08_MerkleOf at hm
 refine Sim.of Try.func3 rfl rfl (lE rfl) (fun e0 w0 => ?_)
 refine JC.at ⟨[(0, ov (S (rL (rV 32 (rU UInt8))) leaves_1))], [], []⟩ <| jr <| jc (op_assign lb .cB) <| jn <| JC.seq <| jr <| jmv rfl rfl <| jc (op_lenL lb tu22 tR) <| lI hm fun v_2 hv_2 hm => jc (op_cmpI lb tR .cI (cs hv_2)) <| jn <| jif tR hm (fun hc1 hm => ?_) (fun hc1 hm => ?_)
 · refine jr <| bI hm fun v_3 hv_3 hm => jx (op_call (js := []) ld cl7 (sim_law08_known k v_3 hv_3) .func .nil rfl) fun _ => jc (op_assign lb tR) <| jn <| JC.ret <| JQ.outR ?_
   obtain rfl := so hm
   exact jd (.val (S rB v_3)) rfl rfl rfl rfl rfl rfl
 refine JC.skip <| JQ.then <| jr <| jmv rfl rfl <| bI hm fun v_4 hv_4 hm => JL.pre (Imp.nilown (rV 32 (rU UInt8))) <| jx (op_appendL (j := 0) lb tu22 tu22 rfl tB30 rfl (Nat.lt_of_lt_of_le Nat.zero_lt_one (lE rfl)) (Nat.lt_of_lt_of_le Nat.zero_lt_one (lE rfl))  rfl HasO.nilH tR hv_4) (fun q => ?_)
 obtain ⟨go_5, gc_6⟩ := q
 refine JL.sub ⟨[(0, ov (S (rL (rV 32 (rU UInt8))) leaves_1)), (12, ov (HDR go_5 0 (List.length v_4) gc_6))], [cown go_5 (rV 32 (rU UInt8)) v_4 0 gc_6], []⟩ (.cons rfl (.cons rfl .nil)) rfl rfl <| jc (op_assign lb tR) <| jn <| jr <| jmv rfl rfl ?_
 obtain ⟨ts2, hs2, hm⟩ := bnd_inv hm
 rcases ts2 with ts2 | ts2
 · obtain ⟨v_7, hvv⟩ : ∃ z, z = ts2 := ⟨_, rfl⟩
   subst hvv
   dsimp only at hm
   refine jx (op_call (js := [0]) ld cl8 (sim_merkle_Of_o_v0 k v_4 go_5 gc_6 v_7 hs2) .func (.cons tR .nil) rfl) fun gb_8 => jmv rfl rfl <| jc (op_extract (i := 0) lb tR rfl) <| jc (op_extract (i := 1) lb tR rfl) <| jc (op_assign lb tR) <| jc (op_assign lb tR) <| jn <| JC.seq <| jr <| jmv rfl rfl <| jc (op_lenL lb tu22 tR) <| JL.sub ⟨[(0, ov (S (rL (rV 32 (rU UInt8))) leaves_1)), (3, ov (HDR go_5 0 (List.length v_4) gc_6)), (4, ov (PTR gb_8 0)), (5, ov (S (rI .i64) (0 : Int))), (19, ov (S (rI .i64) (List.length leaves_1 : Int)))], [cvar gb_8 r_merkle_Tree v_7, cown go_5 (rV 32 (rU UInt8)) v_4 0 gc_6], []⟩ (.cons rfl (.cons rfl (.cons rfl (.cons rfl (.cons rfl .nil))))) rfl rfl <| lI hm fun v_9 hv_9 hm => jc (op_cmpI lb tR .cI (cs hv_9)) <| jn <| jif tR hm (fun hc3 hm => ?_) (fun hc3 hm => ?_)
   · refine bI hm fun _ hx4 hq4 => JC.seqJ (γ := Unit) (stj := fun _ => ⟨[(2, ov (S rB false))], [], []⟩) (fun _ => ?_) ?_
     · refine JC.ret <| JQ.outR ?_
       obtain rfl := so hq4
       exact jd (.val (S rB false)) rfl rfl rfl rfl rfl rfl
     exact JC.region <| jmv rfl rfl <| jc (op_nilP (neg := false) lb tu24 tR (HasO.const (p := PTO none) fun _ => rfl)) <| jmv rfl rfl <| jk rfl rfl <| jk rfl rfl <| jk rfl rfl <| jc (op_pickF lb tR rfl .cB) <| jmv rfl rfl <| jk rfl rfl <| jc (op_pickF lb tR rfl .cB) <| jc (op_assign lb tR) <| JL.nil <| jo rfl rfl rfl
   refine JC.skip <| JQ.then <| bI hm fun tv5 hx5 hq5 => JC.seqK (α := Unit) (γ := Unit) (stj := fun v q => ⟨[(0, ov (S (rL (rV 32 (rU UInt8))) leaves_1)), (4, ov (PTR gb_8 0)), (5, ov (S (rI .i64) (0 : Int)))], [cvar gb_8 r_merkle_Tree v_7], []⟩) (p := fun v => tv5 = (.inl v)) (fun v q hv => ?_) ?_
   · subst hv
     skip
     obtain _ := q
     dsimp only at hq5
     refine JC.at ⟨[(0, ov (S (rL (rV 32 (rU UInt8))) leaves_1)), (4, ov (PTR gb_8 0)), (5, ov (S (rI .i64) (0 : Int)))], [cvar gb_8 r_merkle_Tree v_7], []⟩ <| bI hq5 fun x_24 hx9 hq9 => JC.seqJ (γ := Unit) (stj := fun _ => ⟨[(2, ov (S rB x_24))], [], []⟩) (fun _ => ?_) ?_
     · refine JC.ret ?_
       obtain rfl := so hq9
       exact jd (.val (S rB x_24)) rfl rfl rfl rfl rfl rfl
     refine JC.region <| jmv rfl rfl <| bI hx9 fun _ hv_u_20 hx9 => jx (op_call (js := []) ld cl9 (sim_law08_num k (0 : Int) () hv_u_20) .func (.cons tR .nil) rfl) fun _ => jc (op_cmpI lb tR .cI (cs (by decide : ((0 : Int) == (0 : Int)) = true))) <| jmv rfl rfl <| JL.run (.yes rfl (ltB rfl) rfl rfl) (op_move lb tR) <| JL.run (.yes rfl (ltB rfl) rfl rfl) (op_move lb tR) <| bI hx9 fun v_21 hv_21 hx9 => JL.runX (.yes rfl (ltB rfl) rfl rfl) (op_call (js := [0]) ld cl10 (sim_law08_stands k leaves_1 v_7 gb_8 v_21 hv_21) .func (.cons tR (.cons tR .nil)) rfl) fun _ => jc (op_pickT lb tR rfl tR) <| jmv rfl rfl ?_
     refine bI hx9 fun v_22 hv_22 hx9 => jT (ov (S rB v_22)) rfl rfl rfl rfl (fun hq_10 => (op_call (js := []) ld cl7 (sim_law08_known k v_22 (ifT hv_22 hq_10)) .func .nil rfl).post (fun _ => Imp.refl)) <| lI hx9 fun v_23 hv_23 hx9 => jc (op_pickCS lb tR (fun hb11 => (HasO.cnd tR hb11)) (fun hb11 => .cB) hv_23) <| jc (op_assign lb tR) <| JL.nrm ⟨[(2, ov (S rB v_23))], [], []⟩ [] rfl (.cons rfl .nil) rfl <| JL.nil ?_
     try obtain rfl := so hx9
     exact jo rfl rfl rfl
   refine jr <| jc (op_assign lb .cI) <| jn <| JC.block <| bI hx5 fun tv6 hL6 hq6 => JC.pre ?_ (JC.loop (γ := Unit) (stf := fun s q => ⟨[(0, ov (S (rL (rV 32 (rU UInt8))) leaves_1)), (3, ov (HDR go_5 0 (List.length s.1) gc_6)), (4, ov (PTR gb_8 0)), (5, ov (S (rI .i64) (0 : Int))), (6, ov (S (rI .i64) s.2))], [cown go_5 (rV 32 (rU UInt8)) s.1 0 gc_6, cvar gb_8 r_merkle_Tree v_7], []⟩) (q := ()) hL6 ?_)
   · exact (Imp.norm (js := [1, 0]) rfl (.cons rfl (.cons rfl (.cons rfl (.cons rfl (.cons rfl .nil))))))
   intro s q x hx hr
   obtain ⟨own_10, i_11⟩ := s
   obtain _ := q
   change law08_MerkleOf.b1 k leaves_1 own_10 i_11 = some x at hx
   unfold law08_MerkleOf.b1 at hx
   refine JC.at ⟨[(0, ov (S (rL (rV 32 (rU UInt8))) leaves_1)), (3, ov (HDR go_5 0 (List.length own_10) gc_6)), (4, ov (PTR gb_8 0)), (5, ov (S (rI .i64) (0 : Int))), (6, ov (S (rI .i64) i_11))], [cown go_5 (rV 32 (rU UInt8)) own_10 0 gc_6, cvar gb_8 r_merkle_Tree v_7], []⟩ <| JC.seq <| jr <| jmv rfl rfl <| jmv rfl rfl <| jc (op_lenH lb tu22 tR) <| lI hx fun v_12 hv_12 hx => jc (op_cmpI lb tR tR (cs hv_12)) <| jn <| jif tR hx (fun hc7 hx => ?_) (fun hc7 hx => ?_)
   · refine JC.skip <| JQ.then <| JC.seq <| JC.block <| JC.seq <| JC.seq <| bI hx fun i_13 hv_i_13 hx => bI hx fun v_14 hv_14 hx => bI hx fun v_15 hv_15 hx => ?_
     obtain ⟨v_16, hv_16, hx⟩ := lt1_inv hx
     refine JC.anyF (base := [(0, ov (S (rL (rV 32 (rU UInt8))) leaves_1)), (3, ov (HDR go_5 0 (List.length own_10) gc_6)), (4, ov (PTR gb_8 0)), (5, ov (S (rI .i64) (0 : Int))), (6, ov (S (rI .i64) i_11))])
         (fs := fun γ => [⟨some 37, ov (HDR go_5 0 (List.length own_10) gc_6)⟩, ⟨some 38, ov (S (rI .i64) i_11)⟩, ⟨some 39, ov (EPT go_5 (i_13 * 32))⟩, ⟨some 40, ov (A (rV 32 (rU UInt8)) v_14)⟩, ⟨some 41, ov (S (rL (rV 32 (rU UInt8))) leaves_1)⟩, ⟨some 42, ov (S (rI .i64) i_11)⟩, ⟨some 43, ov (PT (rV 32 (rU UInt8)) v_15)⟩, ⟨some 44, ov (A (rV 32 (rU UInt8)) v_15)⟩, ⟨some 45, ov (S rB v_16)⟩])
         (rs := fun γ => [⟨cown go_5 (rV 32 (rU UInt8)) own_10 0 gc_6, none, none, [2, 3]⟩, ⟨cvar gb_8 r_merkle_Tree v_7, none, none, []⟩])
         (afts := nn 9) (js := [0, 0]) mixed (.cons rfl (.cons rfl (.cons rfl (.cons rfl (.cons rfl .nil))))) (fun _ => rfl)
         (by
      refine db 1 3 <| db 2 6 <| dR 3 (fun γ ρ B hb hd => OpStep.lk ⟨ρ, (cown go_5 (rV 32 (rU UInt8)) own_10 0 gc_6) :: B, _⟩ (op_indexAddrOF (r := (rV 32 (rU UInt8))) (j := 0) lb tu22 tz30 rfl (tl hd 0 37) (tl hd 1 38) hv_i_13)) <| dR 4 (fun γ ρ B hb hd => OpStep.lk ⟨ρ, (cown go_5 (rV 32 (rU UInt8)) own_10 0 gc_6) :: B, _⟩ (op_loadOA (r := (rV 32 (rU UInt8))) (i := i_13) (off := 0) (j := 0) lb tA30 rfl (tl hd 2 39) hv_14 (Comp.self (rV 32 (rU UInt8)) v_14) (by decide))) <| db 5 0 ?_
      refine db 6 6 <| dS 7 (fun γ ρ B hb hd => op_indexAddrLg lb tu22 tz30 (tl hd 4 41) (tl hd 5 42) hv_15) <| dS 8 (fun γ ρ B hb hd => op_loadPAg lb tA30 (tl hd 6 43) rfl) <| dS 9 (fun γ ρ B hb hd => op_neA lb qa30 (by decide) ng30 (tl hd 3 40) (tl hd 7 44) hv_16) ?_
      exact DSteps.nil)
         (by decide +kernel) (fun _ => rfl) (fun _ => rfl) (fun _ => rfl) rfl
         (ρ' := fun γ => [(0, ov (S (rL (rV 32 (rU UInt8))) leaves_1)), (3, ov (HDR go_5 0 (List.length own_10) gc_6)), (4, ov (PTR gb_8 0)), (5, ov (S (rI .i64) (0 : Int))), (6, ov (S (rI .i64) i_11)), (45, ov (S rB v_16))])
         (X' := fun γ => [cown go_5 (rV 32 (rU UInt8)) own_10 0 gc_6, cvar gb_8 r_merkle_Tree v_7])
         (fun γ ρ hb hd => (.cons (hb 0 _ rfl) (.cons (hb 3 _ rfl) (.cons (hb 4 _ rfl) (.cons (hb 5 _ rfl) (.cons (hb 6 _ rfl) (.cons (hdq hd 8 45 rfl) .nil))))))) (fun _ => rfl) (fun γ => ?_)
     refine JQ.at ⟨[(0, ov (S (rL (rV 32 (rU UInt8))) leaves_1)), (3, ov (HDR go_5 0 (List.length own_10) gc_6)), (4, ov (PTR gb_8 0)), (5, ov (S (rI .i64) (0 : Int))), (6, ov (S (rI .i64) i_11)), (45, ov (S rB v_16))], [cown go_5 (rV 32 (rU UInt8)) own_10 0 gc_6, cvar gb_8 r_merkle_Tree v_7], []⟩ <| JQ.then <| jif tR hx (fun hc8 hx => ?_) (fun hc8 hx => ?_)
     · refine jr <| jc (op_assign lb .cB) <| jn <| JC.ret <| JQ.outR <| JQ.outRB <| JQ.outR ?_
       try obtain rfl := so hx
       try obtain rfl := hr _ rfl
       dsimp only at hq6
       refine JQ.outR <| JQ.outRB ?_
       try obtain rfl := so hq6
       dsimp only at hq5
       refine JQ.outR ?_
       obtain rfl := so hq5
       exact jd (.val (S rB false)) rfl rfl rfl rfl rfl rfl
     refine JC.skip <| JQ.then <| JC.region <| jmv rfl rfl <| jmv rfl rfl <| jc (op_build lb tZ30 zv30 tp30 .nil rfl) <| bI hx fun i_17 hv_i_17 hx => jc (op_indexAddrOF (r := (rV 32 (rU UInt8))) (j := 0) lb tu22 tz30 rfl tR tR hv_i_17) <| bI hx fun own_18 hv_own_18 hx => jc (op_storeOAg (r := (rV 32 (rU UInt8))) (j := 0) tA30 rfl tR tR hv_own_18) <| JL.pre (Imp.slot (s := 3) (q := HDR go_5 0 (List.length own_18) gc_6) rfl (wkLen (setO'_len hv_own_18))) <| JL.pre (Imp.slot (s := 46) (q := HDR go_5 0 (List.length own_18) gc_6) rfl (wkLen (setO'_len hv_own_18))) <| JL.nil ?_
     refine JQ.outNB <| JQ.then <| JC.region <| jmv rfl rfl <| lI hx fun v_19 hv_19 hx => jc (op_arI lb tR .cI (cs hv_19)) <| jc (op_assign lb tR) <| JL.nil ?_
     try obtain rfl := so hx
     exact JQ.next () rfl (Imp.norm (js := [0, 0]) rfl (.cons rfl (.cons rfl (.cons rfl (.cons rfl (.cons rfl .nil))))))
   refine JC.exit <| JQ.outX ?_
   try obtain rfl := so hx
   try obtain rfl := hr _ rfl
   dsimp only at hq6
   refine JQ.outX <| JQ.here ?_
   try obtain rfl := so hq6
   exact JQ.joinK () () rfl (Imp.norm (js := [1]) rfl (.cons rfl (.cons rfl (.cons rfl .nil))))
 obtain _ := ts2
 dsimp only at hm
 refine jx (op_call (js := [0]) ld cl8 (sim_merkle_Of_o_v1 k v_4 go_5 gc_6 () hs2) .func (.cons tR .nil) rfl) fun _ => jmv rfl rfl <| jc (op_extract (i := 0) lb tR rfl) <| jc (op_extract (i := 1) lb tR rfl) <| jc (op_assign lb tR) <| jc (op_assign lb tR) <| jn <| JC.seq <| jr <| jmv rfl rfl <| jc (op_lenL lb tu22 tR) <| JL.sub ⟨[(0, ov (S (rL (rV 32 (rU UInt8))) leaves_1)), (3, ov (HDR go_5 0 (List.length v_4) gc_6)), (4, ov (PTO none)), (5, ov (S (rI .i64) (2 : Int))), (19, ov (S (rI .i64) (List.length leaves_1 : Int)))], [cown go_5 (rV 32 (rU UInt8)) v_4 0 gc_6], []⟩ (.cons rfl (.cons rfl (.cons rfl (.cons rfl (.cons rfl .nil))))) rfl rfl <| lI hm fun v_25 hv_25 hm => jc (op_cmpI lb tR .cI (cs hv_25)) <| jn <| jif tR hm (fun hc12 hm => ?_) (fun hc12 hm => ?_)
 · refine bI hm fun x_28 hx13 hq13 => JC.seqJ (γ := Unit) (stj := fun _ => ⟨[(2, ov (S rB x_28))], [], []⟩) (fun _ => ?_) ?_
   · refine JC.ret <| JQ.outR ?_
     obtain rfl := so hq13
     exact jd (.val (S rB x_28)) rfl rfl rfl rfl rfl rfl
   refine JC.region <| jmv rfl rfl <| jc (op_nilO (neg := false) (ob := none) lb tu24 tR (HasO.const (p := PTO none) fun _ => rfl) rfl) <| jmv rfl rfl <| JL.run (.yes rfl (ltB rfl) rfl rfl) (op_move lb tR) <| bI hx13 fun _ hv_u_26 hx13 => JL.runX (.yes rfl (ltB rfl) rfl rfl) (op_call (js := []) ld cl9 (sim_law08_num k (2 : Int) () hv_u_26) .func (.cons tR .nil) rfl) fun _ => JL.run (.yes rfl (ltB rfl) rfl rfl) (op_cmpI lb tR .cI (cs (by decide : ((2 : Int) == (2 : Int)) = true))) <| jc (op_pickT lb tR rfl tR) <| jmv rfl rfl <| bI hx13 fun v_27 hv_27 hx13 => JL.runX (.yes rfl (ltB rfl) rfl rfl) (op_call (js := []) ld cl7 (sim_law08_known k v_27 hv_27) .func .nil rfl) fun _ => jc (op_pickT lb tR rfl tR) <| jc (op_assign lb tR) ?_
   refine JL.nrm ⟨[(2, ov (S rB v_27))], [], []⟩ [] rfl (.cons rfl .nil) rfl <| JL.nil ?_
   try obtain rfl := so hx13
   exact jo rfl rfl rfl
 refine JC.skip <| JQ.then <| bI hm fun tv14 hx14 hq14 => JC.seqK (α := Unit) (γ := Unit) (stj := fun v q => ⟨[(0, ov (S (rL (rV 32 (rU UInt8))) leaves_1)), (4, ov (PTO none)), (5, ov (S (rI .i64) (2 : Int)))], [], []⟩) (p := fun v => tv14 = (.inl v)) (fun v q hv => ?_) ?_
 · subst hv
   skip
   obtain _ := q
   dsimp only at hq14
   refine JC.at ⟨[(0, ov (S (rL (rV 32 (rU UInt8))) leaves_1)), (4, ov (PTO none)), (5, ov (S (rI .i64) (2 : Int)))], [], []⟩ <| bI hq14 fun _ hx18 hq18 => JC.seqJ (γ := Unit) (stj := fun _ => ⟨[(2, ov (S rB false))], [], []⟩) (fun _ => ?_) ?_
   · refine JC.ret ?_
     obtain rfl := so hq18
     exact jd (.val (S rB false)) rfl rfl rfl rfl rfl rfl
   exact JC.region <| jmv rfl rfl <| bI hx18 fun _ hv_u_39 hx18 => jx (op_call (js := []) ld cl9 (sim_law08_num k (2 : Int) () hv_u_39) .func (.cons tR .nil) rfl) fun _ => jc (op_cmpI lb tR .cI (cs (by decide : ((2 : Int) == (0 : Int)) = false))) <| jmv rfl rfl <| jk rfl rfl <| jk rfl rfl <| jk rfl rfl <| jc (op_pickF lb tR rfl .cB) <| jmv rfl rfl <| jk rfl rfl <| jc (op_pickF lb tR rfl .cB) <| jc (op_assign lb tR) <| JL.nil <| jo rfl rfl rfl
 refine jr <| jc (op_assign lb .cI) <| jn <| JC.block <| bI hx14 fun tv15 hL15 hq15 => JC.pre ?_ (JC.loop (γ := Unit) (stf := fun s q => ⟨[(0, ov (S (rL (rV 32 (rU UInt8))) leaves_1)), (3, ov (HDR go_5 0 (List.length s.1) gc_6)), (4, ov (PTO none)), (5, ov (S (rI .i64) (2 : Int))), (6, ov (S (rI .i64) s.2))], [cown go_5 (rV 32 (rU UInt8)) s.1 0 gc_6], []⟩) (q := ()) hL15 ?_)
 · exact (Imp.norm (js := [0]) rfl (.cons rfl (.cons rfl (.cons rfl (.cons rfl (.cons rfl .nil))))))
 intro s q x hx hr
 obtain ⟨own_29, i_30⟩ := s
 obtain _ := q
 change law08_MerkleOf.b2 k leaves_1 own_29 i_30 = some x at hx
 unfold law08_MerkleOf.b2 at hx
 refine JC.at ⟨[(0, ov (S (rL (rV 32 (rU UInt8))) leaves_1)), (3, ov (HDR go_5 0 (List.length own_29) gc_6)), (4, ov (PTO none)), (5, ov (S (rI .i64) (2 : Int))), (6, ov (S (rI .i64) i_30))], [cown go_5 (rV 32 (rU UInt8)) own_29 0 gc_6], []⟩ <| JC.seq <| jr <| jmv rfl rfl <| jmv rfl rfl <| jc (op_lenH lb tu22 tR) <| lI hx fun v_31 hv_31 hx => jc (op_cmpI lb tR tR (cs hv_31)) <| jn <| jif tR hx (fun hc16 hx => ?_) (fun hc16 hx => ?_)
 · refine JC.skip <| JQ.then <| JC.seq <| JC.block <| JC.seq <| JC.seq <| bI hx fun i_32 hv_i_32 hx => bI hx fun v_33 hv_33 hx => bI hx fun v_34 hv_34 hx => ?_
   obtain ⟨v_35, hv_35, hx⟩ := lt1_inv hx
   refine JC.anyF (base := [(0, ov (S (rL (rV 32 (rU UInt8))) leaves_1)), (3, ov (HDR go_5 0 (List.length own_29) gc_6)), (4, ov (PTO none)), (5, ov (S (rI .i64) (2 : Int))), (6, ov (S (rI .i64) i_30))])
       (fs := fun γ => [⟨some 37, ov (HDR go_5 0 (List.length own_29) gc_6)⟩, ⟨some 38, ov (S (rI .i64) i_30)⟩, ⟨some 39, ov (EPT go_5 (i_32 * 32))⟩, ⟨some 40, ov (A (rV 32 (rU UInt8)) v_33)⟩, ⟨some 41, ov (S (rL (rV 32 (rU UInt8))) leaves_1)⟩, ⟨some 42, ov (S (rI .i64) i_30)⟩, ⟨some 43, ov (PT (rV 32 (rU UInt8)) v_34)⟩, ⟨some 44, ov (A (rV 32 (rU UInt8)) v_34)⟩, ⟨some 45, ov (S rB v_35)⟩])
       (rs := fun γ => [⟨cown go_5 (rV 32 (rU UInt8)) own_29 0 gc_6, none, none, [2, 3]⟩])
       (afts := nn 9) (js := [0]) mixed (.cons rfl (.cons rfl (.cons rfl (.cons rfl (.cons rfl .nil))))) (fun _ => rfl)
       (by
      refine db 1 3 <| db 2 6 <| dR 3 (fun γ ρ B hb hd => OpStep.lk ⟨ρ, (cown go_5 (rV 32 (rU UInt8)) own_29 0 gc_6) :: B, _⟩ (op_indexAddrOF (r := (rV 32 (rU UInt8))) (j := 0) lb tu22 tz30 rfl (tl hd 0 37) (tl hd 1 38) hv_i_32)) <| dR 4 (fun γ ρ B hb hd => OpStep.lk ⟨ρ, (cown go_5 (rV 32 (rU UInt8)) own_29 0 gc_6) :: B, _⟩ (op_loadOA (r := (rV 32 (rU UInt8))) (i := i_32) (off := 0) (j := 0) lb tA30 rfl (tl hd 2 39) hv_33 (Comp.self (rV 32 (rU UInt8)) v_33) (by decide))) <| db 5 0 ?_
      refine db 6 6 <| dS 7 (fun γ ρ B hb hd => op_indexAddrLg lb tu22 tz30 (tl hd 4 41) (tl hd 5 42) hv_34) <| dS 8 (fun γ ρ B hb hd => op_loadPAg lb tA30 (tl hd 6 43) rfl) <| dS 9 (fun γ ρ B hb hd => op_neA lb qa30 (by decide) ng30 (tl hd 3 40) (tl hd 7 44) hv_35) ?_
      exact DSteps.nil)
       (by decide +kernel) (fun _ => rfl) (fun _ => rfl) (fun _ => rfl) rfl
       (ρ' := fun γ => [(0, ov (S (rL (rV 32 (rU UInt8))) leaves_1)), (3, ov (HDR go_5 0 (List.length own_29) gc_6)), (4, ov (PTO none)), (5, ov (S (rI .i64) (2 : Int))), (6, ov (S (rI .i64) i_30)), (45, ov (S rB v_35))])
       (X' := fun γ => [cown go_5 (rV 32 (rU UInt8)) own_29 0 gc_6])
       (fun γ ρ hb hd => (.cons (hb 0 _ rfl) (.cons (hb 3 _ rfl) (.cons (hb 4 _ rfl) (.cons (hb 5 _ rfl) (.cons (hb 6 _ rfl) (.cons (hdq hd 8 45 rfl) .nil))))))) (fun _ => rfl) (fun γ => ?_)
   refine JQ.at ⟨[(0, ov (S (rL (rV 32 (rU UInt8))) leaves_1)), (3, ov (HDR go_5 0 (List.length own_29) gc_6)), (4, ov (PTO none)), (5, ov (S (rI .i64) (2 : Int))), (6, ov (S (rI .i64) i_30)), (45, ov (S rB v_35))], [cown go_5 (rV 32 (rU UInt8)) own_29 0 gc_6], []⟩ <| JQ.then <| jif tR hx (fun hc17 hx => ?_) (fun hc17 hx => ?_)
   · refine jr <| jc (op_assign lb .cB) <| jn <| JC.ret <| JQ.outR <| JQ.outRB <| JQ.outR ?_
     try obtain rfl := so hx
     try obtain rfl := hr _ rfl
     dsimp only at hq15
     refine JQ.outR <| JQ.outRB ?_
     try obtain rfl := so hq15
     dsimp only at hq14
     refine JQ.outR ?_
     obtain rfl := so hq14
     exact jd (.val (S rB false)) rfl rfl rfl rfl rfl rfl
   refine JC.skip <| JQ.then <| JC.region <| jmv rfl rfl <| jmv rfl rfl <| jc (op_build lb tZ30 zv30 tp30 .nil rfl) <| bI hx fun i_36 hv_i_36 hx => jc (op_indexAddrOF (r := (rV 32 (rU UInt8))) (j := 0) lb tu22 tz30 rfl tR tR hv_i_36) <| bI hx fun own_37 hv_own_37 hx => jc (op_storeOAg (r := (rV 32 (rU UInt8))) (j := 0) tA30 rfl tR tR hv_own_37) <| JL.pre (Imp.slot (s := 3) (q := HDR go_5 0 (List.length own_37) gc_6) rfl (wkLen (setO'_len hv_own_37))) <| JL.pre (Imp.slot (s := 46) (q := HDR go_5 0 (List.length own_37) gc_6) rfl (wkLen (setO'_len hv_own_37))) <| JL.nil ?_
   refine JQ.outNB <| JQ.then <| JC.region <| jmv rfl rfl <| lI hx fun v_38 hv_38 hx => jc (op_arI lb tR .cI (cs hv_38)) <| jc (op_assign lb tR) <| JL.nil ?_
   try obtain rfl := so hx
   exact JQ.next () rfl (Imp.norm (js := [0]) rfl (.cons rfl (.cons rfl (.cons rfl (.cons rfl (.cons rfl .nil))))))
 refine JC.exit <| JQ.outX ?_
 try obtain rfl := so hx
 try obtain rfl := hr _ rfl
 dsimp only at hq15
 refine JQ.outX <| JQ.here ?_
 try obtain rfl := so hq15
 exact JQ.joinK () () rfl (Imp.norm (js := []) rfl (.cons rfl (.cons rfl (.cons rfl .nil))))

end Go.Proofs.Ytbflmobpbjnekaa
