/- Walks. -/
import Derived.Test.YtbflmobpbjnekaaT
import Derived.Test.YtbflmobpbjnekaaW2
import Derived.Test.YtbflmobpbjnekaaW3
namespace Go.Proofs.Ytbflmobpbjnekaa
open Go Fw
set_option linter.unusedVariables false
set_option maxRecDepth 100000
set_option maxHeartbeats 4000000

theorem sim_merkle_Tree_Leaves_n (k : Nat) (r : Unit) (hm : merkle_Tree_Leaves_n k = some r) : Sim Try.prog 23 [PTO none] [] (γ := Unit) (fun q => []) (fun q => .one (.val (HDR none 0 0 0))) := by
 unfold merkle_Tree_Leaves_n at hm
 refine Sim.of Try.func23 rfl rfl (lE rfl) (fun e0 w0 => ?_)
 refine JC.at ⟨[(0, ov (PTO none))], [], []⟩ <| jr <| jc (op_assign lb HasO.nilH) <| jn <| JC.seq <| jr <| jmv rfl rfl <| bI hm fun _ hv_u_1 hm => jx (op_call (js := []) ld cl29 (sim_merkle_Tree_there_n k () hv_u_1) .func (.cons tR .nil) rfl) fun _ => jc (op_not lb tR rfl) <| jn <| JC.condT tR rfl <| jr <| jc (op_assign lb HasO.nilH) <| jn <| JC.ret ?_
 exact JQ.outR <| JQ.done (js := []) (ss := [.val (HDR none 0 0 0)]) () (.inl rfl) (.nil rfl) rfl (.cons (.tmp rfl) .nil) rfl rfl rfl

theorem sim_merkle_Tree_Same_pn (k : Nat) (t_1 : merkle_Tree) (gb_2 : Nat) (r : Bool) (hm : merkle_Tree_Same_pn k t_1 = some r) : Sim Try.prog 20 [PTR gb_2 0, PTO none] [cvar gb_2 r_merkle_Tree t_1] (γ := Unit) (fun q => [cvar gb_2 r_merkle_Tree t_1]) (fun q => .one (.val (S rB r))) := by
 unfold merkle_Tree_Same_pn at hm
 refine Sim.of Try.func20 rfl rfl (lE rfl) (fun e0 w0 => ?_)
 refine JC.at ⟨[(0, ov (PTR gb_2 0)), (1, ov (PTO none))], [cvar gb_2 r_merkle_Tree t_1], []⟩ <| jr <| jc (op_assign lb .cB) <| jn <| JC.seq <| bI hm fun x_7 hx1 hq1 => JC.seqJ (γ := Unit) (stj := fun _ => ⟨[(0, ov (PTR gb_2 0)), (1, ov (PTO none)), (12, ov (S rB x_7))], [cvar gb_2 r_merkle_Tree t_1], []⟩) (fun _ => ?_) ?_
 · refine jif tR hq1 (fun hc6 hq1 => ?_) (fun hc6 hq1 => ?_)
   · refine jr <| jmv rfl rfl <| bI hq1 fun _ hv_u_8 hq1 => jx (op_call (js := [0]) ld cl29 (sim_merkle_Tree_there k t_1 gb_2 () hv_u_8) .func (.cons tR .nil) rfl) fun _ => jmv rfl rfl <| bI hq1 fun _ hv_u_9 hq1 => jx (op_call (js := []) ld cl29 (sim_merkle_Tree_there_n k () hv_u_9) .func (.cons tR .nil) rfl) fun _ => lI hq1 fun v_10 hv_10 hq1 => jc (op_eqB lb tu4 tR tR hv_10) <| jc (op_assign lb tR) <| jn <| JC.ret ?_
     refine JQ.outR ?_
     obtain rfl := so hq1
     exact JQ.done (js := [0]) (ss := [.val (S rB v_10)]) () (.inl rfl) (.nil rfl) rfl (.cons (.tmp rfl) .nil) rfl rfl rfl
   refine JC.skip <| JQ.then <| jr <| jmv rfl rfl <| bI hq1 fun v_11 hv_11 hq1 => jx (op_call (js := [0]) ld cl23 (sim_merkle_Tree_Leaves k t_1 gb_2 v_11 hv_11) .func (.cons tR .nil) rfl) (fun q => ?_)
   obtain ⟨go_12, gc_13⟩ := q
   refine jmv rfl rfl <| bI hq1 fun _ hv_u_14 hq1 => jx (op_call (js := []) ld cl23 (sim_merkle_Tree_Leaves_n k () hv_u_14) .func (.cons tR .nil) rfl) fun _ => bI hq1 fun v_15 hv_15 hq1 => JL.pre (Imp.frz (j := 0) rfl (ImpK.slotH (s := 19) rfl ImpK.refl)) <| jx (op_call (js := []) ld cl34 (sim_slices_Equalapi_Hash_api_Hash k v_11 ([] : (List (Vector UInt8 32))) v_15 hv_15) .func (.cons (HasO.wk tR wkHL) (.cons (HasO.wk (q := S (rL (rV 32 (rU UInt8))) []) tR wkNil) .nil)) rfl) fun _ => jc (op_assign lb tR) <| jn <| JC.ret ?_
   obtain rfl := so hq1
   exact JQ.done (js := [1]) (ss := [.val (S rB v_15)]) () (.inl rfl) (.nil rfl) rfl (.cons (.tmp rfl) .nil) rfl rfl rfl
 refine JC.region <| jmv rfl rfl <| bI hx1 fun _ hv_u_3 hx1 => jx (op_call (js := [0]) ld cl29 (sim_merkle_Tree_there k t_1 gb_2 () hv_u_3) .func (.cons tR .nil) rfl) fun _ => lI hx1 fun v_4 hv_4 hx1 => jc (op_not lb tR hv_4) <| jmv rfl rfl <| jF (ov (PTO none)) rfl rfl rfl rfl (fun hq_2 => op_move lb tR) <| bI hx1 fun _ hv_u_5 hx1 => jF (ov (S rB false)) rfl rfl rfl rfl (fun hq_3 => (op_call (js := []) ld cl29 (sim_merkle_Tree_there_n k () (ifT hv_u_5 hq_3)) .func (.cons (HasO.cnd tR (notT (notF hq_3))) .nil) rfl).post (fun _ => Imp.refl)) <| jF (ov (S rB true)) rfl rfl rfl rfl (fun hq_4 => op_not lb (HasO.cnd tR (notT (notF hq_4))) rfl) ?_
 refine lI hx1 fun v_6 hv_6 hx1 => jc (op_pickCS lb tR (fun hb5 => .cB) (fun hb5 => (HasO.cnd tR (notT hb5))) hv_6) <| JL.nil ?_
 try obtain rfl := so hx1
 exact JQ.join () (Imp.norm (js := [0]) rfl (.cons rfl (.cons rfl (.cons rfl .nil))))

theorem sim_merkle_Tree_Same_nn (k : Nat) (r : Bool) (hm : merkle_Tree_Same_nn k = some r) : Sim Try.prog 20 [PTO none, PTO none] [] (γ := Unit) (fun q => []) (fun q => .one (.val (S rB r))) := by
 unfold merkle_Tree_Same_nn at hm
 refine Sim.of Try.func20 rfl rfl (lE rfl) (fun e0 w0 => ?_)
 refine JC.at ⟨[(0, ov (PTO none)), (1, ov (PTO none))], [], []⟩ <| jr <| jc (op_assign lb .cB) <| jn <| JC.seq <| bI hm fun _ hx1 hq1 => JC.seqJ (γ := Unit) (stj := fun _ => ⟨[(0, ov (PTO none)), (1, ov (PTO none)), (12, ov (S rB true))], [], []⟩) (fun _ => ?_) ?_
 · refine JC.condT tR rfl <| jr <| jmv rfl rfl <| bI hq1 fun _ hv_u_2 hq1 => jx (op_call (js := []) ld cl29 (sim_merkle_Tree_there_n k () hv_u_2) .func (.cons tR .nil) rfl) fun _ => jmv rfl rfl <| bI hq1 fun _ hv_u_3 hq1 => jx (op_call (js := []) ld cl29 (sim_merkle_Tree_there_n k () hv_u_3) .func (.cons tR .nil) rfl) fun _ => lI hq1 fun v_4 hv_4 hq1 => jc (op_eqB lb tu4 tR tR hv_4) <| jc (op_assign lb tR) <| jn ?_
   refine JC.ret <| JQ.outR ?_
   obtain rfl := so hq1
   exact jd (.val (S rB v_4)) rfl rfl rfl rfl rfl rfl
 exact JC.region <| jmv rfl rfl <| bI hx1 fun _ hv_u_1 hx1 => jx (op_call (js := []) ld cl29 (sim_merkle_Tree_there_n k () hv_u_1) .func (.cons tR .nil) rfl) fun _ => jc (op_not lb tR rfl) <| jmv rfl rfl <| jk rfl rfl <| jk rfl rfl <| jk rfl rfl <| jc (op_pickT lb tR rfl .cB) <| JL.nil <| JQ.join () (Imp.norm (js := []) rfl (.cons rfl (.cons rfl (.cons rfl .nil))))

theorem sim_merkle_Tree_Diff_nn (k : Nat) (r : Unit) (hm : merkle_Tree_Diff_nn k = some r) : Sim Try.prog 24 [PTO none, PTO none] [] (γ := Unit) (fun q => []) (fun q => .tup [.val (HDR none 0 0 0), .val (S (rI .i64) (0 : Int)), .val (S (rI .i64) (1 : Int))]) := by
 unfold merkle_Tree_Diff_nn at hm
 refine Sim.of Try.func24 rfl rfl (lE rfl) (fun e0 w0 => ?_)
 refine JC.at ⟨[(0, ov (PTO none)), (1, ov (PTO none))], [], []⟩ <| jr <| jx (op_boxW lb tR) fun gb_1 => jx (op_boxW lb tR) fun gb_2 => jc (op_assign lb HasO.nilH) <| jc (op_assign lb .cI) <| jc (op_assign lb .cI) <| jn <| JC.seq <| bI hm fun _ hx1 hq1 => JC.seqJ (γ := Unit) (stj := fun _ => ⟨[(2, ov (PTR gb_1 0)), (3, ov (PTR gb_2 0)), (17, ov (S rB true))], [cvar gb_1 (rW (PTO none)) (), cvar gb_2 (rW (PTO none)) ()], []⟩) (fun _ => ?_) ?_
 · exact JC.condT tR rfl <| jr <| jc (op_assign lb HasO.nilH) <| jc (op_assign lb .cI) <| jc (op_assign lb .cI) <| jn <| JC.ret <| JQ.outR <| JQ.done (js := []) (ss := [.val (HDR none 0 0 0), .val (S (rI .i64) (0 : Int)), .val (S (rI .i64) (1 : Int))]) () (.inl rfl) (.nil rfl) rfl (.cons (.tmp rfl) (.cons (.tmp rfl) (.cons (.tmp rfl) .nil))) rfl rfl rfl
 exact JC.region <| jc (op_loadW (j := 0) lb tS24 tR rfl (Comp.self (rW (PTO none)) ())) <| bI hx1 fun _ hv_u_3 hx1 => jx (op_call (js := []) ld cl29 (sim_merkle_Tree_there_n k () hv_u_3) .func (.cons tR .nil) rfl) fun _ => jc (op_not lb tR rfl) <| JL.sub ⟨[(2, ov (PTR gb_1 0)), (3, ov (PTR gb_2 0)), (12, ov (S rB true))], [cvar gb_1 (rW (PTO none)) (), cvar gb_2 (rW (PTO none)) ()], []⟩ (.cons rfl (.cons rfl (.cons rfl .nil))) rfl rfl <| jmv rfl rfl <| jk rfl rfl <| jk rfl rfl <| jk rfl rfl <| jc (op_pickT lb tR rfl .cB) <| JL.nil <| JQ.join () (Imp.norm (js := [0, 0]) rfl (.cons rfl (.cons rfl (.cons rfl .nil))))

theorem sim_merkle_Tree_Diff_pn (k : Nat) (t_1 : merkle_Tree) (gb_2 : Nat) (r : Unit) (hm : merkle_Tree_Diff_pn k t_1 = some r) : Sim Try.prog 24 [PTR gb_2 0, PTO none] [cvar gb_2 r_merkle_Tree t_1] (γ := Unit) (fun q => [cvar gb_2 r_merkle_Tree t_1]) (fun q => .tup [.val (HDR none 0 0 0), .val (S (rI .i64) (0 : Int)), .val (S (rI .i64) (1 : Int))]) := by
 unfold merkle_Tree_Diff_pn at hm
 refine Sim.of Try.func24 rfl rfl (lE rfl) (fun e0 w0 => ?_)
 refine JC.at ⟨[(0, ov (PTR gb_2 0)), (1, ov (PTO none))], [cvar gb_2 r_merkle_Tree t_1], []⟩ <| jr <| jx (op_boxW lb tR) fun gb_3 => jx (op_boxW lb tR) fun gb_4 => jc (op_assign lb HasO.nilH) <| jc (op_assign lb .cI) <| jc (op_assign lb .cI) <| jn <| JC.seq <| bI hm fun x_9 hx1 hq1 => JC.seqJ (γ := Unit) (stj := fun _ => ⟨[(2, ov (PTR gb_3 0)), (3, ov (PTR gb_4 0)), (17, ov (S rB x_9))], [cvar gb_3 (rW (PTR gb_2 0)) (), cvar gb_2 r_merkle_Tree t_1, cvar gb_4 (rW (PTO none)) ()], []⟩) (fun _ => ?_) ?_
 · refine jif tR hq1 (fun hc6 hq1 => ?_) (fun hc6 hq1 => ?_)
   · exact jr <| jc (op_assign lb HasO.nilH) <| jc (op_assign lb .cI) <| jc (op_assign lb .cI) <| jn <| JC.ret <| JQ.outR <| JQ.done (js := [1]) (ss := [.val (HDR none 0 0 0), .val (S (rI .i64) (0 : Int)), .val (S (rI .i64) (1 : Int))]) () (.inl rfl) (.nil rfl) rfl (.cons (.tmp rfl) (.cons (.tmp rfl) (.cons (.tmp rfl) .nil))) rfl rfl rfl
   refine JC.skip <| JQ.then <| jr <| jx (op_alloc lb tZ53 zr53) fun gb_10 => jn <| jr <| jx (op_alloc lb tZ3 zr3) fun gb_11 => jc (op_storeS (j := 4) tS3 tR .cI rfl rfl (UpdR.self (by rfl)) rfl) <| jn <| jr <| jx (op_alloc lb tZ57 zr57) fun gb_12 => jn <| jr <| jc (op_makeFunc lb (.cons tR (.cons tR (.cons tR (.cons tR (.cons tR .nil)))))) <| jc (op_storeW (j := 5) tS57 tR tR rfl (UpdR.self (by rfl)) rfl) <| JL.sub ⟨[(7, ov (PTR gb_10 0)), (8, ov (PTR gb_11 0)), (9, ov (PTR gb_12 0))], [cvar gb_3 (rW (PTR gb_2 0)) (), cvar gb_2 r_merkle_Tree t_1, cvar gb_4 (rW (PTO none)) (), cvar gb_10 (rW (HDR none 0 0 0)) (), cvar gb_11 (rI .i64) (0 : Int), zq4 gb_12 gb_11 gb_3 gb_4 gb_10], []⟩ (.cons rfl (.cons rfl (.cons rfl .nil))) rfl rfl ?_
   refine jn <| jr <| jc (op_loadW (j := 5) lb tS57 tR rfl (Comp.self (rW (CLO 35 [PTR gb_11 0, PTR gb_3 0, PTR gb_4 0, PTR gb_10 0, PTR gb_12 0])) ())) ?_
   cases hq1
 refine JC.region <| jc (op_loadW (j := 1) lb tS24 tR rfl (Comp.self (rW (PTR gb_2 0)) ())) <| bI hx1 fun _ hv_u_5 hx1 => jx (op_call (js := [0]) ld cl29 (sim_merkle_Tree_there k t_1 gb_2 () hv_u_5) .func (.cons tR .nil) rfl) fun _ => JL.sub ⟨[(2, ov (PTR gb_3 0)), (3, ov (PTR gb_4 0)), (11, ov (S rB t_1.is))], [cvar gb_2 r_merkle_Tree t_1, cvar gb_3 (rW (PTR gb_2 0)) (), cvar gb_4 (rW (PTO none)) ()], []⟩ (.cons rfl (.cons rfl (.cons rfl .nil))) rfl rfl <| lI hx1 fun v_6 hv_6 hx1 => jc (op_not lb tR hv_6) <| jmv rfl rfl <| jF (ov (PTO none)) rfl rfl rfl rfl (fun hq_2 => op_loadW (j := 2) lb tS24 tR rfl (Comp.self (rW (PTO none)) ())) <| bI hx1 fun _ hv_u_7 hx1 => jF (ov (S rB false)) rfl rfl rfl rfl (fun hq_3 => (op_call (js := []) ld cl29 (sim_merkle_Tree_there_n k () (ifT hv_u_7 hq_3)) .func (.cons (HasO.cnd tR (notT (notF hq_3))) .nil) rfl).post (fun _ => Imp.refl)) ?_
 refine jF (ov (S rB true)) rfl rfl rfl rfl (fun hq_4 => op_not lb (HasO.cnd tR (notT (notF hq_4))) rfl) <| lI hx1 fun v_8 hv_8 hx1 => jc (op_pickCS lb tR (fun hb5 => .cB) (fun hb5 => (HasO.cnd tR (notT hb5))) hv_8) <| JL.nil ?_
 try obtain rfl := so hx1
 exact JQ.join () (Imp.norm (js := [1, 0, 0]) rfl (.cons rfl (.cons rfl (.cons rfl .nil))))

end Go.Proofs.Ytbflmobpbjnekaa
