/- Walks. -/
import Derived.Test.YtklnihlchhhhlaaT
import Derived.Test.YtklnihlchhhhlaaH
import Derived.Test.YtklnihlchhhhlaaW10
import Derived.Test.YtklnihlchhhhlaaW2
import Derived.Test.YtklnihlchhhhlaaW7
import Derived.Test.YtklnihlchhhhlaaW8
namespace Go.Proofs.Ytklnihlchhhhlaa
open Go Fw
set_option linter.unusedVariables false
set_option maxRecDepth 100000
set_option maxHeartbeats 4000000

theorem sim_wire_Reader_Failed'2 (k : Nat) (r_1 : wire_Reader) (gb_2 : Nat) (r : Bool) (hm : wire_Reader_Failed'2 k r_1 = some r) : Sim Try.prog 69 [PTR gb_2 0] [cvar gb_2 r_wire_Reader r_1] (γ := Unit) (fun q => [cvar gb_2 r_wire_Reader r_1]) (fun q => .one (.val (S rB r))) := by
 unfold wire_Reader_Failed'2 at hm
 refine Sim.of Try.func69 rfl rfl (lE rfl) (fun e0 w0 => ?_)
 refine JC.at ⟨[(0, ov (PTR gb_2 0))], [cvar gb_2 r_wire_Reader r_1], []⟩ ?_
 refine jr <| jc (op_assign lb .cB) <| jn ?_
 replace hm := bnd_inv hm
 obtain ⟨x_4, hx1, hq1⟩ := hm
 refine JC.seqJ (γ := Unit) (stj := fun _ => ⟨[(2, ov (S rB x_4))], [cvar gb_2 r_wire_Reader r_1], []⟩) (fun _ => ?_) ?_
 · refine JC.ret ?_
   replace hq1 := Option.some.inj hq1
   subst hq1
   exact JQ.done (js := [0]) (ss := [.val (S rB x_4)]) () (.inl rfl) (.nil rfl) rfl (.cons (.tmp rfl) .nil) rfl rfl rfl
 refine JC.region <| jmv rfl rfl <| jc (op_nilP (neg := false) lb tu64 (.tmp rfl) (HasO.const (p := PTO none) fun _ => rfl)) <| jmv rfl rfl ?_
 refine JL.run (.yes rfl (ltB rfl) rfl rfl) (op_move lb (.tmp rfl)) ?_
 refine JL.run (.yes rfl (ltB rfl) rfl rfl) (op_nilCheck lb (.tmp rfl) (fun e v h => by subst h; rfl)) ?_
 refine JL.run (.yes rfl (ltB rfl) rfl rfl) (op_fieldAddr (off := 1) lb tf98_1 (.tmp rfl)) ?_
 refine JL.run (.yes rfl (ltB rfl) rfl rfl) (op_loadS (j := 0) lb tS4 (.tmp rfl) rfl (cT (comp_wire_Reader_is r_1) rfl) rfl rfl) ?_
 replace hx1 := lt1_inv hx1
 obtain ⟨v_3, hv_v_3, hx1⟩ := hx1
 refine JL.run (.yes rfl (ltB rfl) rfl rfl) (op_not lb (.tmp rfl) hv_v_3) ?_
 refine jc (op_pickF lb (.tmp rfl) rfl (.tmp rfl)) <| jc (op_assign lb (.tmp rfl)) <| JL.nil ?_
 replace hx1 := Option.some.inj hx1
 first | subst hx1 | clear hx1
 exact JQ.join () (Imp.norm (js := [0]) rfl (.cons rfl .nil))

theorem sim_wire_Reader_take'2 (k : Nat) (n_1 : Int) (r_2 : wire_Reader) (gb_3 : Nat) (r : (List UInt8) × Bool × wire_Reader) (hm : wire_Reader_take'2 k n_1 r_2 = some r) : Sim Try.prog 40 [PTR gb_3 0, S (rI .i64) n_1] [cvar gb_3 r_wire_Reader r_2] (γ := Unit) (fun q => [cvar gb_3 r_wire_Reader r.2.2]) (fun q => .tup [.val (S (rL (rU UInt8)) r.1), .val (S rB r.2.1)]) := by
 unfold wire_Reader_take'2 at hm
 refine Sim.of Try.func40 rfl rfl (lE rfl) (fun e0 w0 => ?_)
 refine JC.at ⟨[(0, ov (PTR gb_3 0)), (1, ov (S (rI .i64) n_1))], [cvar gb_3 r_wire_Reader r_2], []⟩ ?_
 refine jr <| jc (op_assign lb HasO.nilH) <| jc (op_assign lb .cB) <| jn <| JC.seq ?_
 refine JC.block <| jr <| jmv rfl rfl ?_
 replace hm := bnd_inv hm
 obtain ⟨v_4, hv_v_4, hm⟩ := hm
 refine jx (op_call (js := [0]) ld cl69 (sim_wire_Reader_Failed'2 k r_2 gb_3 v_4 hv_v_4) .func (.cons (.tmp rfl) .nil) rfl) (fun _ => ?_)
 refine jc (op_assign lb (.tmp rfl)) <| jn ?_
 replace hm := iteB_inv hm
 rcases hm with ⟨hc1, hm⟩ | ⟨hc1, hm⟩
 · refine JC.condT (.tmp rfl) hc1 ?_
   refine jr <| jc (op_assign lb HasO.nilH) <| jc (op_assign lb .cB) <| jn ?_
   refine JC.ret ?_
   refine JQ.outRB ?_
   refine JQ.outR ?_
   replace hm := Option.some.inj hm
   subst hm
   refine JQ.pre (Imp.slot (s := 4) (q := S (rL (rU UInt8)) ([] : (List UInt8))) rfl wkNil) ?_
   exact JQ.done (js := [0]) (ss := [.val (S (rL (rU UInt8)) ([] : (List UInt8))), .val (S rB false)]) () (.inl rfl) (.nil rfl) rfl (.cons (.tmp rfl) (.cons (.tmp rfl) .nil)) rfl rfl rfl
 refine JC.condF (.tmp rfl) hc1 ?_
 replace hm := bnd_inv hm
 obtain ⟨x_7, hx2, hq2⟩ := hm
 refine JC.seqJ (γ := Unit) (stj := fun _ => ⟨[(0, ov (PTR gb_3 0)), (1, ov (S (rI .i64) n_1)), (10, ov (S rB x_7))], [cvar gb_3 r_wire_Reader r_2], []⟩) (fun _ => ?_) ?_
 · replace hq2 := iteB_inv hq2
   rcases hq2 with ⟨hc6, hq2⟩ | ⟨hc6, hq2⟩
   · refine JC.condT (.tmp rfl) hc6 ?_
     refine jr <| jmv rfl rfl <| jc (op_build lb tZ98 zr98 tp98 (.S (off := 2) rfl .cB rfl ((UpdR.snd (UpdR.snd (UpdR.fst (UpdR.self (by rfl))))).at (by rfl)) .nil) rfl) <| jc (op_nilCheck lb (.tmp rfl) (fun e v h => by subst h; rfl)) <| jc (op_storeA (j := 0) tA98 (.tmp rfl) (.tmp rfl) rfl (UpdR.self (by rfl)) rfl) ?_
     refine jn <| jr <| jc (op_assign lb HasO.nilH) <| jc (op_assign lb .cB) <| jn ?_
     refine JC.ret ?_
     refine JQ.outRB ?_
     refine JQ.outR ?_
     replace hq2 := Option.some.inj hq2
     subst hq2
     refine JQ.pre (Imp.slot (s := 4) (q := S (rL (rU UInt8)) ([] : (List UInt8))) rfl wkNil) ?_
     refine JQ.pre (Imp.var (j := 0) (q := r_wire_Reader) (y := (wire_Reader.mk ([] : (List UInt8)) false true)) rfl (Wk.st (Wk.pair Wk.nil (Wk.pair Wk.refl (Wk.pair Wk.refl Wk.refl))))) ?_
     exact JQ.done (js := [0]) (ss := [.val (S (rL (rU UInt8)) ([] : (List UInt8))), .val (S rB false)]) () (.inl rfl) (.nil rfl) rfl (.cons (.tmp rfl) (.cons (.tmp rfl) .nil)) rfl rfl rfl
   refine JC.condF (.tmp rfl) hc6 ?_
   refine JC.skip ?_
   refine JQ.outNB ?_
   refine JQ.then <| jr <| jmv rfl rfl <| jc (op_nilCheck lb (.tmp rfl) (fun e v h => by subst h; rfl)) <| jc (op_fieldAddr (off := 0) lb tf98_0 (.tmp rfl)) ?_
   refine jc (op_loadS (j := 0) lb tS25 (.tmp rfl) rfl (cT (comp_wire_Reader_rest r_2) rfl) rfl rfl) <| jmv rfl rfl <| jmv rfl rfl ?_
   replace hq2 := bnd_inv hq2
   obtain ⟨v_8, hv_v_8, hq2⟩ := hq2
   refine jc (op_sliceLcg lb tu25 tz5 (.tmp rfl) .none (.some (.tmp rfl)) (.some (.tmp rfl)) hv_v_8) <| jc (op_assign lb (.tmp rfl)) <| jn <| jr <| jmv rfl rfl ?_
   refine jmv rfl rfl <| jc (op_nilCheck lb (.tmp rfl) (fun e v h => by subst h; rfl)) <| jc (op_fieldAddr (off := 0) lb tf98_0 (.tmp rfl)) ?_
   refine JL.sub ⟨[(1, ov (S (rI .i64) n_1)), (6, ov (S (rLc (rU UInt8)) v_8)), (32, ov (PTR gb_3 0)), (35, ov (PTR gb_3 (0 + 0)))], [cvar gb_3 r_wire_Reader r_2], []⟩ (.cons rfl (.cons rfl (.cons rfl (.cons rfl .nil)))) rfl rfl ?_
   refine jc (op_loadS (j := 0) lb tS25 (.tmp rfl) rfl (cT (comp_wire_Reader_rest r_2) rfl) rfl rfl) <| jmv rfl rfl ?_
   replace hq2 := bnd_inv hq2
   obtain ⟨v_9, hv_v_9, hq2⟩ := hq2
   refine jc (op_sliceLg lb tu25 tz5 (.tmp rfl) (.some (.tmp rfl)) .none hv_v_9) <| jc (op_nilCheck lb (.tmp rfl) (fun e v h => by subst h; rfl)) <| jc (op_fieldAddr (off := 0) lb tf98_0 (.tmp rfl)) ?_
   replace hq2 := lt1_inv hq2
   obtain ⟨x_10, hv_x_10, hq2⟩ := hq2
   refine jc (op_storeS (j := 0) tS25 (.tmp rfl) (.tmp rfl) rfl rfl (Upd.trans (Comp.self r_wire_Reader r_2) (Upd.self r_wire_Reader r_2 _) (upd_wire_Reader_rest r_2 v_9)).R hv_x_10) <| jn <| jr <| jmv rfl rfl <| jc (op_assign lb (.tmp rfl)) ?_
   refine jc (op_assign lb .cB) <| jn ?_
   refine JC.ret ?_
   replace hq2 := Option.some.inj hq2
   subst hq2
   refine JQ.pre (Imp.slotS (s := 4) rfl Wk.clip) ?_
   exact JQ.done (js := [0]) (ss := [.val (S (rL (rU UInt8)) v_8), .val (S rB true)]) () (.inl rfl) (.nil rfl) rfl (.cons (.tmp rfl) (.cons (.tmp rfl) .nil)) rfl rfl rfl
 refine JC.region <| jmv rfl rfl ?_
 replace hx2 := lt1_inv hx2
 obtain ⟨v_5, hv_v_5, hx2⟩ := hx2
 refine jc (op_cmpI lb (.tmp rfl) .cI (congrArg some hv_v_5)) <| jmv rfl rfl ?_
 refine JL.cnd (sv := ov (S (rI .i64) n_1)) (Guard.isF (ltB rfl) rfl rfl) rfl (ltB rfl) (fun hq_3 => op_move lb (.tmp rfl)) ?_
 replace hx2 := iteB_inv hx2
 rcases hx2 with ⟨hc5, hx2⟩ | ⟨hc5, hx2⟩
 · refine JL.sk (.no rfl (ltB rfl) rfl hc5) <| JL.sk (.no rfl (ltB rfl) rfl hc5) <| JL.sk (.no rfl (ltB rfl) rfl hc5) <| JL.sk (.no rfl (ltB rfl) rfl hc5) <| JL.sk (.no rfl (ltB rfl) rfl hc5) ?_
   refine JL.sk (.no rfl (ltB rfl) rfl hc5) <| jc (op_pickT lb (.tmp rfl) hc5 .cB) ?_
   refine JL.sub ⟨[(0, ov (PTR gb_3 0)), (1, ov (S (rI .i64) n_1)), (21, ov (S rB true))], [cvar gb_3 r_wire_Reader r_2], []⟩ (.cons rfl (.cons rfl (.cons rfl .nil))) rfl rfl ?_
   refine jc (op_assign lb (.tmp rfl)) <| JL.nil ?_
   replace hx2 := Option.some.inj hx2
   first | subst hx2 | clear hx2
   exact JQ.join () (Imp.norm (js := [0]) rfl (.cons rfl (.cons rfl (.cons rfl .nil))))
 refine JL.run (.yes rfl (ltB rfl) rfl hc5) (op_move lb (.tmp rfl)) ?_
 refine JL.sub ⟨[(0, ov (PTR gb_3 0)), (1, ov (S (rI .i64) n_1)), (13, ov (S rB v_5)), (14, bif (!v_5) then ov (S (rI .i64) n_1) else .one .und), (15, ov (PTR gb_3 0))], [cvar gb_3 r_wire_Reader r_2], []⟩ (.cons rfl (.cons rfl (.cons rfl (.cons rfl (.cons rfl .nil))))) rfl rfl ?_
 refine JL.run (.yes rfl (ltB rfl) rfl hc5) (op_nilCheck lb (.tmp rfl) (fun e v h => by subst h; rfl)) ?_
 refine JL.run (.yes rfl (ltB rfl) rfl hc5) (op_fieldAddr (off := 0) lb tf98_0 (.tmp rfl)) ?_
 refine JL.run (.yes rfl (ltB rfl) rfl hc5) (op_loadS (j := 0) lb tS25 (.tmp rfl) rfl (cT (comp_wire_Reader_rest r_2) rfl) rfl rfl) ?_
 refine JL.run (.yes rfl (ltB rfl) rfl hc5) (op_lenL lb tu25 (.tmp rfl)) ?_
 replace hx2 := lt1_inv hx2
 obtain ⟨v_6, hv_v_6, hx2⟩ := hx2
 refine JL.run (.yes rfl (ltB rfl) rfl hc5) (op_cmpI lb (HasO.cnd (.tmp rfl) (notT hc5)) (.tmp rfl) (congrArg some hv_v_6)) ?_
 refine jc (op_pickF lb (.tmp rfl) hc5 (.tmp rfl)) <| jc (op_assign lb (.tmp rfl)) <| JL.nil ?_
 replace hx2 := Option.some.inj hx2
 first | subst hx2 | clear hx2
 exact JQ.join () (Imp.norm (js := [0]) rfl (.cons rfl (.cons rfl (.cons rfl .nil))))

theorem sim_wire_Reader_Number'2 (k : Nat) (size_1 : Int) (r_2 : wire_Reader) (gb_3 : Nat) (r : UInt64 × wire_Reader) (hm : wire_Reader_Number'2 k size_1 r_2 = some r) : Sim Try.prog 18 [PTR gb_3 0, S (rI .i64) size_1] [cvar gb_3 r_wire_Reader r_2] (γ := Unit) (fun q => [cvar gb_3 r_wire_Reader r.2]) (fun q => .one (.val (S (rU UInt64) r.1))) := by
 unfold wire_Reader_Number'2 at hm
 refine Sim.of Try.func18 rfl rfl (lE rfl) (fun e0 w0 => ?_)
 refine JC.at ⟨[(0, ov (PTR gb_3 0)), (1, ov (S (rI .i64) size_1))], [cvar gb_3 r_wire_Reader r_2], []⟩ ?_
 refine jr <| jc (op_assign lb (HasO.cU (x := (0 : UInt64)) rfl (by decide))) <| jn ?_
 replace hm := bnd_inv hm
 obtain ⟨size_8, hx1, hq1⟩ := hm
 refine JC.seqJ (γ := Unit) (stj := fun _ => ⟨[(0, ov (PTR gb_3 0)), (1, ov (S (rI .i64) size_8))], [cvar gb_3 r_wire_Reader r_2], []⟩) (fun _ => ?_) ?_
 · refine jr <| jmv rfl rfl <| jmv rfl rfl ?_
   replace hq1 := bnd_inv hq1
   obtain ⟨⟨v_9, v_10, x_11⟩, hv_v_9, hq1⟩ := hq1
   refine jx (op_call (js := [0]) ld cl40 (sim_wire_Reader_take'2 k size_8 r_2 gb_3 (v_9, v_10, x_11) hv_v_9) .func (.cons (.tmp rfl) (.cons (.tmp rfl) .nil)) rfl) (fun _ => ?_)
   refine jmv rfl rfl <| jc (op_extract (i := 0) lb (.tmp rfl) rfl) <| jc (op_extract (i := 1) lb (.tmp rfl) rfl) <| jc (op_assign lb (.tmp rfl)) <| jc (op_assign lb (.tmp rfl)) ?_
   refine jn <| jr <| jmv rfl rfl ?_
   replace hq1 := bnd_inv hq1
   obtain ⟨⟨v_12, v_13⟩, hv_v_12, hq1⟩ := hq1
   refine jx (op_call (js := []) ld cl41 (sim_wire_Get k v_9 (v_12, v_13) hv_v_12) .func (.cons (.tmp rfl) .nil) rfl) (fun _ => ?_)
   refine JL.sub ⟨[(23, .tup [.val (S (rU UInt64) v_12), .val (S (rI .i64) v_13)])], [cvar gb_3 r_wire_Reader x_11], []⟩ (.cons rfl .nil) rfl rfl ?_
   refine jmv rfl rfl <| jc (op_extract (i := 0) lb (.tmp rfl) rfl) <| jc (op_extract (i := 1) lb (.tmp rfl) rfl) <| jc (op_assign lb (.tmp rfl)) <| jc (op_assign lb (.tmp rfl)) ?_
   refine jn <| jr <| jmv rfl rfl <| jc (op_assign lb (.tmp rfl)) <| jn ?_
   refine JC.ret ?_
   replace hq1 := Option.some.inj hq1
   subst hq1
   exact JQ.done (js := [0]) (ss := [.val (S (rU UInt64) v_12)]) () (.inl rfl) (.nil rfl) rfl (.cons (.tmp rfl) .nil) rfl rfl rfl
 replace hx1 := bnd_inv hx1
 obtain ⟨x_7, hx2, hq2⟩ := hx1
 refine JC.seqJ (γ := Unit) (stj := fun _ => ⟨[(0, ov (PTR gb_3 0)), (1, ov (S (rI .i64) size_1)), (14, ov (S rB x_7))], [cvar gb_3 r_wire_Reader r_2], []⟩) (fun _ => ?_) ?_
 · replace hq2 := iteB_inv hq2
   rcases hq2 with ⟨hc6, hq2⟩ | ⟨hc6, hq2⟩
   · refine JC.condT (.tmp rfl) hc6 ?_
     refine JC.region <| jc (op_assign lb .cI) <| JL.nil ?_
     replace hq2 := Option.some.inj hq2
     first | subst hq2 | clear hq2
     exact JQ.join () (Imp.norm (js := [0]) rfl (.cons rfl (.cons rfl .nil)))
   refine JC.condF (.tmp rfl) hc6 ?_
   refine JC.skip ?_
   replace hq2 := Option.some.inj hq2
   first | subst hq2 | clear hq2
   exact JQ.join () (Imp.norm (js := [0]) rfl (.cons rfl (.cons rfl .nil)))
 refine JC.region <| jmv rfl rfl ?_
 replace hx2 := lt1_inv hx2
 obtain ⟨v_4, hv_v_4, hx2⟩ := hx2
 refine jc (op_cmpI lb (.tmp rfl) .cI (congrArg some hv_v_4)) <| jmv rfl rfl ?_
 refine JL.cnd (sv := ov (S (rI .i64) size_1)) (Guard.isF (ltB rfl) rfl rfl) rfl (ltB rfl) (fun hq_3 => op_move lb (.tmp rfl)) ?_
 replace hx2 := lt1_inv hx2
 obtain ⟨v_5, hv_v_5, hx2⟩ := hx2
 refine JL.cnd (sv := ov (S rB v_5)) (Guard.isF (ltB rfl) rfl rfl) rfl (ltB rfl) (fun hq_4 => op_cmpI lb (HasO.cnd (.tmp rfl) (notT (notF hq_4))) .cI (congrArg some hv_v_5)) ?_
 replace hx2 := lt1_inv hx2
 obtain ⟨v_6, hv_v_6, hx2⟩ := hx2
 refine jc (op_pickCS lb (.tmp rfl) (fun hb5 => .cB) (fun hb5 => (HasO.cnd (.tmp rfl) (notT hb5))) hv_v_6) <| JL.nil ?_
 replace hx2 := Option.some.inj hx2
 first | subst hx2 | clear hx2
 exact JQ.join () (Imp.norm (js := [0]) rfl (.cons rfl (.cons rfl (.cons rfl .nil))))

theorem sim_frame_Of (k : Nat) (r : Unit) (hm : frame_Of k = some r) : Sim Try.prog 8 [S (rL (rU UInt8)) ([] : (List UInt8))] [] (γ := Unit) (fun q => []) (fun q => .tup [.val (A r_api_Frame (api_Frame.mk (0 : Int) (0 : Int) (0 : Int) ([] : (List api_Item)) (api_Event.mk (api_Dot.mk (0 : Int) (0 : UInt64)) ([] : (List UInt8)) ([] : (List UInt8)) (Vector.replicate 16 (0 : UInt64)) ([] : (List api_Dest))) (Vector.replicate 16 (0 : UInt64)) (Vector.replicate 16 (0 : UInt64)) ([] : (List api_Dot)) ([] : (List api_Dot)) (Vector.replicate 32 (0 : UInt8)) ([] : (List (Vector UInt8 32))) ([] : (List Int)) false)), .val (S (rI .i64) (4 : Int))]) := by
 unfold frame_Of at hm
 refine Sim.of Try.func8 rfl rfl (lE rfl) (fun e0 w0 => ?_)
 refine JC.at ⟨[(0, ov (S (rL (rU UInt8)) ([] : (List UInt8))))], [], []⟩ ?_
 refine jr ?_
 refine jx (op_alloc lb tZ50 zr50) (fun q => ?_)
 obtain ⟨gb_1, hqq⟩ : ∃ z, z = q := ⟨_, rfl⟩
 subst hqq
 refine jc (op_assign lb .cI) <| jn <| jr <| jmv rfl rfl ?_
 replace hm := bnd_inv hm
 obtain ⟨v_2, hv_v_2, hm⟩ := hm
 obtain rfl := h_Read hv_v_2
 refine jx (op_call (js := []) ld cl17 (sim_wire_Read k ([] : (List UInt8)) ([] : (List UInt8)) hv_v_2) .func (.cons (.tmp rfl) .nil) rfl) (fun q => ?_)
 obtain ⟨gb_3, go_4, gc_5⟩ := q
 refine jc (op_build lb tZ67 zr67 tp67 (.S (off := 0) (s := rW (PTR gb_3 0)) (u := ()) rfl (HasO.wk (q := S (rW (PTR gb_3 0)) ()) (.tmp rfl) wkV) rfl ((UpdR.fst (UpdR.self (by rfl))).at (by rfl)) .nil) rfl) ?_
 refine jx (op_boxA lb (.tmp rfl)) (fun q => ?_)
 obtain ⟨gb_6, hqq⟩ : ∃ z, z = q := ⟨_, rfl⟩
 subst hqq
 refine JL.sub ⟨[(0, ov (S (rL (rU UInt8)) ([] : (List UInt8)))), (2, ov (PTR gb_1 0)), (10, ov (PTR gb_6 0))], [cvar gb_3 (zq26 go_4 gc_5) ((), (true, (true, ()))), cown go_4 (rU UInt8) ([] : (List UInt8)) 0 gc_5, cvar gb_1 zq0 zq1, cvar gb_6 (zq27 gb_3) zq25], []⟩ (.cons rfl (.cons rfl (.cons rfl .nil))) rfl rfl ?_
 refine jc (op_assign lb (.tmp rfl)) <| jn <| JC.seq ?_
 replace hm := bnd_inv hm
 obtain ⟨⟨v_7, x_8⟩, hv_v_7, hm⟩ := hm
 obtain ⟨rfl, rfl⟩ := h_Num hv_v_7
 replace hm := lt1_inv hm
 obtain ⟨v_9, hv_v_9, hm⟩ := hm
 obtain rfl := h_w0 hv_v_9
 replace hm := bnd_inv hm
 obtain ⟨⟨v_10, x_11⟩, hv_v_10, hm⟩ := hm
 obtain ⟨rfl, rfl⟩ := h_Num2 hv_v_10
 replace hm := lt1_inv hm
 obtain ⟨v_12, hv_v_12, hm⟩ := hm
 obtain rfl := h_w0 hv_v_12
 replace hm := bnd_inv hm
 obtain ⟨⟨v_13, x_14⟩, hv_v_13, hm⟩ := hm
 obtain ⟨rfl, rfl⟩ := h_Num2 hv_v_13
 replace hm := lt1_inv hm
 obtain ⟨v_15, hv_v_15, hm⟩ := hm
 obtain rfl := h_w0 hv_v_15
 refine JC.anyE (kl := []) (kk := 0) (base := [(0, ov (S (rL (rU UInt8)) ([] : (List UInt8)))), (2, ov (PTR gb_1 0)), (4, ov (PTR gb_6 0))])
     (fs := fun γ => [⟨some 11, ov (PTR gb_6 0)⟩, ⟨some 12, ov (PTR gb_6 0)⟩, ⟨some 13, ov (PTR gb_6 0)⟩, ⟨some 14, ov (PTR gb_6 (0 + 0))⟩, ⟨some 15, ov (PTR gb_3 0)⟩, ⟨some 16, ov (S (rU UInt64) (0 : UInt64))⟩, ⟨some 17, ov (S (rI .i64) (0 : Int))⟩, ⟨some 18, ov (PTR gb_6 0)⟩, ⟨some 19, ov (PTR gb_6 0)⟩, ⟨some 20, ov (PTR gb_6 (0 + 0))⟩, ⟨some 21, ov (PTR gb_3 0)⟩, ⟨some 22, ov (S (rU UInt64) (0 : UInt64))⟩, ⟨some 23, ov (S (rI .i64) (0 : Int))⟩, ⟨some 24, ov (PTR gb_6 0)⟩, ⟨some 25, ov (PTR gb_6 0)⟩, ⟨some 26, ov (PTR gb_6 (0 + 0))⟩, ⟨some 27, ov (PTR gb_3 0)⟩, ⟨some 28, ov (S (rU UInt64) (0 : UInt64))⟩, ⟨some 29, ov (S (rI .i64) (0 : Int))⟩, ⟨some 30, ov (A zq0 zq1)⟩, ⟨some 31, ov (PTR gb_6 0)⟩, ⟨some 32, ov (PTR gb_6 (0 + 1))⟩, ⟨none, .one .any⟩])
     (rs := fun γ => [⟨cvar gb_3 (zq26 go_4 gc_5) ((), (true, (true, ()))), none, (some 5), []⟩, ⟨cown go_4 (rU UInt8) ([] : (List UInt8)) 0 gc_5, none, (some 5), []⟩, ⟨cvar gb_1 zq0 zq1, none, none, []⟩, ⟨cvar gb_6 (zq27 gb_3) zq25, none, none, [4, 10, 16, 22]⟩, ⟨cvar gb_3 r_wire_Reader (wire_Reader.mk ([] : (List UInt8)) false true), (some 5), none, [11, 17]⟩, ⟨cown go_4 (rU UInt8) ([] : (List UInt8)) (List.length ([] : (List UInt8))) gc_5, (some 5), none, []⟩])
     (ds := [11, 12, 13, 14, 15, 16, 17, 18, 19, 20, 21, 22, 23, 24, 25, 26, 27, 28, 29, 30, 31, 32]) (bs := [0, 2, 4]) (afts := [[], [], [], [], [], [], [], [], [], [], [], [], [], [], [], [], [], [], [], [], [], [], []]) (js := [0, 0, 0, 0]) mixed (.cons rfl (.cons rfl (.cons rfl .nil))) (fun _ => rfl)
     (by
      refine dS 1 (fun γ ρ B hb hd => op_move lb (.tmp (hb 4 _ rfl))) <| dS 2 (fun γ ρ B hb hd => op_move lb (.tmp (hb 4 _ rfl))) <| dS 3 (fun γ ρ B hb hd => op_nilCheck lb (tl hd 1 12) (fun e v h => by subst h; rfl)) <| dS 4 (fun γ ρ B hb hd => op_fieldAddr (off := 0) lb tf67_0 (tl hd 2 13)) <| dR 5 (fun γ ρ B hb hd => OpStep.lk ⟨ρ, (cvar gb_6 (zq27 gb_3) zq25) :: B, _⟩ (op_loadW (j := 0) lb tS64 (tl hd 3 14) rfl (Comp.trans (Comp.self (zq27 gb_3) zq25) (Comp.at' (Comp.inF (Comp.self (rW (PTR gb_3 0)) ()) (lE rfl)) (by rfl : _ = 0)) (lE rfl)))) ?_
      refine dR 6 (fun γ ρ B hb hd => OpStep.at ⟨ρ, (cvar gb_3 (zq26 go_4 gc_5) ((), (true, (true, ())))) :: (cown go_4 (rU UInt8) ([] : (List UInt8)) 0 gc_5) :: B, _⟩ (setO ⟨ρ, (cvar gb_3 r_wire_Reader (wire_Reader.mk ([] : (List UInt8)) false true)) :: (cown go_4 (rU UInt8) ([] : (List UInt8)) (List.length ([] : (List UInt8))) gc_5) :: B, _⟩ _ _) ((op_call (js := [0, 0]) ld cl18 (sim_wire_Reader_Number k (1 : Int) true true ([] : (List UInt8)) gb_3 go_4 gc_5 ((0 : UInt64), (wire_Reader.mk ([] : (List UInt8)) false true)) hv_v_7) .func (.cons (tl hd 4 15) (.cons .cI .nil)) rfl).post (fun _ => Imp.refl))) <| dS 7 (fun γ ρ B hb hd => op_convUI lb tu27 tu38 (tl hd 5 16) hv_v_9) <| dS 8 (fun γ ρ B hb hd => op_move lb (.tmp (hb 4 _ rfl))) <| dS 9 (fun γ ρ B hb hd => op_nilCheck lb (tl hd 7 18) (fun e v h => by subst h; rfl)) <| dS 10 (fun γ ρ B hb hd => op_fieldAddr (off := 0) lb tf67_0 (tl hd 8 19)) ?_
      refine dR 11 (fun γ ρ B hb hd => OpStep.lk ⟨ρ, (cvar gb_6 (zq27 gb_3) zq25) :: B, _⟩ (op_loadW (j := 0) lb tS64 (tl hd 9 20) rfl (Comp.trans (Comp.self (zq27 gb_3) zq25) (Comp.at' (Comp.inF (Comp.self (rW (PTR gb_3 0)) ()) (lE rfl)) (by rfl : _ = 0)) (lE rfl)))) <| dR 12 (fun γ ρ B hb hd => OpStep.lk ⟨ρ, (cvar gb_3 r_wire_Reader (wire_Reader.mk ([] : (List UInt8)) false true)) :: B, _⟩ ((op_call (js := [0]) ld cl18 (sim_wire_Reader_Number'2 k (1 : Int) (wire_Reader.mk ([] : (List UInt8)) false true) gb_3 ((0 : UInt64), (wire_Reader.mk ([] : (List UInt8)) false true)) hv_v_10) .func (.cons (tl hd 10 21) (.cons .cI .nil)) rfl).post (fun _ => Imp.pick (js := [0]) rfl rfl))) <| dS 13 (fun γ ρ B hb hd => op_convUI lb tu27 tu3 (tl hd 11 22) hv_v_12) <| dS 14 (fun γ ρ B hb hd => op_move lb (.tmp (hb 4 _ rfl))) <| dS 15 (fun γ ρ B hb hd => op_nilCheck lb (tl hd 13 24) (fun e v h => by subst h; rfl)) ?_
      refine dS 16 (fun γ ρ B hb hd => op_fieldAddr (off := 0) lb tf67_0 (tl hd 14 25)) <| dR 17 (fun γ ρ B hb hd => OpStep.lk ⟨ρ, (cvar gb_6 (zq27 gb_3) zq25) :: B, _⟩ (op_loadW (j := 0) lb tS64 (tl hd 15 26) rfl (Comp.trans (Comp.self (zq27 gb_3) zq25) (Comp.at' (Comp.inF (Comp.self (rW (PTR gb_3 0)) ()) (lE rfl)) (by rfl : _ = 0)) (lE rfl)))) <| dR 18 (fun γ ρ B hb hd => OpStep.lk ⟨ρ, (cvar gb_3 r_wire_Reader (wire_Reader.mk ([] : (List UInt8)) false true)) :: B, _⟩ ((op_call (js := [0]) ld cl18 (sim_wire_Reader_Number'2 k (1 : Int) (wire_Reader.mk ([] : (List UInt8)) false true) gb_3 ((0 : UInt64), (wire_Reader.mk ([] : (List UInt8)) false true)) hv_v_13) .func (.cons (tl hd 16 27) (.cons .cI .nil)) rfl).post (fun _ => Imp.pick (js := [0]) rfl rfl))) <| dS 19 (fun γ ρ B hb hd => op_convUI lb tu27 tu3 (tl hd 17 28) hv_v_15) <| dS 20 (fun γ ρ B hb hd => op_build lb tZ50 zr50 tp50 (.S (off := 0) rfl (tl hd 6 17) rfl ((UpdR.fst (UpdR.self (by rfl))).at (by rfl)) (.S (off := 1) rfl (tl hd 12 23) rfl ((UpdR.snd (UpdR.fst (UpdR.self (by rfl)))).at (by rfl)) (.S (off := 2) rfl (tl hd 18 29) rfl ((UpdR.snd (UpdR.snd (UpdR.fst (UpdR.self (by rfl))))).at (by rfl)) .nil))) rfl) ?_
      refine dS 21 (fun γ ρ B hb hd => op_nilCheck lb (tl hd 0 11) (fun e v h => by subst h; rfl)) <| dS 22 (fun γ ρ B hb hd => op_fieldAddr (off := 1) lb tf67_1 (tl hd 20 31)) <| dR 23 (fun γ ρ B hb hd => OpStep.lk ⟨ρ, (cvar gb_6 (zq27 gb_3) zq25) :: B, _⟩ (op_storeA (j := 0) tA50 (tl hd 21 32) (tl hd 19 30) rfl ((UpdR.snd (UpdR.fst (UpdR.self (by rfl)))).at (by change (1 + 0) = (0 + 1); omega)) rfl)) ?_
      exact DSteps.nil)
     (by decide +kernel) (fun _ => rfl) rfl (fun _ => rfl) (fun _ => rfl) rfl (by decide) (by decide) (by decide +kernel) (fun _ d h => by cases h)
     (ρ' := fun γ => [(0, ov (S (rL (rU UInt8)) ([] : (List UInt8)))), (2, ov (PTR gb_1 0)), (4, ov (PTR gb_6 0))])
     (X' := fun γ => [cvar gb_1 zq0 zq1, cvar gb_6 (zq27 gb_3) zq25, cvar gb_3 r_wire_Reader (wire_Reader.mk ([] : (List UInt8)) false true), cown go_4 (rU UInt8) ([] : (List UInt8)) (List.length ([] : (List UInt8))) gc_5])
     (fun γ ρ hb hd => (.cons (hb 0 _ rfl (by decide)) (.cons (hb 2 _ rfl (by decide)) (.cons (hb 4 _ rfl (by decide)) .nil)))) (fun _ => rfl) (fun γ => ?_)
 refine JQ.at ⟨[(0, ov (S (rL (rU UInt8)) ([] : (List UInt8)))), (2, ov (PTR gb_1 0)), (4, ov (PTR gb_6 0))], [cvar gb_1 zq0 zq1, cvar gb_6 (zq27 gb_3) zq25, cvar gb_3 r_wire_Reader (wire_Reader.mk ([] : (List UInt8)) false true), cown go_4 (rU UInt8) ([] : (List UInt8)) (List.length ([] : (List UInt8))) gc_5], []⟩ ?_
 refine JQ.then ?_
 replace hm := bnd_inv hm
 obtain ⟨_, hx1, hq1⟩ := hm
 refine JC.seqJ (γ := Unit) (stj := fun _ => ⟨[(0, ov (S (rL (rU UInt8)) ([] : (List UInt8)))), (2, ov (PTR gb_1 0)), (4, ov (PTR gb_6 0))], [cvar gb_1 zq0 zq1, cvar gb_6 (zq27 gb_3) zq25, cvar gb_3 r_wire_Reader (wire_Reader.mk ([] : (List UInt8)) false true)], []⟩) (fun _ => ?_) ?_
 · refine JC.seq ?_
   replace hq1 := bnd_inv hq1
   obtain ⟨_, hx2, hq2⟩ := hq1
   refine JC.seqJ (γ := Unit) (stj := fun _ => ⟨[(2, ov (PTR gb_1 0)), (4, ov (PTR gb_6 0)), (63, ov (S rB true))], [cvar gb_1 zq0 zq1, cvar gb_6 (zq27 gb_3) zq25, cvar gb_3 r_wire_Reader (wire_Reader.mk ([] : (List UInt8)) false true)], []⟩) (fun _ => ?_) ?_
   · refine JC.condT (.tmp rfl) rfl ?_
     refine jr <| jc (op_build lb tZ50 zr50 tp50 .nil rfl) <| jc (op_storeA (j := 0) tA50 (.tmp rfl) (.tmp rfl) rfl (UpdR.self (by rfl)) rfl) <| jc (op_assign lb .cI) <| jn ?_
     refine JC.ret ?_
     refine JQ.outR ?_
     refine JQ.pre (Imp.var (j := 0) (q := r_api_Frame) (y := (api_Frame.mk (0 : Int) (0 : Int) (0 : Int) ([] : (List api_Item)) (api_Event.mk (api_Dot.mk (0 : Int) (0 : UInt64)) ([] : (List UInt8)) ([] : (List UInt8)) (Vector.replicate 16 (0 : UInt64)) ([] : (List api_Dest))) (Vector.replicate 16 (0 : UInt64)) (Vector.replicate 16 (0 : UInt64)) ([] : (List api_Dot)) ([] : (List api_Dot)) (Vector.replicate 32 (0 : UInt8)) ([] : (List (Vector UInt8 32))) ([] : (List Int)) false)) rfl (Wk.st (Wk.pair Wk.refl (Wk.pair Wk.refl (Wk.pair Wk.refl (Wk.pair Wk.nil (Wk.pair (Wk.st (Wk.pair Wk.refl (Wk.pair Wk.refl (Wk.pair Wk.nil (Wk.pair Wk.refl (Wk.pair Wk.nil Wk.refl)))))) (Wk.pair Wk.refl (Wk.pair Wk.refl (Wk.pair Wk.nil (Wk.pair Wk.nil (Wk.pair Wk.refl (Wk.pair Wk.nil (Wk.pair Wk.nil (Wk.pair Wk.refl Wk.refl))))))))))))))) ?_
     exact JQ.done (js := []) (ss := [.val (A r_api_Frame (api_Frame.mk (0 : Int) (0 : Int) (0 : Int) ([] : (List api_Item)) (api_Event.mk (api_Dot.mk (0 : Int) (0 : UInt64)) ([] : (List UInt8)) ([] : (List UInt8)) (Vector.replicate 16 (0 : UInt64)) ([] : (List api_Dest))) (Vector.replicate 16 (0 : UInt64)) (Vector.replicate 16 (0 : UInt64)) ([] : (List api_Dot)) ([] : (List api_Dot)) (Vector.replicate 32 (0 : UInt8)) ([] : (List (Vector UInt8 32))) ([] : (List Int)) false)), .val (S (rI .i64) (4 : Int))]) () (.inl rfl) (.nil rfl) rfl (.cons (.cellA (j := 0) tA50 rfl rfl) (.cons (.tmp rfl) .nil)) rfl rfl rfl
   refine JC.region <| jmv rfl rfl <| jc (op_nilCheck lb (.tmp rfl) (fun e v h => by subst h; rfl)) <| jc (op_fieldAddr (off := 1) lb tf67_1 (.tmp rfl)) <| jc (op_loadA (j := 1) lb tA50 (.tmp rfl) rfl (Comp.trans (Comp.self (zq27 gb_3) zq25) (Comp.at' (Comp.inS (Comp.inF (Comp.self zq0 zq1) (lE rfl))) (by rfl : _ = 1)) (lE rfl)) rfl) ?_
   replace hx2 := bnd_inv hx2
   obtain ⟨v_21, hv_v_21, hx2⟩ := hx2
   obtain rfl := h_May0 hv_v_21
   refine jx (op_call (js := []) ld cl10 (sim_frame_May k (api_Frame.mk (0 : Int) (0 : Int) (0 : Int) ([] : (List api_Item)) (api_Event.mk (api_Dot.mk (0 : Int) (0 : UInt64)) ([] : (List UInt8)) ([] : (List UInt8)) (Vector.replicate 16 (0 : UInt64)) ([] : (List api_Dest))) (Vector.replicate 16 (0 : UInt64)) (Vector.replicate 16 (0 : UInt64)) ([] : (List api_Dot)) ([] : (List api_Dot)) (Vector.replicate 32 (0 : UInt8)) ([] : (List (Vector UInt8 32))) ([] : (List Int)) false) false hv_v_21) .func (.cons (HasO.wk (q := A r_api_Frame (api_Frame.mk (0 : Int) (0 : Int) (0 : Int) ([] : (List api_Item)) (api_Event.mk (api_Dot.mk (0 : Int) (0 : UInt64)) ([] : (List UInt8)) ([] : (List UInt8)) (Vector.replicate 16 (0 : UInt64)) ([] : (List api_Dest))) (Vector.replicate 16 (0 : UInt64)) (Vector.replicate 16 (0 : UInt64)) ([] : (List api_Dot)) ([] : (List api_Dot)) (Vector.replicate 32 (0 : UInt8)) ([] : (List (Vector UInt8 32))) ([] : (List Int)) false)) (.tmp rfl) (wkAK (Wk.st (Wk.pair Wk.refl (Wk.pair Wk.refl (Wk.pair Wk.refl (Wk.pair Wk.nil (Wk.pair (Wk.st (Wk.pair Wk.refl (Wk.pair Wk.refl (Wk.pair Wk.nil (Wk.pair Wk.refl (Wk.pair Wk.nil Wk.refl)))))) (Wk.pair Wk.refl (Wk.pair Wk.refl (Wk.pair Wk.nil (Wk.pair Wk.nil (Wk.pair Wk.refl (Wk.pair Wk.nil (Wk.pair Wk.nil (Wk.pair Wk.refl Wk.refl)))))))))))))))) .nil) rfl) (fun _ => ?_)
   refine jc (op_not lb (.tmp rfl) rfl) <| jmv rfl rfl <| JL.sk (.no rfl (ltB rfl) rfl rfl) <| JL.sk (.no rfl (ltB rfl) rfl rfl) <| JL.sk (.no rfl (ltB rfl) rfl rfl) ?_
   refine JL.sk (.no rfl (ltB rfl) rfl rfl) <| JL.sk (.no rfl (ltB rfl) rfl rfl) <| JL.sk (.no rfl (ltB rfl) rfl rfl) <| JL.sk (.no rfl (ltB rfl) rfl rfl) <| JL.sk (.no rfl (ltB rfl) rfl rfl) ?_
   refine jc (op_pickT lb (.tmp rfl) rfl .cB) <| JL.nil ?_
   exact JQ.join () (Imp.norm (js := [0, 0, 0]) rfl (.cons rfl (.cons rfl (.cons rfl .nil))))
 refine JC.seq ?_
 replace hx1 := bnd_inv hx1
 obtain ⟨v_16, hv_v_16, hx1⟩ := hx1
 obtain rfl := h_forms hv_v_16
 replace hx1 := bnd_inv hx1
 obtain ⟨⟨v_18, is_19⟩, hv_v_18, hx1⟩ := hx1
 obtain ⟨rfl, rfl⟩ := h_get hv_v_18
 refine JC.anyE (kl := []) (kk := 0) (base := [(0, ov (S (rL (rU UInt8)) ([] : (List UInt8)))), (2, ov (PTR gb_1 0)), (4, ov (PTR gb_6 0))])
     (fs := fun γ => [⟨some 34, ov (MPV (deo (γ 0 0)))⟩, ⟨some 35, ov (PTR gb_6 0)⟩, ⟨some 36, ov (PTR gb_6 0)⟩, ⟨some 37, ov (PTR gb_6 (0 + 1))⟩, ⟨some 38, ov (PTR gb_6 ((0 + 1) + 0))⟩, ⟨some 39, ov (S (rI .i64) (0 : Int))⟩, ⟨some 40, .tup [.val (A r_frame_form (frame_form.mk (none : Option Nat) (none : Option Nat))), .val (S rB false)]⟩, ⟨some 33, .tup [.val (A r_frame_form (frame_form.mk (none : Option Nat) (none : Option Nat))), .val (S rB false)]⟩, ⟨some 41, ov (A r_frame_form (frame_form.mk (none : Option Nat) (none : Option Nat)))⟩, ⟨some 42, ov (S rB false)⟩, ⟨some 5, ov (PTR (γ 10 0) 0)⟩, ⟨none, .one .any⟩, ⟨some 6, ov (S rB false)⟩])
     (rs := fun γ => [⟨cvar gb_1 zq0 zq1, none, none, []⟩, ⟨cvar gb_6 (zq27 gb_3) zq25, none, none, [5]⟩, ⟨cvar gb_3 r_wire_Reader (wire_Reader.mk ([] : (List UInt8)) false true), none, none, []⟩, ⟨cown go_4 (rU UInt8) ([] : (List UInt8)) (List.length ([] : (List UInt8))) gc_5, none, none, []⟩, ⟨cmap (deo (γ 0 0)) (S (rI .i64)) (A r_frame_form) (some (([((1 : Int), (frame_form.mk (some 42 : Option Nat) (some 43 : Option Nat))), ((2 : Int), (frame_form.mk (some 44 : Option Nat) (some 45 : Option Nat))), ((3 : Int), (frame_form.mk (some 46 : Option Nat) (some 47 : Option Nat))), ((4 : Int), (frame_form.mk (some 48 : Option Nat) (some 49 : Option Nat))), ((5 : Int), (frame_form.mk (some 50 : Option Nat) (some 51 : Option Nat))), ((6 : Int), (frame_form.mk (some 52 : Option Nat) (some 53 : Option Nat))), ((7 : Int), (frame_form.mk (some 54 : Option Nat) (some 55 : Option Nat)))] : (List (Int × frame_form))))), (some 0), none, [6]⟩, ⟨cvar (γ 10 0) r_frame_form (frame_form.mk (none : Option Nat) (none : Option Nat)), (some 10), none, [11]⟩])
     (ds := [34, 35, 36, 37, 38, 39, 40, 33, 41, 42, 5, 6]) (bs := [0, 2, 4]) (afts := [[0, 6, 7, 8, 9, 11, 12], [], [], [], [], [], [], [], [], [], [10, 11, 12], [], []]) (js := [0, 0, 0, 0]) mixed (.cons rfl (.cons rfl (.cons rfl .nil))) (fun _ => rfl)
     (by
      refine DSteps.cons (j := 1) rfl (fun _ => rfl) (.runX (fun _ _ => rfl) (fun γ ρ B hb hd => ⟨.none, OpX.ghost (γ := Option Nat) (st' := fun q => setO ⟨ρ, (cmap q (S (rI .i64)) (A r_frame_form) (some (([((1 : Int), (frame_form.mk (some 42 : Option Nat) (some 43 : Option Nat))), ((2 : Int), (frame_form.mk (some 44 : Option Nat) (some 45 : Option Nat))), ((3 : Int), (frame_form.mk (some 46 : Option Nat) (some 47 : Option Nat))), ((4 : Int), (frame_form.mk (some 48 : Option Nat) (some 49 : Option Nat))), ((5 : Int), (frame_form.mk (some 50 : Option Nat) (some 51 : Option Nat))), ((6 : Int), (frame_form.mk (some 52 : Option Nat) (some 53 : Option Nat))), ((7 : Int), (frame_form.mk (some 54 : Option Nat) (some 55 : Option Nat)))] : (List (Int × frame_form)))))) :: B, _⟩ (some 34) (ov (MPV q))) (fun q c => eno q) (op_call (js := []) ld cl19 (sim_frame_forms k ([((1 : Int), (frame_form.mk (some 42 : Option Nat) (some 43 : Option Nat))), ((2 : Int), (frame_form.mk (some 44 : Option Nat) (some 45 : Option Nat))), ((3 : Int), (frame_form.mk (some 46 : Option Nat) (some 47 : Option Nat))), ((4 : Int), (frame_form.mk (some 48 : Option Nat) (some 49 : Option Nat))), ((5 : Int), (frame_form.mk (some 50 : Option Nat) (some 51 : Option Nat))), ((6 : Int), (frame_form.mk (some 52 : Option Nat) (some 53 : Option Nat))), ((7 : Int), (frame_form.mk (some 54 : Option Nat) (some 55 : Option Nat)))] : (List (Int × frame_form))) hv_v_16) .func .nil rfl) (fun q => by cases q <;> exact Imp.refl)⟩) (fun _ _ => rfl) (fun _ _ => rfl)) ?_
      refine dS 2 (fun γ ρ B hb hd => op_move lb (.tmp (hb 4 _ rfl))) <| dS 3 (fun γ ρ B hb hd => op_nilCheck lb (tl hd 1 35) (fun e v h => by subst h; rfl)) <| dS 4 (fun γ ρ B hb hd => op_fieldAddr (off := 1) lb tf67_1 (tl hd 2 36)) <| dS 5 (fun γ ρ B hb hd => op_fieldAddr (off := 0) lb tf50_0 (tl hd 3 37)) <| dR 6 (fun γ ρ B hb hd => OpStep.lk ⟨ρ, (cvar gb_6 (zq27 gb_3) zq25) :: B, _⟩ (op_loadS (j := 0) lb tS38 (tl hd 4 38) rfl (Comp.trans (Comp.trans (Comp.self (zq27 gb_3) zq25) (Comp.at' (Comp.inS (Comp.inF (Comp.self zq0 zq1) (lE rfl))) (by rfl : _ = 1)) (lE rfl)) (Comp.at' (Comp.inF (Comp.self (rI .i64) (0 : Int)) (lE rfl)) (by rfl : _ = 0)) (lE rfl)) rfl rfl)) ?_
      refine dR 7 (fun γ ρ B hb hd => OpStep.lk ⟨ρ, (cmap (deo (γ 0 0)) (S (rI .i64)) (A r_frame_form) (some (([((1 : Int), (frame_form.mk (some 42 : Option Nat) (some 43 : Option Nat))), ((2 : Int), (frame_form.mk (some 44 : Option Nat) (some 45 : Option Nat))), ((3 : Int), (frame_form.mk (some 46 : Option Nat) (some 47 : Option Nat))), ((4 : Int), (frame_form.mk (some 48 : Option Nat) (some 49 : Option Nat))), ((5 : Int), (frame_form.mk (some 50 : Option Nat) (some 51 : Option Nat))), ((6 : Int), (frame_form.mk (some 52 : Option Nat) (some 53 : Option Nat))), ((7 : Int), (frame_form.mk (some 54 : Option Nat) (some 55 : Option Nat)))] : (List (Int × frame_form)))))) :: B, _⟩ (op_lookupD (z0 := (frame_form.mk (none : Option Nat) (none : Option Nat))) (j := 0) lb tu74 ky38 tZ72 (fun e => ⟨_, rfl, zv72 e⟩) rfl (tl hd 0 34) (tl hd 5 39) hv_v_18)) <| dS 8 (fun γ ρ B hb hd => op_move lb (tl hd 6 40)) <| dS 9 (fun γ ρ B hb hd => op_extract (i := 0) lb (tl hd 7 33) rfl) <| dS 10 (fun γ ρ B hb hd => op_extract (i := 1) lb (tl hd 7 33) rfl) ?_
      refine DSteps.cons (j := 11) rfl (fun _ => rfl) (.runX (fun _ _ => rfl) (fun γ ρ B hb hd => ⟨.none, OpX.ghost (γ := Nat) (st' := fun q => setO ⟨ρ, (cvar q r_frame_form (frame_form.mk (none : Option Nat) (none : Option Nat))) :: B, _⟩ (some 5) (ov (PTR q 0))) (fun q c => q) (OpX.front (op_alloc lb tZ72 zr72)) (fun q => Imp.refl)⟩) (fun _ _ => rfl) (fun _ _ => rfl)) ?_
      refine dR 12 (fun γ ρ B hb hd => OpStep.lk ⟨ρ, (cvar (γ 10 0) r_frame_form (frame_form.mk (none : Option Nat) (none : Option Nat))) :: B, _⟩ (op_storeA (j := 0) tA72 (tl hd 10 5) (tl hd 8 41) rfl (UpdR.self (by rfl)) rfl)) <| dS 13 (fun γ ρ B hb hd => op_assign lb (tl hd 9 42)) ?_
      exact DSteps.nil)
     (by decide +kernel) (fun _ => rfl) rfl (fun _ => rfl) (fun _ => rfl) rfl (by decide) (by decide) (by decide +kernel) (fun _ d h => by cases h)
     (ρ' := fun γ => [(0, ov (S (rL (rU UInt8)) ([] : (List UInt8)))), (2, ov (PTR gb_1 0)), (4, ov (PTR gb_6 0)), (5, ov (PTR (γ 10 0) 0)), (6, ov (S rB false))])
     (X' := fun γ => [cvar gb_1 zq0 zq1, cvar gb_6 (zq27 gb_3) zq25, cvar gb_3 r_wire_Reader (wire_Reader.mk ([] : (List UInt8)) false true), cown go_4 (rU UInt8) ([] : (List UInt8)) (List.length ([] : (List UInt8))) gc_5, cmap (deo (γ 0 0)) (S (rI .i64)) (A r_frame_form) (some (([((1 : Int), (frame_form.mk (some 42 : Option Nat) (some 43 : Option Nat))), ((2 : Int), (frame_form.mk (some 44 : Option Nat) (some 45 : Option Nat))), ((3 : Int), (frame_form.mk (some 46 : Option Nat) (some 47 : Option Nat))), ((4 : Int), (frame_form.mk (some 48 : Option Nat) (some 49 : Option Nat))), ((5 : Int), (frame_form.mk (some 50 : Option Nat) (some 51 : Option Nat))), ((6 : Int), (frame_form.mk (some 52 : Option Nat) (some 53 : Option Nat))), ((7 : Int), (frame_form.mk (some 54 : Option Nat) (some 55 : Option Nat)))] : (List (Int × frame_form))))), cvar (γ 10 0) r_frame_form (frame_form.mk (none : Option Nat) (none : Option Nat))])
     (fun γ ρ hb hd => (.cons (hb 0 _ rfl (by decide)) (.cons (hb 2 _ rfl (by decide)) (.cons (hb 4 _ rfl (by decide)) (.cons (hdq hd 10 5 rfl) (.cons (hdq hd 12 6 rfl) .nil)))))) (fun _ => rfl) (fun γ => ?_)
 generalize (deo (γ 0 0)) = go_17
 generalize (γ 10 0) = gb_20
 clear γ
 refine JQ.at ⟨[(0, ov (S (rL (rU UInt8)) ([] : (List UInt8)))), (2, ov (PTR gb_1 0)), (4, ov (PTR gb_6 0)), (5, ov (PTR gb_20 0)), (6, ov (S rB false))], [cvar gb_1 zq0 zq1, cvar gb_6 (zq27 gb_3) zq25, cvar gb_3 r_wire_Reader (wire_Reader.mk ([] : (List UInt8)) false true), cown go_4 (rU UInt8) ([] : (List UInt8)) (List.length ([] : (List UInt8))) gc_5, cmap go_17 (S (rI .i64)) (A r_frame_form) (some (([((1 : Int), (frame_form.mk (some 42 : Option Nat) (some 43 : Option Nat))), ((2 : Int), (frame_form.mk (some 44 : Option Nat) (some 45 : Option Nat))), ((3 : Int), (frame_form.mk (some 46 : Option Nat) (some 47 : Option Nat))), ((4 : Int), (frame_form.mk (some 48 : Option Nat) (some 49 : Option Nat))), ((5 : Int), (frame_form.mk (some 50 : Option Nat) (some 51 : Option Nat))), ((6 : Int), (frame_form.mk (some 52 : Option Nat) (some 53 : Option Nat))), ((7 : Int), (frame_form.mk (some 54 : Option Nat) (some 55 : Option Nat)))] : (List (Int × frame_form))))), cvar gb_20 r_frame_form (frame_form.mk (none : Option Nat) (none : Option Nat))], []⟩ ?_
 refine JQ.then <| jr <| jmv rfl rfl <| jn ?_
 refine JC.condF (.tmp rfl) rfl ?_
 refine JC.skip ?_
 exact JQ.join () (Imp.norm (js := [0, 0, 0]) rfl (.cons rfl (.cons rfl (.cons rfl .nil))))

theorem sim_law11_num (k : Nat) (e_1 : Int) (r : Unit) (hm : law11_num k e_1 = some r) : Sim Try.prog 9 [S (rI .i64) e_1] [] (γ := Unit) (fun q => []) (fun q => .one (.val (S (rI .i64) e_1))) := by
 unfold law11_num at hm
 refine Sim.of Try.func9 rfl rfl (lE rfl) (fun e0 w0 => ?_)
 refine JC.at ⟨[(0, ov (S (rI .i64) e_1))], [], []⟩ ?_
 refine jr <| jc (op_assign lb .cI) <| jn <| jr <| jmv rfl rfl ?_
 refine jc (op_assign lb (.tmp rfl)) <| jn ?_
 refine JC.ret ?_
 exact JQ.done (js := []) (ss := [.val (S (rI .i64) e_1)]) () (.inl rfl) (.nil rfl) rfl (.cons (.tmp rfl) .nil) rfl rfl rfl

theorem sim_frame_Name (k : Nat) (k_1 : Int) (r : (List UInt8)) (hm : frame_Name k k_1 = some r) : Sim Try.prog 11 [S (rI .i64) k_1] [] (γ := Unit) (fun q => []) (fun q => .one (.val (S rS r))) := by
 unfold frame_Name at hm
 refine Sim.of Try.func11 rfl rfl (lE rfl) (fun e0 w0 => ?_)
 refine JC.at ⟨[(0, ov (S (rI .i64) k_1))], [], []⟩ ?_
 refine jr <| jc (op_assign lb (HasO.cS (l := []) rfl)) <| jn <| jr <| jc (op_buildF (r := rS) lb tu86 tz9 tZ9 rfl (lE rfl) (.S rfl (HasO.cS (l := []) rfl) (.S rfl (HasO.cS (l := [100, 101, 108, 116, 97]) rfl) (.S rfl (HasO.cS (l := [101, 118, 101, 110, 116]) rfl) (.S rfl (HasO.cS (l := [104, 97, 118, 101]) rfl) (.S rfl (HasO.cS (l := [107, 110, 111, 119, 110]) rfl) (.S rfl (HasO.cS (l := [114, 111, 111, 116]) rfl) (.S rfl (HasO.cS (l := [108, 101, 97, 118, 101, 115]) rfl) (.S rfl (HasO.cS (l := [105, 116, 101, 109, 115]) rfl) .nil)))))))) rfl) ?_
 refine jc (op_assign lb (.tmp rfl)) <| jn <| JC.seq ?_
 replace hm := bnd_inv hm
 obtain ⟨x_5, hx1, hq1⟩ := hm
 refine JC.seqJ (γ := Unit) (stj := fun _ => ⟨[(0, ov (S (rI .i64) k_1)), (3, ov (S (rL rS) ([([] : List UInt8), ([100, 101, 108, 116, 97] : List UInt8), ([101, 118, 101, 110, 116] : List UInt8), ([104, 97, 118, 101] : List UInt8), ([107, 110, 111, 119, 110] : List UInt8), ([114, 111, 111, 116] : List UInt8), ([108, 101, 97, 118, 101, 115] : List UInt8), ([105, 116, 101, 109, 115] : List UInt8)] : (List (List UInt8))))), (12, ov (S rB x_5))], [], []⟩) (fun _ => ?_) ?_
 · replace hq1 := iteB_inv hq1
   rcases hq1 with ⟨hc7, hq1⟩ | ⟨hc7, hq1⟩
   · refine JC.condT (.tmp rfl) hc7 ?_
     refine jr <| jc (op_assign lb (HasO.cS (l := []) rfl)) <| jn ?_
     refine JC.ret ?_
     refine JQ.outR ?_
     replace hq1 := Option.some.inj hq1
     subst hq1
     exact JQ.done (js := []) (ss := [.val (S rS ([] : List UInt8))]) () (.inl rfl) (.nil rfl) rfl (.cons (.tmp rfl) .nil) rfl rfl rfl
   refine JC.condF (.tmp rfl) hc7 ?_
   refine JC.skip ?_
   refine JQ.then <| jr <| jmv rfl rfl <| jmv rfl rfl ?_
   replace hq1 := bnd_inv hq1
   obtain ⟨v_6, hv_v_6, hq1⟩ := hq1
   refine jc (op_indexAddrLg lb tu86 tz9 (.tmp rfl) (.tmp rfl) hv_v_6) <| jc (op_loadPSg lb tS9 rfl (.tmp rfl) rfl) <| jc (op_assign lb (.tmp rfl)) <| jn ?_
   refine JC.ret ?_
   replace hq1 := Option.some.inj hq1
   subst hq1
   exact JQ.done (js := []) (ss := [.val (S rS v_6)]) () (.inl rfl) (.nil rfl) rfl (.cons (.tmp rfl) .nil) rfl rfl rfl
 refine JC.region <| jmv rfl rfl ?_
 replace hx1 := lt1_inv hx1
 obtain ⟨v_2, hv_v_2, hx1⟩ := hx1
 refine jc (op_cmpI lb (.tmp rfl) .cI (congrArg some hv_v_2)) <| jmv rfl rfl ?_
 refine JL.cnd (sv := ov (S (rI .i64) k_1)) (Guard.isF (ltB rfl) rfl rfl) rfl (ltB rfl) (fun hq_2 => op_move lb (.tmp rfl)) ?_
 refine JL.cnd (sv := ov (S (rL rS) ([([] : List UInt8), ([100, 101, 108, 116, 97] : List UInt8), ([101, 118, 101, 110, 116] : List UInt8), ([104, 97, 118, 101] : List UInt8), ([107, 110, 111, 119, 110] : List UInt8), ([114, 111, 111, 116] : List UInt8), ([108, 101, 97, 118, 101, 115] : List UInt8), ([105, 116, 101, 109, 115] : List UInt8)] : (List (List UInt8))))) (Guard.isF (ltB rfl) rfl rfl) rfl (ltB rfl) (fun hq_3 => op_move lb (.tmp rfl)) ?_
 refine JL.cnd (sv := ov (S (rI .i64) (List.length ([([] : List UInt8), ([100, 101, 108, 116, 97] : List UInt8), ([101, 118, 101, 110, 116] : List UInt8), ([104, 97, 118, 101] : List UInt8), ([107, 110, 111, 119, 110] : List UInt8), ([114, 111, 111, 116] : List UInt8), ([108, 101, 97, 118, 101, 115] : List UInt8), ([105, 116, 101, 109, 115] : List UInt8)] : (List (List UInt8))) : Int))) (Guard.isF (ltB rfl) rfl rfl) rfl (ltB rfl) (fun hq_4 => op_lenL lb tu86 (HasO.cnd (.tmp rfl) (notT (notF hq_4)))) ?_
 replace hx1 := lt1_inv hx1
 obtain ⟨v_3, hv_v_3, hx1⟩ := hx1
 refine JL.cnd (sv := ov (S rB v_3)) (Guard.isF (ltB rfl) rfl rfl) rfl (ltB rfl) (fun hq_5 => op_cmpI lb (HasO.cnd (.tmp rfl) (notT (notF hq_5))) (HasO.cnd (.tmp rfl) (notT (notF hq_5))) (congrArg some hv_v_3)) ?_
 replace hx1 := lt1_inv hx1
 obtain ⟨v_4, hv_v_4, hx1⟩ := hx1
 refine jc (op_pickCS lb (.tmp rfl) (fun hb6 => .cB) (fun hb6 => (HasO.cnd (.tmp rfl) (notT hb6))) hv_v_4) <| JL.nil ?_
 replace hx1 := Option.some.inj hx1
 first | subst hx1 | clear hx1
 exact JQ.join () (Imp.norm (js := []) rfl (.cons rfl (.cons rfl (.cons rfl .nil))))

theorem sim_law11_known'4 (k : Nat) (r : Bool) (hm : law11_known'4 k = some r) : Sim Try.prog 5 [] [] (γ := Unit) (fun q => []) (fun q => .one (.val (S rB r))) := by
 unfold law11_known'4 at hm
 refine Sim.of Try.func5 rfl rfl (lE rfl) (fun e0 w0 => ?_)
 refine JC.at ⟨[], [], []⟩ ?_
 refine jr <| jc (op_assign lb .cB) <| jn <| jr <| jc (op_build lb tZ50 zr50 tp50 (.S (off := 0) rfl .cI rfl ((UpdR.fst (UpdR.self (by rfl))).at (by rfl)) (.S (off := 1) rfl .cI rfl ((UpdR.snd (UpdR.fst (UpdR.self (by rfl)))).at (by rfl)) (.S (off := 2) rfl .cI rfl ((UpdR.snd (UpdR.snd (UpdR.fst (UpdR.self (by rfl))))).at (by rfl)) .nil))) rfl) ?_
 replace hm := bnd_inv hm
 obtain ⟨⟨v_1, v_2⟩, hv_v_1, hm⟩ := hm
 refine jx (op_call (js := []) ld cl7 (sim_frame_Bytes'4 k (api_Frame.mk (3 : Int) (1 : Int) (2 : Int) ([] : (List api_Item)) (api_Event.mk (api_Dot.mk (0 : Int) (0 : UInt64)) ([] : (List UInt8)) ([] : (List UInt8)) (Vector.replicate 16 (0 : UInt64)) ([] : (List api_Dest))) (Vector.replicate 16 (0 : UInt64)) (Vector.replicate 16 (0 : UInt64)) ([] : (List api_Dot)) ([] : (List api_Dot)) (Vector.replicate 32 (0 : UInt8)) ([] : (List (Vector UInt8 32))) ([] : (List Int)) false) (v_1, v_2) hv_v_1) .func (.cons (HasO.wk (q := A r_api_Frame (api_Frame.mk (3 : Int) (1 : Int) (2 : Int) ([] : (List api_Item)) (api_Event.mk (api_Dot.mk (0 : Int) (0 : UInt64)) ([] : (List UInt8)) ([] : (List UInt8)) (Vector.replicate 16 (0 : UInt64)) ([] : (List api_Dest))) (Vector.replicate 16 (0 : UInt64)) (Vector.replicate 16 (0 : UInt64)) ([] : (List api_Dot)) ([] : (List api_Dot)) (Vector.replicate 32 (0 : UInt8)) ([] : (List (Vector UInt8 32))) ([] : (List Int)) false)) (.tmp rfl) (wkAK (Wk.st (Wk.pair Wk.refl (Wk.pair Wk.refl (Wk.pair Wk.refl (Wk.pair Wk.nil (Wk.pair (Wk.st (Wk.pair Wk.refl (Wk.pair Wk.refl (Wk.pair Wk.nil (Wk.pair Wk.refl (Wk.pair Wk.nil Wk.refl)))))) (Wk.pair Wk.refl (Wk.pair Wk.refl (Wk.pair Wk.nil (Wk.pair Wk.nil (Wk.pair Wk.refl (Wk.pair Wk.nil (Wk.pair Wk.nil (Wk.pair Wk.refl Wk.refl)))))))))))))))) .nil) rfl) (fun q => ?_)
 obtain ⟨go_3, gc_4⟩ := q
 refine jmv rfl rfl <| jc (op_extract (i := 0) lb (.tmp rfl) rfl) <| jc (op_extract (i := 1) lb (.tmp rfl) rfl) <| jc (op_assign lb (.tmp rfl)) <| jc (op_assign lb (.tmp rfl)) ?_
 refine jn <| jr ?_
 replace hm := bnd_inv hm
 obtain ⟨_, hv_u_5, hm⟩ := hm
 refine jx (op_call (js := []) ld cl8 (sim_frame_Of k () hv_u_5) .func (.cons (HasO.wk (q := S (rL (rU UInt8)) []) HasO.nilH wkNil) .nil) rfl) (fun _ => ?_)
 refine jmv rfl rfl ?_
 refine JL.sub ⟨[(1, ov (HDR go_3 0 (List.length v_1) gc_4)), (2, ov (S (rI .i64) v_2)), (10, .tup [.val (A r_api_Frame (api_Frame.mk (0 : Int) (0 : Int) (0 : Int) ([] : (List api_Item)) (api_Event.mk (api_Dot.mk (0 : Int) (0 : UInt64)) ([] : (List UInt8)) ([] : (List UInt8)) (Vector.replicate 16 (0 : UInt64)) ([] : (List api_Dest))) (Vector.replicate 16 (0 : UInt64)) (Vector.replicate 16 (0 : UInt64)) ([] : (List api_Dot)) ([] : (List api_Dot)) (Vector.replicate 32 (0 : UInt8)) ([] : (List (Vector UInt8 32))) ([] : (List Int)) false)), .val (S (rI .i64) (4 : Int))])], [cown go_3 (rU UInt8) v_1 (List.length v_1) gc_4], []⟩ (.cons rfl (.cons rfl (.cons rfl .nil))) rfl rfl ?_
 refine jc (op_extract (i := 0) lb (.tmp rfl) rfl) <| jc (op_extract (i := 1) lb (.tmp rfl) rfl) ?_
 refine jx (op_alloc lb tZ50 zr50) (fun q => ?_)
 obtain ⟨gb_6, hqq⟩ : ∃ z, z = q := ⟨_, rfl⟩
 subst hqq
 refine jc (op_storeA (j := 1) tA50 (.tmp rfl) (.tmp rfl) rfl (UpdR.self (by rfl)) rfl) <| jc (op_assign lb (.tmp rfl)) <| jn ?_
 replace hm := bnd_inv hm
 obtain ⟨x_27, hx1, hq1⟩ := hm
 refine JC.seqJ (γ := Unit) (stj := fun _ => ⟨[(0, ov (S rB x_27))], [], []⟩) (fun _ => ?_) ?_
 · refine JC.ret ?_
   replace hq1 := Option.some.inj hq1
   subst hq1
   exact JQ.done (js := []) (ss := [.val (S rB x_27)]) () (.inl rfl) (.nil rfl) rfl (.cons (.tmp rfl) .nil) rfl rfl rfl
 refine JC.region <| jmv rfl rfl ?_
 replace hx1 := bnd_inv hx1
 obtain ⟨_, hv_u_7, hx1⟩ := hx1
 refine jx (op_call (js := []) ld cl9 (sim_law11_num k v_2 () hv_u_7) .func (.cons (.tmp rfl) .nil) rfl) (fun _ => ?_)
 replace hx1 := lt1_inv hx1
 obtain ⟨v_8, hv_v_8, hx1⟩ := hx1
 refine jc (op_cmpI lb (.tmp rfl) .cI (congrArg some hv_v_8)) ?_
 refine JL.nrm ⟨[(1, ov (HDR go_3 0 (List.length v_1) gc_4)), (4, ov (S (rI .i64) (4 : Int))), (16, ov (S rB v_8))], [cown go_3 (rU UInt8) v_1 (List.length v_1) gc_4], []⟩ [0] rfl (.cons rfl (.cons rfl (.cons rfl .nil))) rfl ?_
 refine jmv rfl rfl ?_
 replace hx1 := iteB_inv hx1
 rcases hx1 with ⟨hc3, hx1⟩ | ⟨hc3, hx1⟩
 · refine JL.run (.yes rfl (ltB rfl) rfl hc3) (op_move lb (.tmp rfl)) ?_
   refine JL.run (.yes rfl (ltB rfl) rfl hc3) (op_lenH lb tu25 (.tmp rfl)) ?_
   replace hx1 := lt1_inv hx1
   obtain ⟨v_9, hv_v_9, hx1⟩ := hx1
   refine JL.run (.yes rfl (ltB rfl) rfl hc3) (op_cmpI lb (.tmp rfl) .cI (congrArg some hv_v_9)) ?_
   refine jc (op_pickT lb (.tmp rfl) hc3 (.tmp rfl)) <| jmv rfl rfl ?_
   replace hx1 := iteB_inv hx1
   rcases hx1 with ⟨hc5, hx1⟩ | ⟨hc5, hx1⟩
   · refine JL.run (.yes rfl (ltB rfl) rfl hc5) (op_move lb (.tmp rfl)) ?_
     replace hx1 := bnd_inv hx1
     obtain ⟨i_10, hv_i_10, hx1⟩ := hx1
     refine JL.run (.yes rfl (ltB rfl) rfl hc5) (op_indexAddrOF (r := (rU UInt8)) (j := 0) lb tu25 tz5 rfl (.tmp rfl) .cI hv_i_10) ?_
     replace hx1 := bnd_inv hx1
     obtain ⟨v_11, hv_v_11, hx1⟩ := hx1
     refine JL.run (.yes rfl (ltB rfl) rfl hc5) (op_loadOS (r := (rU UInt8)) (i := i_10) (off := 0) (j := 0) lb tS5 rfl rfl (.tmp rfl) hv_v_11 (Comp.self (rU UInt8) v_11) (by decide)) ?_
     replace hx1 := lt1_inv hx1
     obtain ⟨v_12, hv_v_12, hx1⟩ := hx1
     refine JL.run (.yes rfl (ltB rfl) rfl hc5) (op_cmpU lb (.tmp rfl) (HasO.cU (x := (3 : UInt8)) rfl (by decide)) (congrArg some hv_v_12)) ?_
     refine jc (op_pickT lb (.tmp rfl) hc5 (.tmp rfl)) <| jmv rfl rfl ?_
     refine JL.sub ⟨[(1, ov (HDR go_3 0 (List.length v_1) gc_4)), (4, ov (S (rI .i64) (4 : Int))), (28, ov (S rB v_12))], [cown go_3 (rU UInt8) v_1 (List.length v_1) gc_4], []⟩ (.cons rfl (.cons rfl (.cons rfl .nil))) rfl rfl ?_
     replace hx1 := iteB_inv hx1
     rcases hx1 with ⟨hc7, hx1⟩ | ⟨hc7, hx1⟩
     · refine JL.run (.yes rfl (ltB rfl) rfl hc7) (op_move lb (.tmp rfl)) ?_
       replace hx1 := bnd_inv hx1
       obtain ⟨i_13, hv_i_13, hx1⟩ := hx1
       refine JL.run (.yes rfl (ltB rfl) rfl hc7) (op_indexAddrOF (r := (rU UInt8)) (j := 0) lb tu25 tz5 rfl (.tmp rfl) .cI hv_i_13) ?_
       replace hx1 := bnd_inv hx1
       obtain ⟨v_14, hv_v_14, hx1⟩ := hx1
       refine JL.run (.yes rfl (ltB rfl) rfl hc7) (op_loadOS (r := (rU UInt8)) (i := i_13) (off := 0) (j := 0) lb tS5 rfl rfl (.tmp rfl) hv_v_14 (Comp.self (rU UInt8) v_14) (by decide)) ?_
       replace hx1 := lt1_inv hx1
       obtain ⟨v_15, hv_v_15, hx1⟩ := hx1
       refine JL.run (.yes rfl (ltB rfl) rfl hc7) (op_cmpU lb (.tmp rfl) (HasO.cU (x := (1 : UInt8)) rfl (by decide)) (congrArg some hv_v_15)) ?_
       refine jc (op_pickT lb (.tmp rfl) hc7 (.tmp rfl)) <| jmv rfl rfl ?_
       replace hx1 := iteB_inv hx1
       rcases hx1 with ⟨hc9, hx1⟩ | ⟨hc9, hx1⟩
       · refine JL.run (.yes rfl (ltB rfl) rfl hc9) (op_move lb (.tmp rfl)) ?_
         replace hx1 := bnd_inv hx1
         obtain ⟨i_16, hv_i_16, hx1⟩ := hx1
         refine JL.run (.yes rfl (ltB rfl) rfl hc9) (op_indexAddrOF (r := (rU UInt8)) (j := 0) lb tu25 tz5 rfl (.tmp rfl) .cI hv_i_16) ?_
         replace hx1 := bnd_inv hx1
         obtain ⟨v_17, hv_v_17, hx1⟩ := hx1
         refine JL.run (.yes rfl (ltB rfl) rfl hc9) (op_loadOS (r := (rU UInt8)) (i := i_16) (off := 0) (j := 0) lb tS5 rfl rfl (.tmp rfl) hv_v_17 (Comp.self (rU UInt8) v_17) (by decide)) ?_
         replace hx1 := lt1_inv hx1
         obtain ⟨v_18, hv_v_18, hx1⟩ := hx1
         refine JL.run (.yes rfl (ltB rfl) rfl hc9) (op_cmpU lb (.tmp rfl) (HasO.cU (x := (2 : UInt8)) rfl (by decide)) (congrArg some hv_v_18)) ?_
         refine jc (op_pickT lb (.tmp rfl) hc9 (.tmp rfl)) <| jmv rfl rfl ?_
         refine JL.nrm ⟨[(4, ov (S (rI .i64) (4 : Int))), (40, ov (S rB v_18))], [], []⟩ [] rfl (.cons rfl (.cons rfl .nil)) rfl ?_
         refine JL.cnd (sv := ov (A zq0 zq30)) (Guard.isT (ltB rfl) rfl rfl) rfl (ltB rfl) (fun hq_10 => op_build lb tZ50 zr50 tp50 (.S (off := 0) rfl .cI rfl ((UpdR.fst (UpdR.self (by rfl))).at (by rfl)) (.S (off := 1) rfl .cI rfl ((UpdR.snd (UpdR.fst (UpdR.self (by rfl)))).at (by rfl)) (.S (off := 2) rfl .cI rfl ((UpdR.snd (UpdR.snd (UpdR.fst (UpdR.self (by rfl))))).at (by rfl)) .nil))) rfl) ?_
         replace hx1 := bnd_inv hx1
         obtain ⟨v_19, hv_v_19, hx1⟩ := hx1
         refine JL.cnd (sv := ov (S rB v_19)) (Guard.isT (ltB rfl) rfl rfl) rfl (ltB rfl) (fun hq_11 => (op_call (js := []) ld cl10 (sim_frame_May k (api_Frame.mk (5 : Int) (1 : Int) (1 : Int) ([] : (List api_Item)) (api_Event.mk (api_Dot.mk (0 : Int) (0 : UInt64)) ([] : (List UInt8)) ([] : (List UInt8)) (Vector.replicate 16 (0 : UInt64)) ([] : (List api_Dest))) (Vector.replicate 16 (0 : UInt64)) (Vector.replicate 16 (0 : UInt64)) ([] : (List api_Dot)) ([] : (List api_Dot)) (Vector.replicate 32 (0 : UInt8)) ([] : (List (Vector UInt8 32))) ([] : (List Int)) false) v_19 (ifT hv_v_19 hq_11)) .func (.cons (HasO.wk (q := A r_api_Frame (api_Frame.mk (5 : Int) (1 : Int) (1 : Int) ([] : (List api_Item)) (api_Event.mk (api_Dot.mk (0 : Int) (0 : UInt64)) ([] : (List UInt8)) ([] : (List UInt8)) (Vector.replicate 16 (0 : UInt64)) ([] : (List api_Dest))) (Vector.replicate 16 (0 : UInt64)) (Vector.replicate 16 (0 : UInt64)) ([] : (List api_Dot)) ([] : (List api_Dot)) (Vector.replicate 32 (0 : UInt8)) ([] : (List (Vector UInt8 32))) ([] : (List Int)) false)) (HasO.cnd (.tmp rfl) hq_11) (wkAK (Wk.st (Wk.pair Wk.refl (Wk.pair Wk.refl (Wk.pair Wk.refl (Wk.pair Wk.nil (Wk.pair (Wk.st (Wk.pair Wk.refl (Wk.pair Wk.refl (Wk.pair Wk.nil (Wk.pair Wk.refl (Wk.pair Wk.nil Wk.refl)))))) (Wk.pair Wk.refl (Wk.pair Wk.refl (Wk.pair Wk.nil (Wk.pair Wk.nil (Wk.pair Wk.refl (Wk.pair Wk.nil (Wk.pair Wk.nil (Wk.pair Wk.refl Wk.refl)))))))))))))))) .nil) rfl).post (fun _ => Imp.refl)) ?_
         replace hx1 := lt1_inv hx1
         obtain ⟨v_20, hv_v_20, hx1⟩ := hx1
         refine JL.cnd (sv := ov (S rB v_20)) (Guard.isT (ltB rfl) rfl rfl) rfl (ltB rfl) (fun hq_12 => op_not lb (HasO.cnd (.tmp rfl) hq_12) hv_v_20) ?_
         replace hx1 := lt1_inv hx1
         obtain ⟨v_21, hv_v_21, hx1⟩ := hx1
         refine jc (op_pickCS lb (.tmp rfl) (fun hb13 => (HasO.cnd (.tmp rfl) hb13)) (fun hb13 => .cB) hv_v_21) <| jmv rfl rfl ?_
         refine JL.cnd (sv := ov (S (rI .i64) (4 : Int))) (Guard.isT (ltB rfl) rfl rfl) rfl (ltB rfl) (fun hq_14 => op_move lb (.tmp rfl)) ?_
         replace hx1 := bnd_inv hx1
         obtain ⟨_, hv_u_22, hx1⟩ := hx1
         refine JL.cnd (sv := ov (S (rI .i64) (4 : Int))) (Guard.isT (ltB rfl) rfl rfl) rfl (ltB rfl) (fun hq_15 => (op_call (js := []) ld cl9 (sim_law11_num k (4 : Int) () (ifT hv_u_22 hq_15)) .func (.cons (HasO.cnd (.tmp rfl) hq_15) .nil) rfl).post (fun _ => Imp.refl)) ?_
         refine JL.cnd (sv := ov (S rB true)) (Guard.isT (ltB rfl) rfl rfl) rfl (ltB rfl) (fun hq_16 => op_cmpI lb (HasO.cnd (.tmp rfl) hq_16) .cI (congrArg some (by decide : ((4 : Int) == (4 : Int)) = true))) ?_
         replace hx1 := lt1_inv hx1
         obtain ⟨v_23, hv_v_23, hx1⟩ := hx1
         refine jc (op_pickCS lb (.tmp rfl) (fun hb17 => (HasO.cnd (.tmp rfl) hb17)) (fun hb17 => .cB) hv_v_23) <| jmv rfl rfl ?_
         replace hx1 := bnd_inv hx1
         obtain ⟨v_24, hv_v_24, hx1⟩ := hx1
         refine JL.cnd (sv := ov (S rS v_24)) (Guard.isT (ltB rfl) rfl rfl) rfl (ltB rfl) (fun hq_18 => (op_call (js := []) ld cl11 (sim_frame_Name k (7 : Int) v_24 (ifT hv_v_24 hq_18)) .func (.cons .cI .nil) rfl).post (fun _ => Imp.refl)) ?_
         replace hx1 := lt1_inv hx1
         obtain ⟨v_25, hv_v_25, hx1⟩ := hx1
         refine JL.cnd (sv := ov (S rB v_25)) (Guard.isT (ltB rfl) rfl rfl) rfl (ltB rfl) (fun hq_19 => op_cmpS lb (HasO.cnd (.tmp rfl) hq_19) (HasO.cS (l := [105, 116, 101, 109, 115]) rfl) (congrArg some hv_v_25)) ?_
         refine JL.sub ⟨[(50, ov (S rB v_23)), (52, bif v_23 then ov (S rB v_25) else .one .und)], [], []⟩ (.cons rfl (.cons rfl .nil)) rfl rfl ?_
         replace hx1 := lt1_inv hx1
         obtain ⟨v_26, hv_v_26, hx1⟩ := hx1
         refine jc (op_pickCS lb (.tmp rfl) (fun hb20 => (HasO.cnd (.tmp rfl) hb20)) (fun hb20 => .cB) hv_v_26) <| jc (op_assign lb (.tmp rfl)) <| JL.nil ?_
         replace hx1 := Option.some.inj hx1
         first | subst hx1 | clear hx1
         exact JQ.join () (Imp.norm (js := []) rfl (.cons rfl .nil))
       refine JL.sk (.no rfl (ltB rfl) rfl hc9) <| JL.sk (.no rfl (ltB rfl) rfl hc9) <| JL.sk (.no rfl (ltB rfl) rfl hc9) <| JL.sk (.no rfl (ltB rfl) rfl hc9) <| jc (op_pickF lb (.tmp rfl) hc9 .cB) ?_
       refine jmv rfl rfl <| JL.sk (.no rfl (ltB rfl) rfl rfl) <| JL.sk (.no rfl (ltB rfl) rfl rfl) <| JL.sk (.no rfl (ltB rfl) rfl rfl) <| jc (op_pickF lb (.tmp rfl) rfl .cB) ?_
       refine jmv rfl rfl <| JL.sk (.no rfl (ltB rfl) rfl rfl) <| JL.sk (.no rfl (ltB rfl) rfl rfl) <| JL.sk (.no rfl (ltB rfl) rfl rfl) <| jc (op_pickF lb (.tmp rfl) rfl .cB) ?_
       refine jmv rfl rfl ?_
       refine JL.nrm ⟨[(50, ov (S rB false))], [], []⟩ [] rfl (.cons rfl .nil) rfl ?_
       refine JL.sk (.no rfl (ltB rfl) rfl rfl) <| JL.sk (.no rfl (ltB rfl) rfl rfl) <| jc (op_pickF lb (.tmp rfl) rfl .cB) <| jc (op_assign lb (.tmp rfl)) <| JL.nil ?_
       replace hx1 := Option.some.inj hx1
       first | subst hx1 | clear hx1
       exact JQ.join () (Imp.norm (js := []) rfl (.cons rfl .nil))
     refine JL.sk (.no rfl (ltB rfl) rfl hc7) <| JL.sk (.no rfl (ltB rfl) rfl hc7) <| JL.sk (.no rfl (ltB rfl) rfl hc7) <| JL.sk (.no rfl (ltB rfl) rfl hc7) <| jc (op_pickF lb (.tmp rfl) hc7 .cB) ?_
     refine jmv rfl rfl <| JL.sk (.no rfl (ltB rfl) rfl rfl) <| JL.sk (.no rfl (ltB rfl) rfl rfl) <| JL.sk (.no rfl (ltB rfl) rfl rfl) <| JL.sk (.no rfl (ltB rfl) rfl rfl) ?_
     refine jc (op_pickF lb (.tmp rfl) rfl .cB) <| jmv rfl rfl <| JL.sk (.no rfl (ltB rfl) rfl rfl) <| JL.sk (.no rfl (ltB rfl) rfl rfl) <| JL.sk (.no rfl (ltB rfl) rfl rfl) ?_
     refine jc (op_pickF lb (.tmp rfl) rfl .cB) <| jmv rfl rfl <| JL.sk (.no rfl (ltB rfl) rfl rfl) <| JL.sk (.no rfl (ltB rfl) rfl rfl) <| JL.sk (.no rfl (ltB rfl) rfl rfl) ?_
     refine jc (op_pickF lb (.tmp rfl) rfl .cB) <| jmv rfl rfl <| JL.sk (.no rfl (ltB rfl) rfl rfl) <| JL.sk (.no rfl (ltB rfl) rfl rfl) <| jc (op_pickF lb (.tmp rfl) rfl .cB) ?_
     refine jc (op_assign lb (.tmp rfl)) <| JL.nil ?_
     replace hx1 := Option.some.inj hx1
     first | subst hx1 | clear hx1
     exact JQ.join () (Imp.norm (js := []) rfl (.cons rfl .nil))
   refine JL.sk (.no rfl (ltB rfl) rfl hc5) <| JL.sk (.no rfl (ltB rfl) rfl hc5) <| JL.sk (.no rfl (ltB rfl) rfl hc5) <| JL.sk (.no rfl (ltB rfl) rfl hc5) <| jc (op_pickF lb (.tmp rfl) hc5 .cB) ?_
   refine jmv rfl rfl <| JL.sk (.no rfl (ltB rfl) rfl rfl) <| JL.sk (.no rfl (ltB rfl) rfl rfl) <| JL.sk (.no rfl (ltB rfl) rfl rfl) <| JL.sk (.no rfl (ltB rfl) rfl rfl) ?_
   refine jc (op_pickF lb (.tmp rfl) rfl .cB) <| jmv rfl rfl <| JL.sk (.no rfl (ltB rfl) rfl rfl) <| JL.sk (.no rfl (ltB rfl) rfl rfl) <| JL.sk (.no rfl (ltB rfl) rfl rfl) ?_
   refine JL.sk (.no rfl (ltB rfl) rfl rfl) <| jc (op_pickF lb (.tmp rfl) rfl .cB) <| jmv rfl rfl ?_
   refine JL.nrm ⟨[(4, ov (S (rI .i64) (4 : Int))), (40, ov (S rB false))], [], []⟩ [] rfl (.cons rfl (.cons rfl .nil)) rfl ?_
   refine JL.sk (.no rfl (ltB rfl) rfl rfl) <| JL.sk (.no rfl (ltB rfl) rfl rfl) <| JL.sk (.no rfl (ltB rfl) rfl rfl) <| jc (op_pickF lb (.tmp rfl) rfl .cB) <| jmv rfl rfl ?_
   refine JL.sk (.no rfl (ltB rfl) rfl rfl) <| JL.sk (.no rfl (ltB rfl) rfl rfl) <| JL.sk (.no rfl (ltB rfl) rfl rfl) <| jc (op_pickF lb (.tmp rfl) rfl .cB) <| jmv rfl rfl ?_
   refine JL.sk (.no rfl (ltB rfl) rfl rfl) <| JL.sk (.no rfl (ltB rfl) rfl rfl) <| jc (op_pickF lb (.tmp rfl) rfl .cB) <| jc (op_assign lb (.tmp rfl)) <| JL.nil ?_
   replace hx1 := Option.some.inj hx1
   first | subst hx1 | clear hx1
   exact JQ.join () (Imp.norm (js := []) rfl (.cons rfl .nil))
 refine JL.sk (.no rfl (ltB rfl) rfl hc3) <| JL.sk (.no rfl (ltB rfl) rfl hc3) <| JL.sk (.no rfl (ltB rfl) rfl hc3) <| jc (op_pickF lb (.tmp rfl) hc3 .cB) <| jmv rfl rfl ?_
 refine JL.sk (.no rfl (ltB rfl) rfl rfl) <| JL.sk (.no rfl (ltB rfl) rfl rfl) <| JL.sk (.no rfl (ltB rfl) rfl rfl) <| JL.sk (.no rfl (ltB rfl) rfl rfl) <| jc (op_pickF lb (.tmp rfl) rfl .cB) ?_
 refine jmv rfl rfl <| JL.sk (.no rfl (ltB rfl) rfl rfl) <| JL.sk (.no rfl (ltB rfl) rfl rfl) <| JL.sk (.no rfl (ltB rfl) rfl rfl) <| JL.sk (.no rfl (ltB rfl) rfl rfl) ?_
 refine jc (op_pickF lb (.tmp rfl) rfl .cB) <| jmv rfl rfl <| JL.sk (.no rfl (ltB rfl) rfl rfl) <| JL.sk (.no rfl (ltB rfl) rfl rfl) <| JL.sk (.no rfl (ltB rfl) rfl rfl) ?_
 refine JL.sk (.no rfl (ltB rfl) rfl rfl) <| jc (op_pickF lb (.tmp rfl) rfl .cB) <| jmv rfl rfl <| JL.sk (.no rfl (ltB rfl) rfl rfl) <| JL.sk (.no rfl (ltB rfl) rfl rfl) ?_
 refine JL.sk (.no rfl (ltB rfl) rfl rfl) <| jc (op_pickF lb (.tmp rfl) rfl .cB) <| jmv rfl rfl <| JL.sk (.no rfl (ltB rfl) rfl rfl) <| JL.sk (.no rfl (ltB rfl) rfl rfl) ?_
 refine JL.sk (.no rfl (ltB rfl) rfl rfl) <| jc (op_pickF lb (.tmp rfl) rfl .cB) ?_
 refine JL.nrm ⟨[(49, ov (S rB false))], [], []⟩ [] rfl (.cons rfl .nil) rfl ?_
 refine jmv rfl rfl <| JL.sk (.no rfl (ltB rfl) rfl rfl) <| JL.sk (.no rfl (ltB rfl) rfl rfl) <| jc (op_pickF lb (.tmp rfl) rfl .cB) <| jc (op_assign lb (.tmp rfl)) ?_
 refine JL.nil ?_
 replace hx1 := Option.some.inj hx1
 first | subst hx1 | clear hx1
 exact JQ.join () (Imp.norm (js := []) rfl (.cons rfl .nil))

theorem sim_frame_ItemBytes_1 (k : Nat) (i_1 : api_Item) (r : Bool) (hm : frame_ItemBytes_1 k i_1 = some r) : Sim Try.prog 13 [A r_api_Item i_1] [] (γ := Unit) (fun q => []) (fun q => .one (.val (S rB r))) := by
 unfold frame_ItemBytes_1 at hm
 refine Sim.of Try.func13 rfl rfl (lE rfl) (fun e0 w0 => ?_)
 refine JC.at ⟨[(0, ov (A r_api_Item i_1))], [], []⟩ ?_
 refine jr ?_
 refine jx (op_boxA lb (.tmp rfl)) (fun q => ?_)
 obtain ⟨gb_2, hqq⟩ : ∃ z, z = q := ⟨_, rfl⟩
 subst hqq
 refine jc (op_assign lb .cB) <| jn <| jr <| jc (op_loadA (j := 0) lb tA33 (.tmp rfl) rfl (Comp.self r_api_Item i_1) rfl) ?_
 replace hm := bnd_inv hm
 obtain ⟨v_3, hv_v_3, hm⟩ := hm
 refine jx (op_call (js := []) ld cl14 (sim_frame_MayItem k i_1 v_3 hv_v_3) .func (.cons (.tmp rfl) .nil) rfl) (fun _ => ?_)
 replace hm := lt1_inv hm
 obtain ⟨v_4, hv_v_4, hm⟩ := hm
 refine jc (op_not lb (.tmp rfl) hv_v_4) <| jc (op_assign lb (.tmp rfl)) <| jn ?_
 refine JC.ret ?_
 replace hm := Option.some.inj hm
 subst hm
 exact JQ.done (js := []) (ss := [.val (S rB v_4)]) () (.inl rfl) (.nil rfl) rfl (.cons (.tmp rfl) .nil) rfl rfl rfl

end Go.Proofs.Ytklnihlchhhhlaa
