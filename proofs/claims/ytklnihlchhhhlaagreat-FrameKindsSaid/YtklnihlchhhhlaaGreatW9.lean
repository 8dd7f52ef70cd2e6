/- Walks. -/
import Derived.Test.YtklnihlchhhhlaaGreatT
import Derived.Test.YtklnihlchhhhlaaGreatW0
import Derived.Test.YtklnihlchhhhlaaGreatW2
import Derived.Test.YtklnihlchhhhlaaGreatW3
import Derived.Test.YtklnihlchhhhlaaGreatW4
import Derived.Test.YtklnihlchhhhlaaGreatW6
import Derived.Test.YtklnihlchhhhlaaGreatW7
import Derived.Test.YtklnihlchhhhlaaGreatW8
namespace Go.Proofs.YtklnihlchhhhlaaGreat
open Go Fw
set_option linter.unusedVariables false
set_option maxRecDepth 100000
set_option maxHeartbeats 4000000

theorem Zhp (k : Nat) (t_1 : (List UInt8)) (r : Zah × Int) (hm : ZdS k t_1 = some r) : Sim Tryz.prog 15 [S (rL (rU UInt8)) t_1] [] (γ := Unit) (fun q => []) (fun q => .tup [.val (A Zae r.1), .val (S (rI .i64) r.2)]) := by
 unfold ZdS at hm
 refine Sim.of Tryz.func15 rfl rfl (lE rfl) (fun e0 w0 => ?_)
 refine JC.at ⟨[(0, ov (S (rL (rU UInt8)) t_1))], [], []⟩ <| jr <| jx (Zbh lb tZ39 zr39) fun gb_2 => jc (Zab lb .cI) <| jn <| jr <| jmv rfl rfl <| bI hm fun v3 hv_3 hm => jx (Zak (js := []) ld cl52 (Zdq k t_1 v3 hv_3) .func (.cons tR .nil) rfl) (fun q => ?_)
 obtain ⟨gb_4, go_5, gc_6⟩ := q
 refine jc (Za9 lb tZ90 zr90 tp90 (.S (off := 0) (s := rW (PTR gb_4 0)) (u := ()) rfl (HasO.wk (q := S (rW (PTR gb_4 0)) ()) tR wkV) rfl ((UpdR.fst (UpdR.self (by rfl))).at (by rfl)) .nil) rfl) <| jx (ZaX lb tR) fun gb_7 => JL.sub ⟨[(0, ov (S (rL (rU UInt8)) t_1)), (2, ov (PTR gb_2 0)), (10, ov (PTR gb_7 0))], [cvar gb_4 (zq28 go_5 v3 gc_6) ((), (true, (true, ()))), cown go_5 (rU UInt8) v3 0 gc_6, cvar gb_2 zq2 zq3, cvar gb_7 (zq29 gb_4) zq27], []⟩ (.cons rfl (.cons rfl (.cons rfl .nil))) rfl rfl <| jc (Zab lb tR) <| jn <| JC.seq ?_
 obtain ⟨⟨v8, x_9⟩, hv_8, hm⟩ := Zay hm
 obtain ⟨v10, hv_10, hm⟩ := ZaQ hm
 obtain ⟨⟨v11, x_12⟩, hv_11, hm⟩ := Zay hm
 obtain ⟨v13, hv_13, hm⟩ := ZaQ hm
 obtain ⟨⟨v14, x_15⟩, hv_14, hm⟩ := Zay hm
 obtain ⟨v16, hv_16, hm⟩ := ZaQ hm
 refine JC.anyF (base := [(0, ov (S (rL (rU UInt8)) t_1)), (2, ov (PTR gb_2 0)), (4, ov (PTR gb_7 0))])
     (fs := fun γ => [⟨some 11, ov (PTR gb_7 0)⟩, ⟨some 12, ov (PTR gb_7 0)⟩, ⟨some 13, ov (PTR gb_7 0)⟩, ⟨some 14, ov (PTR gb_7 (0 + 0))⟩, ⟨some 15, ov (PTR gb_4 0)⟩, ⟨some 16, ov (S (rU UInt64) v8)⟩, ⟨some 17, ov (S (rI .i64) v10)⟩, ⟨some 18, ov (PTR gb_7 0)⟩, ⟨some 19, ov (PTR gb_7 0)⟩, ⟨some 20, ov (PTR gb_7 (0 + 0))⟩, ⟨some 21, ov (PTR gb_4 0)⟩, ⟨some 22, ov (S (rU UInt64) v11)⟩, ⟨some 23, ov (S (rI .i64) v13)⟩, ⟨some 24, ov (PTR gb_7 0)⟩, ⟨some 25, ov (PTR gb_7 0)⟩, ⟨some 26, ov (PTR gb_7 (0 + 0))⟩, ⟨some 27, ov (PTR gb_4 0)⟩, ⟨some 28, ov (S (rU UInt64) v14)⟩, ⟨some 29, ov (S (rI .i64) v16)⟩, ⟨some 30, ov (A zq2 (zq32 v10 v13 v16))⟩, ⟨some 31, ov (PTR gb_7 0)⟩, ⟨some 32, ov (PTR gb_7 (0 + 1))⟩, ⟨none, .one .any⟩])
     (rs := fun γ => [⟨cvar gb_4 (zq28 go_5 v3 gc_6) ((), (true, (true, ()))), none, (some 5), []⟩, ⟨cown go_5 (rU UInt8) v3 0 gc_6, none, (some 5), []⟩, ⟨cvar gb_2 zq2 zq3, none, none, []⟩, ⟨cvar gb_7 (zq29 gb_4) zq27, none, (some 22), [4, 10, 16]⟩, ⟨cvar gb_4 Zac x_9, (some 5), (some 11), []⟩, ⟨cown go_5 (rU UInt8) v3 (List.length v3) gc_6, (some 5), none, []⟩, ⟨cvar gb_4 Zac x_12, (some 11), (some 17), []⟩, ⟨cvar gb_4 Zac x_15, (some 17), none, []⟩, ⟨cvar gb_7 (zq29 gb_4) (zq31 v10 v13 v16), (some 22), none, []⟩])
     (afts := nn 23) (js := [0, 0, 0, 0]) ZbT (.cons rfl (.cons rfl (.cons rfl .nil))) (fun _ => rfl)
     (by
      refine db 1 4 <| db 2 4 <| dS 3 (fun γ ρ B hb hd => Zas lb (tl hd 1 12) (fun e v h => by subst h; rfl)) <| dS 4 (fun γ ρ B hb hd => Zaa (off := 0) lb ZbO (tl hd 2 13)) <| dR 5 (fun γ ρ B hb hd => Zan.lk ⟨ρ, (cvar gb_7 (zq29 gb_4) zq27) :: B, _⟩ (ZaM (j := 0) lb tS87 (tl hd 3 14) rfl (Comp.trans (Comp.self (zq29 gb_4) zq27) (Comp.at' (Comp.inF (Comp.self (rW (PTR gb_4 0)) ()) (lE rfl)) (by rfl : _ = 0)) (lE rfl)))) ?_
      refine dR 6 (fun γ ρ B hb hd => Zan.at ⟨ρ, (cvar gb_4 (zq28 go_5 v3 gc_6) ((), (true, (true, ())))) :: (cown go_5 (rU UInt8) v3 0 gc_6) :: B, _⟩ (setO ⟨ρ, (cvar gb_4 Zac x_9) :: (cown go_5 (rU UInt8) v3 (List.length v3) gc_6) :: B, _⟩ _ _) ((Zak (js := [0, 0]) ld cl53 (ZcC k (1 : Int) true true v3 gb_4 go_5 gc_6 (v8, x_9) hv_8) .func (.cons (tl hd 4 15) (.cons .cI .nil)) rfl).post (fun _ => Imp.refl))) <| dS 7 (fun γ ρ B hb hd => Zcf lb tu24 tu22 (tl hd 5 16) hv_10) <| db 8 4 <| dS 9 (fun γ ρ B hb hd => Zas lb (tl hd 7 18) (fun e v h => by subst h; rfl)) <| dS 10 (fun γ ρ B hb hd => Zaa (off := 0) lb ZbO (tl hd 8 19)) ?_
      refine dR 11 (fun γ ρ B hb hd => Zan.lk ⟨ρ, (cvar gb_7 (zq29 gb_4) zq27) :: B, _⟩ (ZaM (j := 0) lb tS87 (tl hd 9 20) rfl (Comp.trans (Comp.self (zq29 gb_4) zq27) (Comp.at' (Comp.inF (Comp.self (rW (PTR gb_4 0)) ()) (lE rfl)) (by rfl : _ = 0)) (lE rfl)))) <| dR 12 (fun γ ρ B hb hd => Zan.at ⟨ρ, (cvar gb_4 Zac x_9) :: B, _⟩ (setO ⟨ρ, (cvar gb_4 Zac x_12) :: B, _⟩ _ _) ((Zak (js := [0]) ld cl53 (ZaD k (1 : Int) x_9 gb_4 (v11, x_12) hv_11) .func (.cons (tl hd 10 21) (.cons .cI .nil)) rfl).post (fun _ => Imp.refl))) <| dS 13 (fun γ ρ B hb hd => Zcf lb tu24 tu3 (tl hd 11 22) hv_13) <| db 14 4 <| dS 15 (fun γ ρ B hb hd => Zas lb (tl hd 13 24) (fun e v h => by subst h; rfl)) ?_
      refine dS 16 (fun γ ρ B hb hd => Zaa (off := 0) lb ZbO (tl hd 14 25)) <| dR 17 (fun γ ρ B hb hd => Zan.lk ⟨ρ, (cvar gb_7 (zq29 gb_4) zq27) :: B, _⟩ (ZaM (j := 0) lb tS87 (tl hd 15 26) rfl (Comp.trans (Comp.self (zq29 gb_4) zq27) (Comp.at' (Comp.inF (Comp.self (rW (PTR gb_4 0)) ()) (lE rfl)) (by rfl : _ = 0)) (lE rfl)))) <| dR 18 (fun γ ρ B hb hd => Zan.at ⟨ρ, (cvar gb_4 Zac x_12) :: B, _⟩ (setO ⟨ρ, (cvar gb_4 Zac x_15) :: B, _⟩ _ _) ((Zak (js := [0]) ld cl53 (ZaD k (1 : Int) x_12 gb_4 (v14, x_15) hv_14) .func (.cons (tl hd 16 27) (.cons .cI .nil)) rfl).post (fun _ => Imp.refl))) <| dS 19 (fun γ ρ B hb hd => Zcf lb tu24 tu3 (tl hd 17 28) hv_16) <| dS 20 (fun γ ρ B hb hd => Za9 lb tZ39 zr39 tp39 (.S (off := 0) rfl (tl hd 6 17) rfl ((UpdR.fst (UpdR.self (by rfl))).at (by rfl)) (.S (off := 1) rfl (tl hd 12 23) rfl ((UpdR.snd (UpdR.fst (UpdR.self (by rfl)))).at (by rfl)) (.S (off := 2) rfl (tl hd 18 29) rfl ((UpdR.snd (UpdR.snd (UpdR.fst (UpdR.self (by rfl))))).at (by rfl)) .nil))) rfl) ?_
      refine dS 21 (fun γ ρ B hb hd => Zas lb (tl hd 0 11) (fun e v h => by subst h; rfl)) <| dS 22 (fun γ ρ B hb hd => Zaa (off := 1) lb ZdF (tl hd 20 31)) <| dR 23 (fun γ ρ B hb hd => Zan.at ⟨ρ, (cvar gb_7 (zq29 gb_4) zq27) :: B, _⟩ (setO ⟨ρ, (cvar gb_7 (zq29 gb_4) (zq31 v10 v13 v16)) :: B, _⟩ _ _) (ZaP (j := 0) tA39 (tl hd 21 32) (tl hd 19 30) rfl ((UpdR.snd (UpdR.fst (UpdR.self (by rfl)))).at (by change (1 + 0) = (0 + 1); omega)) rfl)) ?_
      exact ZaG.nil)
     (by decide +kernel) (fun _ => rfl) (fun _ => rfl) (fun _ => rfl) rfl
     (ρ' := fun γ => [(0, ov (S (rL (rU UInt8)) t_1)), (2, ov (PTR gb_2 0)), (4, ov (PTR gb_7 0))])
     (X' := fun γ => [cvar gb_2 zq2 zq3, cown go_5 (rU UInt8) v3 (List.length v3) gc_6, cvar gb_4 Zac x_15, cvar gb_7 (zq29 gb_4) (zq31 v10 v13 v16)])
     (fun γ ρ hb hd => (.cons (hb 0 _ rfl) (.cons (hb 2 _ rfl) (.cons (hb 4 _ rfl) .nil)))) (fun _ => rfl) (fun γ => ?_)
 refine JQ.at ⟨[(0, ov (S (rL (rU UInt8)) t_1)), (2, ov (PTR gb_2 0)), (4, ov (PTR gb_7 0))], [cvar gb_2 zq2 zq3, cown go_5 (rU UInt8) v3 (List.length v3) gc_6, cvar gb_4 Zac x_15, cvar gb_7 (zq29 gb_4) (zq31 v10 v13 v16)], []⟩ <| JQ.then ?_
 obtain ⟨⟨Reader_56, f_57⟩, hx1, hq1⟩ := Zay hm
 refine JC.seqJ (γ := Unit) (stj := fun _ => ⟨[(0, ov (S (rL (rU UInt8)) t_1)), (2, ov (PTR gb_2 0)), (4, ov (PTR gb_7 0))], [cvar gb_2 zq2 zq3, cvar gb_7 (zq50 gb_4) ((), (f_57, ())), cvar gb_4 Zac Reader_56], []⟩) (fun _ => ?_) ?_
 · refine JC.seq <| bI hq1 fun x_65 hx10 hq10 => JC.seqJ (γ := Unit) (stj := fun _ => ⟨[(2, ov (PTR gb_2 0)), (4, ov (PTR gb_7 0)), (63, ov (S rB x_65))], [cvar gb_2 zq2 zq3, cvar gb_7 (zq50 gb_4) ((), (f_57, ())), cvar gb_4 Zac Reader_56], []⟩) (fun _ => ?_) ?_
   · refine jif tR hq10 (fun hc17 hq10 => ?_) (fun hc17 hq10 => ?_)
     · refine jr <| jc (Za9 lb tZ39 zr39 tp39 .nil rfl) <| jc (ZaP (j := 0) tA39 tR tR rfl (UpdR.self (by rfl)) rfl) <| jc (Zab lb .cI) <| jn <| JC.ret <| JQ.outR ?_
       obtain rfl := so hq10
       refine JQ.pre (Imp.var (j := 0) (q := Zae) (y := (Zah.mk (0 : Int) (0 : Int) (0 : Int) ([] : (List Zap)) (Zar.mk (Zaf.mk (0 : Int) (0 : UInt64)) ([] : (List UInt8)) ([] : (List UInt8)) (Vector.replicate 16 (0 : UInt64)) ([] : (List ZaA))) (Vector.replicate 16 (0 : UInt64)) (Vector.replicate 16 (0 : UInt64)) ([] : (List Zaf)) ([] : (List Zaf)) (Vector.replicate 32 (0 : UInt8)) ([] : (List (Vector UInt8 32))) ([] : (List Int)) false)) rfl (Wk.st (Wk.pair Wk.refl (Wk.pair Wk.refl (Wk.pair Wk.refl (Wk.pair Wk.nil (Wk.pair (Wk.st (Wk.pair Wk.refl (Wk.pair Wk.refl (Wk.pair Wk.nil (Wk.pair Wk.refl (Wk.pair Wk.nil Wk.refl)))))) (Wk.pair Wk.refl (Wk.pair Wk.refl (Wk.pair Wk.nil (Wk.pair Wk.nil (Wk.pair Wk.refl (Wk.pair Wk.nil (Wk.pair Wk.nil (Wk.pair Wk.refl Wk.refl))))))))))))))) ?_
       exact JQ.done (js := []) (ss := [.val (A Zae (Zah.mk (0 : Int) (0 : Int) (0 : Int) ([] : (List Zap)) (Zar.mk (Zaf.mk (0 : Int) (0 : UInt64)) ([] : (List UInt8)) ([] : (List UInt8)) (Vector.replicate 16 (0 : UInt64)) ([] : (List ZaA))) (Vector.replicate 16 (0 : UInt64)) (Vector.replicate 16 (0 : UInt64)) ([] : (List Zaf)) ([] : (List Zaf)) (Vector.replicate 32 (0 : UInt8)) ([] : (List (Vector UInt8 32))) ([] : (List Int)) false)), .val (S (rI .i64) (4 : Int))]) () (.inl rfl) (.nil rfl) rfl (.cons (.cellA (j := 0) tA39 rfl rfl) (.cons (.tmp rfl) .nil)) rfl rfl rfl
     refine JC.skip <| JQ.then <| jr <| jmv rfl rfl <| jc (Zas lb tR (fun e v h => by subst h; rfl)) <| jc (Zaa (off := 1) lb ZdF tR) <| jc (Zaw (j := 1) lb tA39 tR rfl (Comp.trans (Comp.self (zq50 gb_4) ((), (f_57, ()))) (Comp.at' (Comp.inS (Comp.inF (Comp.self Zae f_57) (lE rfl))) (by rfl : _ = 1)) (lE rfl)) rfl) <| jc (ZaP (j := 0) tA39 tR tR rfl (UpdR.self (by rfl)) rfl) <| jc (Zab lb .cI) <| jn <| JC.ret ?_
     obtain rfl := so hq10
     exact JQ.done (js := []) (ss := [.val (A Zae f_57), .val (S (rI .i64) (0 : Int))]) () (.inl rfl) (.nil rfl) rfl (.cons (.cellA (j := 0) tA39 rfl rfl) (.cons (.tmp rfl) .nil)) rfl rfl rfl
   refine JC.region <| jmv rfl rfl <| jc (Zas lb tR (fun e v h => by subst h; rfl)) <| jc (Zaa (off := 1) lb ZdF tR) <| jc (Zaw (j := 1) lb tA39 tR rfl (Comp.trans (Comp.self (zq50 gb_4) ((), (f_57, ()))) (Comp.at' (Comp.inS (Comp.inF (Comp.self Zae f_57) (lE rfl))) (by rfl : _ = 1)) (lE rfl)) rfl) <| bI hx10 fun v58 hv_58 hx10 => jx (Zak (js := []) ld cl11 (Zec k f_57 v58 hv_58) .func (.cons tR .nil) rfl) fun _ => lI hx10 fun v59 hv_59 hx10 => jc (Zbc lb tR hv_59) <| jmv rfl rfl <| jF (ov (PTR gb_7 0)) rfl rfl rfl rfl (fun hq_11 => Zax lb tR) <| jF (ov (PTR gb_7 0)) rfl rfl rfl rfl (fun hq_12 => Zas lb (HasO.cnd tR (notT (notF hq_12))) (fun e v h => by subst h; rfl)) <| jF (ov (PTR gb_7 (0 + 1))) rfl rfl rfl rfl (fun hq_13 => Zaa (off := 1) lb ZdF (HasO.cnd tR (notT (notF hq_13)))) <| jF (ov (A Zae f_57)) rfl rfl rfl rfl (fun hq_14 => Zaw (j := 1) lb tA39 (HasO.cnd tR (notT (notF hq_14))) rfl (Comp.trans (Comp.self (zq50 gb_4) ((), (f_57, ()))) (Comp.at' (Comp.inS (Comp.inF (Comp.self Zae f_57) (lE rfl))) (by rfl : _ = 1)) (lE rfl)) rfl) ?_
   rcases ZcG hx10 with ⟨hc16, hx10⟩ | ⟨hc16, hx10⟩
   · refine jk rfl hc16 <| jk rfl hc16 <| jk rfl hc16 <| jk rfl hc16 <| jc (Zb7 lb tR hc16 .cB) <| JL.sub ⟨[(2, ov (PTR gb_2 0)), (4, ov (PTR gb_7 0)), (63, ov (S rB true))], [cvar gb_2 zq2 zq3, cvar gb_7 (zq50 gb_4) ((), (f_57, ())), cvar gb_4 Zac Reader_56], []⟩ (.cons rfl (.cons rfl (.cons rfl .nil))) rfl rfl <| JL.nil ?_
     try obtain rfl := so hx10
     exact JQ.join () (Imp.norm (js := [0, 0, 0]) rfl (.cons rfl (.cons rfl (.cons rfl .nil))))
   refine bI hx10 fun v60 hv_60 hx10 => JL.runX (.yes rfl (ltB rfl) rfl hc16) (Zak (js := []) ld cl27 (Zfd k f_57 v60 hv_60) .func (.cons (HasO.cnd tR (notT hc16)) .nil) rfl) (fun q => ?_)
   obtain ⟨go_61, gc_62⟩ := q
   refine JL.sub ⟨[(0, ov (S (rL (rU UInt8)) t_1)), (2, ov (PTR gb_2 0)), (4, ov (PTR gb_7 0)), (54, ov (S rB v59)), (59, ov (HDR go_61 0 (List.length v60) gc_62))], [cown go_61 (rU UInt8) v60 (List.length v60) gc_62, cvar gb_2 zq2 zq3, cvar gb_7 (zq50 gb_4) ((), (f_57, ())), cvar gb_4 Zac Reader_56], []⟩ (.cons rfl (.cons rfl (.cons rfl (.cons rfl (.cons rfl .nil))))) rfl rfl <| JL.run (.yes rfl (ltB rfl) rfl hc16) (Zax lb tR) <| bI hx10 fun v63 hv_63 hx10 => JL.pre (Imp.frz (j := 0) rfl (ImpK.slotH (s := 59) rfl ImpK.refl)) <| JL.runX (.yes rfl (ltB rfl) rfl hc16) (Zak (js := []) ld cl55 (Zcg k v60 t_1 v63 hv_63) .func (.cons (HasO.wk tR wkHL) (.cons tR .nil)) rfl) fun _ => lI hx10 fun v64 hv_64 hx10 => JL.run (.yes rfl (ltB rfl) rfl hc16) (Zbc lb tR hv_64) <| jc (Za6 lb tR hc16 tR) <| JL.nil ?_
   try obtain rfl := so hx10
   exact JQ.join () (Imp.norm (js := [1, 1, 1]) rfl (.cons rfl (.cons rfl (.cons rfl .nil))))
 refine JC.seq ?_
 obtain ⟨v17, hv_17, hx1⟩ := Zay hx1
 obtain ⟨⟨v19, is_20⟩, hv_19, hx1⟩ := Zay hx1
 refine JC.anyF (base := [(0, ov (S (rL (rU UInt8)) t_1)), (2, ov (PTR gb_2 0)), (4, ov (PTR gb_7 0))])
     (fs := fun γ => [⟨some 34, ov (MPV (deo (γ 0 0)))⟩, ⟨some 35, ov (PTR gb_7 0)⟩, ⟨some 36, ov (PTR gb_7 0)⟩, ⟨some 37, ov (PTR gb_7 (0 + 1))⟩, ⟨some 38, ov (PTR gb_7 ((0 + 1) + 0))⟩, ⟨some 39, ov (S (rI .i64) v10)⟩, ⟨some 40, .tup [.val (A ZaI v19), .val (S rB is_20)]⟩, ⟨some 33, .tup [.val (A ZaI v19), .val (S rB is_20)]⟩, ⟨some 41, ov (A ZaI v19)⟩, ⟨some 42, ov (S rB is_20)⟩, ⟨some 5, ov (PTR (γ 10 0) 0)⟩, ⟨none, .one .any⟩, ⟨some 6, ov (S rB is_20)⟩])
     (rs := fun γ => [⟨cvar gb_2 zq2 zq3, none, none, []⟩, ⟨cown go_5 (rU UInt8) v3 (List.length v3) gc_6, none, none, []⟩, ⟨cvar gb_4 Zac x_15, none, none, []⟩, ⟨cvar gb_7 (zq29 gb_4) (zq31 v10 v13 v16), none, none, [5]⟩, ⟨cmap (deo (γ 0 0)) (S (rI .i64)) (A ZaI) (some (v17)), (some 0), none, [6]⟩, ⟨cvar (γ 10 0) ZaI (Zal.mk (none : Option Nat) (none : Option Nat)), (some 10), (some 11), []⟩, ⟨cvar (γ 10 0) ZaI v19, (some 11), none, []⟩])
     (afts := [[0, 6, 7, 8, 9, 11, 12], [], [], [], [], [], [], [], [], [], [10, 11, 12], [], []]) (js := [0, 0, 0, 0]) ZbT (.cons rfl (.cons rfl (.cons rfl .nil))) (fun _ => rfl)
     (by
      refine ZaG.cons (j := 1) rfl (fun _ => rfl) (.runX (fun _ _ => rfl) (fun γ ρ B hb hd => ⟨.none, OpX.ghost (γ := Option Nat) (st' := fun q => setO ⟨ρ, (cmap q (S (rI .i64)) (A ZaI) (some (v17))) :: B, _⟩ (some 34) (ov (MPV q))) (fun q c => eno q) (Zak (js := []) ld cl54 (ZfS k v17 hv_17) .func .nil rfl) (fun q => by cases q <;> exact Imp.refl)⟩) (fun _ _ => rfl) (fun _ _ => rfl)) ?_
      refine db 2 4 <| dS 3 (fun γ ρ B hb hd => Zas lb (tl hd 1 35) (fun e v h => by subst h; rfl)) <| dS 4 (fun γ ρ B hb hd => Zaa (off := 1) lb ZdF (tl hd 2 36)) <| dS 5 (fun γ ρ B hb hd => Zaa (off := 0) lb Zeu (tl hd 3 37)) <| dR 6 (fun γ ρ B hb hd => Zan.lk ⟨ρ, (cvar gb_7 (zq29 gb_4) (zq31 v10 v13 v16)) :: B, _⟩ (Zai (j := 0) lb tS22 (tl hd 4 38) rfl (Comp.trans (Comp.trans (Comp.self (zq29 gb_4) (zq31 v10 v13 v16)) (Comp.at' (Comp.inS (Comp.inF (Comp.self zq2 (zq32 v10 v13 v16)) (lE rfl))) (by rfl : _ = 1)) (lE rfl)) (Comp.at' (Comp.inF (Comp.self (rI .i64) v10) (lE rfl)) (by rfl : _ = 0)) (lE rfl)) rfl rfl)) ?_
      refine dR 7 (fun γ ρ B hb hd => Zan.lk ⟨ρ, (cmap (deo (γ 0 0)) (S (rI .i64)) (A ZaI) (some (v17))) :: B, _⟩ (Zkt (z0 := (Zal.mk (none : Option Nat) (none : Option Nat))) (j := 0) lb tu97 ky22 tZ95 (fun e => ⟨_, rfl, zv95 e⟩) rfl (tl hd 0 34) (tl hd 5 39) hv_19)) <| dm 8 6 40 <| dS 9 (fun γ ρ B hb hd => Zaz (i := 0) lb (tl hd 7 33) rfl) <| dS 10 (fun γ ρ B hb hd => Zaz (i := 1) lb (tl hd 7 33) rfl) ?_
      refine ZaG.cons (j := 11) rfl (fun _ => rfl) (.runX (fun _ _ => rfl) (fun γ ρ B hb hd => ⟨.none, OpX.ghost (γ := Nat) (st' := fun q => setO ⟨ρ, (cvar q ZaI (Zal.mk (none : Option Nat) (none : Option Nat))) :: B, _⟩ (some 5) (ov (PTR q 0))) (fun q c => q) (OpX.front (Zbh lb tZ95 zr95)) (fun q => Imp.refl)⟩) (fun _ _ => rfl) (fun _ _ => rfl)) ?_
      refine dR 12 (fun γ ρ B hb hd => Zan.at ⟨ρ, (cvar (γ 10 0) ZaI (Zal.mk (none : Option Nat) (none : Option Nat))) :: B, _⟩ (setO ⟨ρ, (cvar (γ 10 0) ZaI v19) :: B, _⟩ _ _) (ZaP (j := 0) tA95 (tl hd 10 5) (tl hd 8 41) rfl (UpdR.self (by rfl)) rfl)) <| dS 13 (fun γ ρ B hb hd => Zab lb (tl hd 9 42)) ?_
      exact ZaG.nil)
     (by decide +kernel) (fun _ => rfl) (fun _ => rfl) (fun _ => rfl) rfl
     (ρ' := fun γ => [(0, ov (S (rL (rU UInt8)) t_1)), (2, ov (PTR gb_2 0)), (4, ov (PTR gb_7 0)), (5, ov (PTR (γ 10 0) 0)), (6, ov (S rB is_20))])
     (X' := fun γ => [cvar gb_2 zq2 zq3, cown go_5 (rU UInt8) v3 (List.length v3) gc_6, cvar gb_4 Zac x_15, cvar gb_7 (zq29 gb_4) (zq31 v10 v13 v16), cmap (deo (γ 0 0)) (S (rI .i64)) (A ZaI) (some (v17)), cvar (γ 10 0) ZaI v19])
     (fun γ ρ hb hd => (.cons (hb 0 _ rfl) (.cons (hb 2 _ rfl) (.cons (hb 4 _ rfl) (.cons (hdq hd 10 5 rfl) (.cons (hdq hd 12 6 rfl) .nil)))))) (fun _ => rfl) (fun γ => ?_)
 generalize (deo (γ 0 0)) = go_18
 generalize (γ 10 0) = gb_21
 clear γ
 refine JQ.at ⟨[(0, ov (S (rL (rU UInt8)) t_1)), (2, ov (PTR gb_2 0)), (4, ov (PTR gb_7 0)), (5, ov (PTR gb_21 0)), (6, ov (S rB is_20))], [cvar gb_2 zq2 zq3, cown go_5 (rU UInt8) v3 (List.length v3) gc_6, cvar gb_4 Zac x_15, cvar gb_7 (zq29 gb_4) (zq31 v10 v13 v16), cmap go_18 (S (rI .i64)) (A ZaI) (some (v17)), cvar gb_21 ZaI v19], []⟩ <| JQ.then <| jr <| jmv rfl rfl <| jn <| jif tR hx1 (fun hc2 hx1 => ?_) (fun hc2 hx1 => ?_)
 · refine JC.region <| jc (Zaa (off := 1) lb Zna tR) <| jc (Zai (j := 5) lb tS93 tR rfl (cT (Zf7 v19) rfl) rfl rfl) <| jmv rfl rfl ?_
   replace hx1 := Zfm hx1
   rcases hx1 with ⟨hf3, hx1⟩ | hx1
   · refine JL.pre (Imp.slot (s := 45) (q := CLO 93 []) rfl (ZgS hf3)) ?_
     obtain ⟨⟨x_22, x_23⟩, hv_x_22, hx1⟩ := Zay hx1
     refine jx (Zak (js := [3, 2]) ld cl93 (Zfy k v10 v13 v16 (Zaf.mk (0 : Int) (0 : UInt64)) ([] : (List UInt8)) (Vector.replicate 16 (0 : UInt64)) (Vector.replicate 16 (0 : UInt64)) (Vector.replicate 16 (0 : UInt64)) (Vector.replicate 32 (0 : UInt8)) false x_15 gb_7 gb_4 (x_22, x_23) hv_x_22) tR (.cons tR .nil) rfl) (fun q => ?_)
     obtain ⟨go_24, gc_25⟩ := q
     refine JL.nil ?_
     have hz := Option.some.inj hx1
     replace hz := Prod.mk.inj hz
     obtain ⟨hz_a, hz⟩ := hz
     first | subst hz_a | clear hz_a
     first | subst hz | clear hz
     refine JQ.pre (Imp.frz (j := 2) rfl (ImpK.var (j := 0) (q := (zq63 gb_4 go_24 x_23 gc_25)) (y := (zq31 v10 v13 v16)) rfl (Wk.pair Wk.refl (Wk.pair (Wk.pair Wk.refl (Wk.pair Wk.refl (Wk.pair Wk.refl (Wk.pair Wk.own (Wk.pair Wk.refl (Wk.pair Wk.refl (Wk.pair Wk.refl (Wk.pair Wk.refl (Wk.pair Wk.refl (Wk.pair Wk.refl (Wk.pair Wk.refl (Wk.pair Wk.refl (Wk.pair Wk.refl Wk.refl))))))))))))) Wk.refl)) ImpK.refl)) <| JQ.pre (Imp.var (j := 0) (q := (zq50 gb_4)) (y := (zq64 v10 v13 v16 x_23)) rfl (Wk.pair Wk.refl (Wk.pair (Wk.st (Wk.pair Wk.refl (Wk.pair Wk.refl (Wk.pair Wk.refl (Wk.pair Wk.hl (Wk.pair (Wk.st (Wk.pair Wk.refl (Wk.pair Wk.refl (Wk.pair Wk.nil (Wk.pair Wk.refl (Wk.pair Wk.nil Wk.refl)))))) (Wk.pair Wk.refl (Wk.pair Wk.refl (Wk.pair Wk.nil (Wk.pair Wk.nil (Wk.pair Wk.refl (Wk.pair Wk.nil (Wk.pair Wk.nil (Wk.pair Wk.refl Wk.refl)))))))))))))) Wk.refl))) ?_
     exact JQ.join () (Imp.norm (js := [3, 0, 0]) rfl (.cons rfl (.cons rfl (.cons rfl .nil))))
   replace hx1 := Zfm hx1
   rcases hx1 with ⟨hf4, hx1⟩ | hx1
   · refine JL.pre (Imp.slot (s := 45) (q := CLO 95 []) rfl (ZgS hf4)) ?_
     obtain ⟨⟨x_26, x_27⟩, hv_x_26, hx1⟩ := Zay hx1
     refine jx (Zak (js := [3, 2]) ld cl95 (ZfC k v10 v13 v16 (Zaf.mk (0 : Int) (0 : UInt64)) ([] : (List UInt8)) (Vector.replicate 16 (0 : UInt64)) (Vector.replicate 16 (0 : UInt64)) (Vector.replicate 16 (0 : UInt64)) (Vector.replicate 32 (0 : UInt8)) false x_15 gb_7 gb_4 (x_26, x_27) hv_x_26) tR (.cons tR .nil) rfl) fun _ => JL.nil ?_
     have hz := Option.some.inj hx1
     replace hz := Prod.mk.inj hz
     obtain ⟨hz_a, hz⟩ := hz
     first | subst hz_a | clear hz_a
     first | subst hz | clear hz
     exact JQ.join () (Imp.norm (js := [2, 0, 0]) rfl (.cons rfl (.cons rfl (.cons rfl .nil))))
   replace hx1 := Zfm hx1
   rcases hx1 with ⟨hf5, hx1⟩ | hx1
   · refine JL.pre (Imp.slot (s := 45) (q := CLO 97 []) rfl (ZgS hf5)) ?_
     obtain ⟨⟨x_28, x_29⟩, hv_x_28, hx1⟩ := Zay hx1
     refine jx (Zak (js := [3, 2]) ld cl97 (ZfQ k v10 v13 v16 (Zaf.mk (0 : Int) (0 : UInt64)) ([] : (List UInt8)) (Vector.replicate 16 (0 : UInt64)) (Vector.replicate 16 (0 : UInt64)) (Vector.replicate 16 (0 : UInt64)) (Vector.replicate 32 (0 : UInt8)) false x_15 gb_7 gb_4 (x_28, x_29) hv_x_28) tR (.cons tR .nil) rfl) fun _ => JL.nil ?_
     have hz := Option.some.inj hx1
     replace hz := Prod.mk.inj hz
     obtain ⟨hz_a, hz⟩ := hz
     first | subst hz_a | clear hz_a
     first | subst hz | clear hz
     exact JQ.join () (Imp.norm (js := [2, 0, 0]) rfl (.cons rfl (.cons rfl (.cons rfl .nil))))
   replace hx1 := Zfm hx1
   rcases hx1 with ⟨hf6, hx1⟩ | hx1
   · refine JL.pre (Imp.slot (s := 45) (q := CLO 99 []) rfl (ZgS hf6)) ?_
     obtain ⟨⟨x_30, x_31, x_32, x_33⟩, hv_x_30, hx1⟩ := Zay hx1
     refine jx (Zak (js := [3, 2]) ld cl99 (Zfz k v10 v13 v16 (Zaf.mk (0 : Int) (0 : UInt64)) ([] : (List UInt8)) (Vector.replicate 16 (0 : UInt64)) (Vector.replicate 16 (0 : UInt64)) (Vector.replicate 16 (0 : UInt64)) (Vector.replicate 32 (0 : UInt8)) false x_15 gb_7 gb_4 (x_30, x_31, x_32, x_33) hv_x_30) tR (.cons tR .nil) rfl) (fun q => ?_)
     obtain ⟨go_34, gc_35, go_36, gc_37⟩ := q
     refine JL.nil ?_
     have hz := Option.some.inj hx1
     replace hz := Prod.mk.inj hz
     obtain ⟨hz_a, hz⟩ := hz
     first | subst hz_a | clear hz_a
     first | subst hz | clear hz
     refine JQ.pre (Imp.frz (j := 2) rfl (ImpK.var (j := 0) (q := (zq65 gb_4 go_34 x_32 gc_35 go_36 x_33 gc_37)) (y := (zq66 v10 v13 v16 x_31)) rfl (Wk.pair Wk.refl (Wk.pair (Wk.pair Wk.refl (Wk.pair Wk.refl (Wk.pair Wk.refl (Wk.pair Wk.refl (Wk.pair Wk.refl (Wk.pair Wk.refl (Wk.pair Wk.refl (Wk.pair Wk.own (Wk.pair Wk.refl (Wk.pair Wk.refl (Wk.pair Wk.refl (Wk.pair Wk.refl (Wk.pair Wk.refl Wk.refl))))))))))))) Wk.refl)) ImpK.refl)) <| JQ.pre (Imp.frz (j := 3) rfl (ImpK.var (j := 0) (q := (zq67 gb_4 go_34 x_32 gc_35 go_36 x_33 gc_37)) (y := (zq66 v10 v13 v16 x_31)) rfl (Wk.pair Wk.refl (Wk.pair (Wk.pair Wk.refl (Wk.pair Wk.refl (Wk.pair Wk.refl (Wk.pair Wk.refl (Wk.pair Wk.refl (Wk.pair Wk.refl (Wk.pair Wk.refl (Wk.pair Wk.refl (Wk.pair Wk.own (Wk.pair Wk.refl (Wk.pair Wk.refl (Wk.pair Wk.refl (Wk.pair Wk.refl Wk.refl))))))))))))) Wk.refl)) ImpK.refl)) <| JQ.pre (Imp.var (j := 0) (q := (zq50 gb_4)) (y := (zq68 v10 v13 v16 x_31 x_32 x_33)) rfl (Wk.pair Wk.refl (Wk.pair (Wk.st (Wk.pair Wk.refl (Wk.pair Wk.refl (Wk.pair Wk.refl (Wk.pair Wk.nil (Wk.pair (Wk.st (Wk.pair Wk.refl (Wk.pair Wk.refl (Wk.pair Wk.nil (Wk.pair Wk.refl (Wk.pair Wk.nil Wk.refl)))))) (Wk.pair Wk.refl (Wk.pair Wk.refl (Wk.pair Wk.hl (Wk.pair Wk.hl (Wk.pair Wk.refl (Wk.pair Wk.nil (Wk.pair Wk.nil (Wk.pair Wk.refl Wk.refl)))))))))))))) Wk.refl))) ?_
     exact JQ.join () (Imp.norm (js := [4, 0, 0]) rfl (.cons rfl (.cons rfl (.cons rfl .nil))))
   replace hx1 := Zfm hx1
   rcases hx1 with ⟨hf7, hx1⟩ | hx1
   · refine JL.pre (Imp.slot (s := 45) (q := CLO 101 []) rfl (ZgS hf7)) ?_
     obtain ⟨⟨x_38, x_39⟩, hv_x_38, hx1⟩ := Zay hx1
     refine jx (Zak (js := [3, 2]) ld ZnV (ZfX k v10 v13 v16 (Zaf.mk (0 : Int) (0 : UInt64)) ([] : (List UInt8)) (Vector.replicate 16 (0 : UInt64)) (Vector.replicate 16 (0 : UInt64)) (Vector.replicate 16 (0 : UInt64)) (Vector.replicate 32 (0 : UInt8)) false x_15 gb_7 gb_4 (x_38, x_39) hv_x_38) tR (.cons tR .nil) rfl) fun _ => JL.nil ?_
     have hz := Option.some.inj hx1
     replace hz := Prod.mk.inj hz
     obtain ⟨hz_a, hz⟩ := hz
     first | subst hz_a | clear hz_a
     first | subst hz | clear hz
     exact JQ.join () (Imp.norm (js := [2, 0, 0]) rfl (.cons rfl (.cons rfl (.cons rfl .nil))))
   replace hx1 := Zfm hx1
   rcases hx1 with ⟨hf8, hx1⟩ | hx1
   · refine JL.pre (Imp.slot (s := 45) (q := CLO 103 []) rfl (ZgS hf8)) ?_
     obtain ⟨⟨x_40, x_41⟩, hv_x_40, hx1⟩ := Zay hx1
     refine jx (Zak (js := [3, 2]) ld Zol (Zfq k v10 v13 v16 (Zaf.mk (0 : Int) (0 : UInt64)) ([] : (List UInt8)) (Vector.replicate 16 (0 : UInt64)) (Vector.replicate 16 (0 : UInt64)) (Vector.replicate 16 (0 : UInt64)) (Vector.replicate 32 (0 : UInt8)) false x_15 gb_7 gb_4 (x_40, x_41) hv_x_40) tR (.cons tR .nil) rfl) (fun q => ?_)
     obtain ⟨go_42, gc_43⟩ := q
     refine JL.nil ?_
     have hz := Option.some.inj hx1
     replace hz := Prod.mk.inj hz
     obtain ⟨hz_a, hz⟩ := hz
     first | subst hz_a | clear hz_a
     first | subst hz | clear hz
     refine JQ.pre (Imp.frz (j := 2) rfl (ImpK.var (j := 0) (q := (zq69 gb_4 go_42 x_41 gc_43)) (y := (zq31 v10 v13 v16)) rfl (Wk.pair Wk.refl (Wk.pair (Wk.pair Wk.refl (Wk.pair Wk.refl (Wk.pair Wk.refl (Wk.pair Wk.refl (Wk.pair Wk.refl (Wk.pair Wk.refl (Wk.pair Wk.refl (Wk.pair Wk.refl (Wk.pair Wk.refl (Wk.pair Wk.refl (Wk.pair Wk.own (Wk.pair Wk.refl (Wk.pair Wk.refl Wk.refl))))))))))))) Wk.refl)) ImpK.refl)) <| JQ.pre (Imp.var (j := 0) (q := (zq50 gb_4)) (y := (zq70 v10 v13 v16 x_41)) rfl (Wk.pair Wk.refl (Wk.pair (Wk.st (Wk.pair Wk.refl (Wk.pair Wk.refl (Wk.pair Wk.refl (Wk.pair Wk.nil (Wk.pair (Wk.st (Wk.pair Wk.refl (Wk.pair Wk.refl (Wk.pair Wk.nil (Wk.pair Wk.refl (Wk.pair Wk.nil Wk.refl)))))) (Wk.pair Wk.refl (Wk.pair Wk.refl (Wk.pair Wk.nil (Wk.pair Wk.nil (Wk.pair Wk.refl (Wk.pair Wk.hl (Wk.pair Wk.nil (Wk.pair Wk.refl Wk.refl)))))))))))))) Wk.refl))) ?_
     exact JQ.join () (Imp.norm (js := [3, 0, 0]) rfl (.cons rfl (.cons rfl (.cons rfl .nil))))
   replace hx1 := Zfm hx1
   rcases hx1 with ⟨hf9, hx1⟩ | hx1
   · refine JL.pre (Imp.slot (s := 45) (q := CLO 105 []) rfl (ZgS hf9)) ?_
     obtain ⟨⟨x_44, x_45, x_46, x_47, x_48, x_49⟩, hv_x_44, hx1⟩ := Zay hx1
     refine jx (Zak (js := [3, 2]) ld Zoh (Ze2 k v10 v13 v16 (Zaf.mk (0 : Int) (0 : UInt64)) ([] : (List UInt8)) (Vector.replicate 16 (0 : UInt64)) (Vector.replicate 16 (0 : UInt64)) (Vector.replicate 16 (0 : UInt64)) (Vector.replicate 32 (0 : UInt8)) false x_15 gb_7 gb_4 (x_44, x_45, x_46, x_47, x_48, x_49) hv_x_44) tR (.cons tR .nil) rfl) (fun q => ?_)
     obtain ⟨go_50, gc_51, go_52, gc_53, go_54, gc_55⟩ := q
     refine JL.nil ?_
     have hz := Option.some.inj hx1
     replace hz := Prod.mk.inj hz
     obtain ⟨hz_a, hz⟩ := hz
     first | subst hz_a | clear hz_a
     first | subst hz | clear hz
     refine JQ.pre (Imp.frz (j := 2) rfl (ImpK.var (j := 0) (q := (zq71 gb_4 go_50 x_45 gc_51 go_52 x_47 gc_53 go_54 x_48 gc_55)) (y := (zq72 v10 v13 v16 x_46 x_49)) rfl (Wk.pair Wk.refl (Wk.pair (Wk.pair Wk.refl (Wk.pair Wk.refl (Wk.pair Wk.refl (Wk.pair Wk.own (Wk.pair Wk.refl (Wk.pair Wk.refl (Wk.pair Wk.refl (Wk.pair Wk.refl (Wk.pair Wk.refl (Wk.pair Wk.refl (Wk.pair Wk.refl (Wk.pair Wk.refl (Wk.pair Wk.refl Wk.refl))))))))))))) Wk.refl)) ImpK.refl)) <| JQ.pre (Imp.frz (j := 3) rfl (ImpK.var (j := 0) (q := (zq73 gb_4 go_50 x_45 gc_51 go_52 x_47 gc_53 go_54 x_48 gc_55)) (y := (zq72 v10 v13 v16 x_46 x_49)) rfl (Wk.pair Wk.refl (Wk.pair (Wk.pair Wk.refl (Wk.pair Wk.refl (Wk.pair Wk.refl (Wk.pair Wk.refl (Wk.pair Wk.refl (Wk.pair Wk.refl (Wk.pair Wk.refl (Wk.pair Wk.own (Wk.pair Wk.refl (Wk.pair Wk.refl (Wk.pair Wk.refl (Wk.pair Wk.refl (Wk.pair Wk.refl Wk.refl))))))))))))) Wk.refl)) ImpK.refl)) <| JQ.pre (Imp.frz (j := 4) rfl (ImpK.var (j := 0) (q := (zq74 gb_4 go_50 x_45 gc_51 go_52 x_47 gc_53 go_54 x_48 gc_55)) (y := (zq72 v10 v13 v16 x_46 x_49)) rfl (Wk.pair Wk.refl (Wk.pair (Wk.pair Wk.refl (Wk.pair Wk.refl (Wk.pair Wk.refl (Wk.pair Wk.refl (Wk.pair Wk.refl (Wk.pair Wk.refl (Wk.pair Wk.refl (Wk.pair Wk.refl (Wk.pair Wk.refl (Wk.pair Wk.refl (Wk.pair Wk.refl (Wk.pair Wk.own (Wk.pair Wk.refl Wk.refl))))))))))))) Wk.refl)) ImpK.refl)) ?_
     refine JQ.pre (Imp.var (j := 0) (q := (zq50 gb_4)) (y := (zq75 v10 v13 v16 x_45 x_46 x_47 x_48 x_49)) rfl (Wk.pair Wk.refl (Wk.pair (Wk.st (Wk.pair Wk.refl (Wk.pair Wk.refl (Wk.pair Wk.refl (Wk.pair Wk.hl (Wk.pair (Wk.st (Wk.pair Wk.refl (Wk.pair Wk.refl (Wk.pair Wk.nil (Wk.pair Wk.refl (Wk.pair Wk.nil Wk.refl)))))) (Wk.pair Wk.refl (Wk.pair Wk.refl (Wk.pair Wk.hl (Wk.pair Wk.nil (Wk.pair Wk.refl (Wk.pair Wk.nil (Wk.pair Wk.hl (Wk.pair Wk.refl Wk.refl)))))))))))))) Wk.refl))) ?_
     exact JQ.join () (Imp.norm (js := [5, 0, 0]) rfl (.cons rfl (.cons rfl (.cons rfl .nil))))
   cases hx1
 refine JC.skip ?_
 have hz := Option.some.inj hx1
 replace hz := Prod.mk.inj hz
 obtain ⟨hz_a, hz⟩ := hz
 first | subst hz_a | clear hz_a
 first | subst hz | clear hz
 refine JQ.pre (Imp.var (j := 3) (q := (zq50 gb_4)) (y := (zq76 v10 v13 v16)) rfl (Wk.pair Wk.refl (Wk.pair (Wk.st (Wk.pair Wk.refl (Wk.pair Wk.refl (Wk.pair Wk.refl (Wk.pair Wk.nil (Wk.pair (Wk.st (Wk.pair Wk.refl (Wk.pair Wk.refl (Wk.pair Wk.nil (Wk.pair Wk.refl (Wk.pair Wk.nil Wk.refl)))))) (Wk.pair Wk.refl (Wk.pair Wk.refl (Wk.pair Wk.nil (Wk.pair Wk.nil (Wk.pair Wk.refl (Wk.pair Wk.nil (Wk.pair Wk.nil (Wk.pair Wk.refl Wk.refl)))))))))))))) Wk.refl))) ?_
 exact JQ.join () (Imp.norm (js := [0, 2, 1]) rfl (.cons rfl (.cons rfl (.cons rfl .nil))))

theorem Zdz (k : Nat) (e_1 : Int) (r : Unit) (hm : Zdy k e_1 = some r) : Sim Tryz.prog 13 [S (rI .i64) e_1] [] (γ := Unit) (fun q => []) (fun q => .one (.val (S (rI .i64) e_1))) := by
 unfold Zdy at hm
 refine Sim.of Tryz.func13 rfl rfl (lE rfl) (fun e0 w0 => ?_)
 exact JC.at ⟨[(0, ov (S (rI .i64) e_1))], [], []⟩ <| jr <| jc (Zab lb .cI) <| jn <| jr <| jmv rfl rfl <| jc (Zab lb tR) <| jn <| JC.ret <| jd (.val (S (rI .i64) e_1)) rfl rfl rfl rfl rfl rfl

theorem Zic (k : Nat) (k_1 : Int) (r : (List UInt8)) (hm : Zf1 k k_1 = some r) : Sim Tryz.prog 24 [S (rI .i64) k_1] [] (γ := Unit) (fun q => []) (fun q => .one (.val (S rS r))) := by
 unfold Zf1 at hm
 refine Sim.of Tryz.func24 rfl rfl (lE rfl) (fun e0 w0 => ?_)
 refine JC.at ⟨[(0, ov (S (rI .i64) k_1))], [], []⟩ <| jr <| jc (Zab lb (HasO.cS (l := []) rfl)) <| jn <| jr <| jc (Zca (r := rS) lb Zms tz9 tZ9 rfl (lE rfl) (.S rfl (HasO.cS (l := []) rfl) (.S rfl (HasO.cS (l := [100, 101, 108, 116, 97]) rfl) (.S rfl (HasO.cS (l := [101, 118, 101, 110, 116]) rfl) (.S rfl (HasO.cS (l := [104, 97, 118, 101]) rfl) (.S rfl (HasO.cS (l := [107, 110, 111, 119, 110]) rfl) (.S rfl (HasO.cS (l := [114, 111, 111, 116]) rfl) (.S rfl (HasO.cS (l := [108, 101, 97, 118, 101, 115]) rfl) (.S rfl (HasO.cS (l := [105, 116, 101, 109, 115]) rfl) .nil)))))))) rfl) <| jc (Zab lb tR) <| jn <| JC.seq <| bI hm fun x_5 hx1 hq1 => JC.seqJ (γ := Unit) (stj := fun _ => ⟨[(0, ov (S (rI .i64) k_1)), (3, ov (S (rL rS) ([([] : List UInt8), ([100, 101, 108, 116, 97] : List UInt8), ([101, 118, 101, 110, 116] : List UInt8), ([104, 97, 118, 101] : List UInt8), ([107, 110, 111, 119, 110] : List UInt8), ([114, 111, 111, 116] : List UInt8), ([108, 101, 97, 118, 101, 115] : List UInt8), ([105, 116, 101, 109, 115] : List UInt8)] : (List (List UInt8))))), (12, ov (S rB x_5))], [], []⟩) (fun _ => ?_) ?_
 · refine jif tR hq1 (fun hc7 hq1 => ?_) (fun hc7 hq1 => ?_)
   · refine jr <| jc (Zab lb (HasO.cS (l := []) rfl)) <| jn <| JC.ret <| JQ.outR ?_
     obtain rfl := so hq1
     exact jd (.val (S rS ([] : List UInt8))) rfl rfl rfl rfl rfl rfl
   refine JC.skip <| JQ.then <| jr <| jmv rfl rfl <| jmv rfl rfl <| bI hq1 fun v6 hv_6 hq1 => jc (Zau lb Zms tz9 tR tR hv_6) <| jc (Zbe lb tS9 rfl tR rfl) <| jc (Zab lb tR) <| jn <| JC.ret ?_
   obtain rfl := so hq1
   exact jd (.val (S rS v6)) rfl rfl rfl rfl rfl rfl
 refine JC.region <| jmv rfl rfl <| lI hx1 fun v2 hv_2 hx1 => jc (Zaq lb tR .cI (cs hv_2)) <| jmv rfl rfl <| jF (ov (S (rI .i64) k_1)) rfl rfl rfl rfl (fun hq_2 => Zax lb tR) <| jF (ov (S (rL rS) ([([] : List UInt8), ([100, 101, 108, 116, 97] : List UInt8), ([101, 118, 101, 110, 116] : List UInt8), ([104, 97, 118, 101] : List UInt8), ([107, 110, 111, 119, 110] : List UInt8), ([114, 111, 111, 116] : List UInt8), ([108, 101, 97, 118, 101, 115] : List UInt8), ([105, 116, 101, 109, 115] : List UInt8)] : (List (List UInt8))))) rfl rfl rfl rfl (fun hq_3 => Zax lb tR) <| jF (ov (S (rI .i64) (List.length ([([] : List UInt8), ([100, 101, 108, 116, 97] : List UInt8), ([101, 118, 101, 110, 116] : List UInt8), ([104, 97, 118, 101] : List UInt8), ([107, 110, 111, 119, 110] : List UInt8), ([114, 111, 111, 116] : List UInt8), ([108, 101, 97, 118, 101, 115] : List UInt8), ([105, 116, 101, 109, 115] : List UInt8)] : (List (List UInt8))) : Int))) rfl rfl rfl rfl (fun hq_4 => ZaE lb Zms (HasO.cnd tR (notT (notF hq_4)))) <| lI hx1 fun v3 hv_3 hx1 => jF (ov (S rB v3)) rfl rfl rfl rfl (fun hq_5 => Zaq lb (HasO.cnd tR (notT (notF hq_5))) (HasO.cnd tR (notT (notF hq_5))) (cs hv_3)) ?_
 obtain ⟨v4, hv_4, hx1⟩ := ZaQ hx1
 refine jc (Zao lb tR (fun hb6 => .cB) (fun hb6 => (HasO.cnd tR (notT hb6))) hv_4) <| JL.nil ?_
 try obtain rfl := so hx1
 exact JQ.join () (Imp.norm (js := []) rfl (.cons rfl (.cons rfl (.cons rfl .nil))))

theorem ZdO (k : Nat) (r : Bool) (hm : Zcv k = some r) : Sim Tryz.prog 9 [] [] (γ := Unit) (fun q => []) (fun q => .one (.val (S rB r))) := by
 unfold Zcv at hm
 refine Sim.of Tryz.func9 rfl rfl (lE rfl) (fun e0 w0 => ?_)
 refine JC.at ⟨[], [], []⟩ <| jr <| jc (Zab lb .cB) <| jn <| jr <| jc (Za9 lb tZ39 zr39 tp39 (.S (off := 0) rfl .cI rfl ((UpdR.fst (UpdR.self (by rfl))).at (by rfl)) (.S (off := 1) rfl .cI rfl ((UpdR.snd (UpdR.fst (UpdR.self (by rfl)))).at (by rfl)) (.S (off := 2) rfl .cI rfl ((UpdR.snd (UpdR.snd (UpdR.fst (UpdR.self (by rfl))))).at (by rfl)) .nil))) rfl) ?_
 obtain ⟨⟨v1, v2⟩, hv_1, hm⟩ := Zay hm
 refine jx (Zak (js := []) ld cl10 (ZeW k (Zah.mk (3 : Int) (1 : Int) (2 : Int) ([] : (List Zap)) (Zar.mk (Zaf.mk (0 : Int) (0 : UInt64)) ([] : (List UInt8)) ([] : (List UInt8)) (Vector.replicate 16 (0 : UInt64)) ([] : (List ZaA))) (Vector.replicate 16 (0 : UInt64)) (Vector.replicate 16 (0 : UInt64)) ([] : (List Zaf)) ([] : (List Zaf)) (Vector.replicate 32 (0 : UInt8)) ([] : (List (Vector UInt8 32))) ([] : (List Int)) false) (v1, v2) hv_1) .func (.cons (HasO.wk (q := A Zae (Zah.mk (3 : Int) (1 : Int) (2 : Int) ([] : (List Zap)) (Zar.mk (Zaf.mk (0 : Int) (0 : UInt64)) ([] : (List UInt8)) ([] : (List UInt8)) (Vector.replicate 16 (0 : UInt64)) ([] : (List ZaA))) (Vector.replicate 16 (0 : UInt64)) (Vector.replicate 16 (0 : UInt64)) ([] : (List Zaf)) ([] : (List Zaf)) (Vector.replicate 32 (0 : UInt8)) ([] : (List (Vector UInt8 32))) ([] : (List Int)) false)) tR (wkAK (Wk.st (Wk.pair Wk.refl (Wk.pair Wk.refl (Wk.pair Wk.refl (Wk.pair Wk.nil (Wk.pair (Wk.st (Wk.pair Wk.refl (Wk.pair Wk.refl (Wk.pair Wk.nil (Wk.pair Wk.refl (Wk.pair Wk.nil Wk.refl)))))) (Wk.pair Wk.refl (Wk.pair Wk.refl (Wk.pair Wk.nil (Wk.pair Wk.nil (Wk.pair Wk.refl (Wk.pair Wk.nil (Wk.pair Wk.nil (Wk.pair Wk.refl Wk.refl)))))))))))))))) .nil) rfl) (fun q => ?_)
 obtain ⟨go_3, gc_4⟩ := q
 refine jmv rfl rfl <| jc (Zaz (i := 0) lb tR rfl) <| jc (Zaz (i := 1) lb tR rfl) <| jc (Zab lb tR) <| jc (Zab lb tR) <| jn <| jr ?_
 obtain ⟨⟨v5, v6⟩, hv_5, hm⟩ := Zay hm
 refine jx (Zak (js := []) ld cl15 (Zhp k ([] : (List UInt8)) (v5, v6) hv_5) .func (.cons (HasO.wk (q := S (rL (rU UInt8)) []) HasO.nilH Zkg) .nil) rfl) fun _ => jmv rfl rfl <| JL.sub ⟨[(1, ov (HDR go_3 0 (List.length v1) gc_4)), (2, ov (S (rI .i64) v2)), (10, .tup [.val (A Zae v5), .val (S (rI .i64) v6)])], [cown go_3 (rU UInt8) v1 (List.length v1) gc_4], []⟩ (.cons rfl (.cons rfl (.cons rfl .nil))) rfl rfl <| jc (Zaz (i := 0) lb tR rfl) <| jc (Zaz (i := 1) lb tR rfl) <| jx (Zbh lb tZ39 zr39) fun gb_7 => jc (ZaP (j := 1) tA39 tR tR rfl (UpdR.self (by rfl)) rfl) <| jc (Zab lb tR) <| jn <| bI hm fun x_29 hx1 hq1 => JC.seqJ (γ := Unit) (stj := fun _ => ⟨[(0, ov (S rB x_29))], [], []⟩) (fun _ => ?_) ?_
 · refine JC.ret ?_
   obtain rfl := so hq1
   exact jd (.val (S rB x_29)) rfl rfl rfl rfl rfl rfl
 refine JC.region <| jmv rfl rfl <| bI hx1 fun _ hv_u_8 hx1 => jx (Zak (js := []) ld cl13 (Zdz k v2 () hv_u_8) .func (.cons tR .nil) rfl) fun _ => lI hx1 fun v9 hv_9 hx1 => jc (Zaq lb tR .cI (cs hv_9)) <| JL.nrm ⟨[(1, ov (HDR go_3 0 (List.length v1) gc_4)), (4, ov (S (rI .i64) v6)), (16, ov (S rB v9))], [cown go_3 (rU UInt8) v1 (List.length v1) gc_4], []⟩ [0] rfl (.cons rfl (.cons rfl (.cons rfl .nil))) rfl <| jmv rfl rfl ?_
 rcases ZcG hx1 with ⟨hc3, hx1⟩ | ⟨hc3, hx1⟩
 · refine JL.run (.yes rfl (ltB rfl) rfl hc3) (Zax lb tR) <| JL.run (.yes rfl (ltB rfl) rfl hc3) (ZjG lb tu27 tR) <| lI hx1 fun v10 hv_10 hx1 => JL.run (.yes rfl (ltB rfl) rfl hc3) (Zaq lb tR .cI (cs hv_10)) <| jc (Zb7 lb tR hc3 tR) <| jmv rfl rfl ?_
   rcases ZcG hx1 with ⟨hc5, hx1⟩ | ⟨hc5, hx1⟩
   · refine JL.run (.yes rfl (ltB rfl) rfl hc5) (Zax lb tR) <| bI hx1 fun i_11 hv_i_11 hx1 => JL.run (.yes rfl (ltB rfl) rfl hc5) (ZeN (r := (rU UInt8)) (j := 0) lb tu27 tz5 rfl tR .cI hv_i_11) <| bI hx1 fun v12 hv_12 hx1 => JL.run (.yes rfl (ltB rfl) rfl hc5) (ZhI (r := (rU UInt8)) (i := i_11) (off := 0) (j := 0) lb tS5 rfl rfl tR hv_12 (Comp.self (rU UInt8) v12) (by decide)) <| lI hx1 fun v13 hv_13 hx1 => JL.run (.yes rfl (ltB rfl) rfl hc5) (ZbH lb tR (HasO.cU (x := (3 : UInt8)) rfl (by decide)) (cs hv_13)) <| jc (Zb7 lb tR hc5 tR) <| jmv rfl rfl <| JL.sub ⟨[(1, ov (HDR go_3 0 (List.length v1) gc_4)), (4, ov (S (rI .i64) v6)), (28, ov (S rB v13))], [cown go_3 (rU UInt8) v1 (List.length v1) gc_4], []⟩ (.cons rfl (.cons rfl (.cons rfl .nil))) rfl rfl ?_
     rcases ZcG hx1 with ⟨hc7, hx1⟩ | ⟨hc7, hx1⟩
     · refine JL.run (.yes rfl (ltB rfl) rfl hc7) (Zax lb tR) <| bI hx1 fun i_14 hv_i_14 hx1 => JL.run (.yes rfl (ltB rfl) rfl hc7) (ZeN (r := (rU UInt8)) (j := 0) lb tu27 tz5 rfl tR .cI hv_i_14) <| bI hx1 fun v15 hv_15 hx1 => JL.run (.yes rfl (ltB rfl) rfl hc7) (ZhI (r := (rU UInt8)) (i := i_14) (off := 0) (j := 0) lb tS5 rfl rfl tR hv_15 (Comp.self (rU UInt8) v15) (by decide)) <| lI hx1 fun v16 hv_16 hx1 => JL.run (.yes rfl (ltB rfl) rfl hc7) (ZbH lb tR (HasO.cU (x := (1 : UInt8)) rfl (by decide)) (cs hv_16)) <| jc (Zb7 lb tR hc7 tR) <| jmv rfl rfl ?_
       rcases ZcG hx1 with ⟨hc9, hx1⟩ | ⟨hc9, hx1⟩
       · refine JL.run (.yes rfl (ltB rfl) rfl hc9) (Zax lb tR) <| bI hx1 fun i_17 hv_i_17 hx1 => JL.run (.yes rfl (ltB rfl) rfl hc9) (ZeN (r := (rU UInt8)) (j := 0) lb tu27 tz5 rfl tR .cI hv_i_17) <| bI hx1 fun v18 hv_18 hx1 => JL.run (.yes rfl (ltB rfl) rfl hc9) (ZhI (r := (rU UInt8)) (i := i_17) (off := 0) (j := 0) lb tS5 rfl rfl tR hv_18 (Comp.self (rU UInt8) v18) (by decide)) <| lI hx1 fun v19 hv_19 hx1 => JL.run (.yes rfl (ltB rfl) rfl hc9) (ZbH lb tR (HasO.cU (x := (2 : UInt8)) rfl (by decide)) (cs hv_19)) <| jc (Zb7 lb tR hc9 tR) <| jmv rfl rfl <| JL.nrm ⟨[(4, ov (S (rI .i64) v6)), (40, ov (S rB v19))], [], []⟩ [] rfl (.cons rfl (.cons rfl .nil)) rfl ?_
         refine jT (ov (A zq2 zq77)) rfl rfl rfl rfl (fun hq_10 => Za9 lb tZ39 zr39 tp39 (.S (off := 0) rfl .cI rfl ((UpdR.fst (UpdR.self (by rfl))).at (by rfl)) (.S (off := 1) rfl .cI rfl ((UpdR.snd (UpdR.fst (UpdR.self (by rfl)))).at (by rfl)) (.S (off := 2) rfl .cI rfl ((UpdR.snd (UpdR.snd (UpdR.fst (UpdR.self (by rfl))))).at (by rfl)) .nil))) rfl) <| bI hx1 fun v20 hv_20 hx1 => jT (ov (S rB v20)) rfl rfl rfl rfl (fun hq_11 => (Zak (js := []) ld cl11 (Zec k (Zah.mk (5 : Int) (1 : Int) (1 : Int) ([] : (List Zap)) (Zar.mk (Zaf.mk (0 : Int) (0 : UInt64)) ([] : (List UInt8)) ([] : (List UInt8)) (Vector.replicate 16 (0 : UInt64)) ([] : (List ZaA))) (Vector.replicate 16 (0 : UInt64)) (Vector.replicate 16 (0 : UInt64)) ([] : (List Zaf)) ([] : (List Zaf)) (Vector.replicate 32 (0 : UInt8)) ([] : (List (Vector UInt8 32))) ([] : (List Int)) false) v20 (ifT hv_20 hq_11)) .func (.cons (HasO.wk (q := A Zae (Zah.mk (5 : Int) (1 : Int) (1 : Int) ([] : (List Zap)) (Zar.mk (Zaf.mk (0 : Int) (0 : UInt64)) ([] : (List UInt8)) ([] : (List UInt8)) (Vector.replicate 16 (0 : UInt64)) ([] : (List ZaA))) (Vector.replicate 16 (0 : UInt64)) (Vector.replicate 16 (0 : UInt64)) ([] : (List Zaf)) ([] : (List Zaf)) (Vector.replicate 32 (0 : UInt8)) ([] : (List (Vector UInt8 32))) ([] : (List Int)) false)) (HasO.cnd tR hq_11) (wkAK (Wk.st (Wk.pair Wk.refl (Wk.pair Wk.refl (Wk.pair Wk.refl (Wk.pair Wk.nil (Wk.pair (Wk.st (Wk.pair Wk.refl (Wk.pair Wk.refl (Wk.pair Wk.nil (Wk.pair Wk.refl (Wk.pair Wk.nil Wk.refl)))))) (Wk.pair Wk.refl (Wk.pair Wk.refl (Wk.pair Wk.nil (Wk.pair Wk.nil (Wk.pair Wk.refl (Wk.pair Wk.nil (Wk.pair Wk.nil (Wk.pair Wk.refl Wk.refl)))))))))))))))) .nil) rfl).post (fun _ => Imp.refl)) ?_
         refine lI hx1 fun v21 hv_21 hx1 => jT (ov (S rB v21)) rfl rfl rfl rfl (fun hq_12 => Zbc lb (HasO.cnd tR hq_12) hv_21) <| lI hx1 fun v22 hv_22 hx1 => jc (Zao lb tR (fun hb13 => (HasO.cnd tR hb13)) (fun hb13 => .cB) hv_22) <| jmv rfl rfl <| jT (ov (S (rI .i64) v6)) rfl rfl rfl rfl (fun hq_14 => Zax lb tR) <| bI hx1 fun _ hv_u_23 hx1 => jT (ov (S (rI .i64) v6)) rfl rfl rfl rfl (fun hq_15 => (Zak (js := []) ld cl13 (Zdz k v6 () (ifT hv_u_23 hq_15)) .func (.cons (HasO.cnd tR hq_15) .nil) rfl).post (fun _ => Imp.refl)) <| lI hx1 fun v24 hv_24 hx1 => jT (ov (S rB v24)) rfl rfl rfl rfl (fun hq_16 => Zaq lb (HasO.cnd tR hq_16) .cI (cs hv_24)) ?_
         refine lI hx1 fun v25 hv_25 hx1 => jc (Zao lb tR (fun hb17 => (HasO.cnd tR hb17)) (fun hb17 => .cB) hv_25) <| jmv rfl rfl <| bI hx1 fun v26 hv_26 hx1 => jT (ov (S rS v26)) rfl rfl rfl rfl (fun hq_18 => (Zak (js := []) ld cl24 (Zic k (7 : Int) v26 (ifT hv_26 hq_18)) .func (.cons .cI .nil) rfl).post (fun _ => Imp.refl)) <| lI hx1 fun v27 hv_27 hx1 => jT (ov (S rB v27)) rfl rfl rfl rfl (fun hq_19 => Zhe lb (HasO.cnd tR hq_19) (HasO.cS (l := [105, 116, 101, 109, 115]) rfl) (cs hv_27)) <| JL.sub ⟨[(50, ov (S rB v25)), (52, bif v25 then ov (S rB v27) else .one .und)], [], []⟩ (.cons rfl (.cons rfl .nil)) rfl rfl <| lI hx1 fun v28 hv_28 hx1 => jc (Zao lb tR (fun hb20 => (HasO.cnd tR hb20)) (fun hb20 => .cB) hv_28) <| jc (Zab lb tR) <| JL.nil ?_
         try obtain rfl := so hx1
         exact jo rfl rfl rfl
       refine jk rfl hc9 <| jk rfl hc9 <| jk rfl hc9 <| jk rfl hc9 <| jc (Za6 lb tR hc9 .cB) <| jmv rfl rfl <| jk rfl rfl <| jk rfl rfl <| jk rfl rfl <| jc (Za6 lb tR rfl .cB) <| jmv rfl rfl <| jk rfl rfl <| jk rfl rfl <| jk rfl rfl <| jc (Za6 lb tR rfl .cB) <| jmv rfl rfl <| JL.nrm ⟨[(50, ov (S rB false))], [], []⟩ [] rfl (.cons rfl .nil) rfl <| jk rfl rfl <| jk rfl rfl <| jc (Za6 lb tR rfl .cB) <| jc (Zab lb tR) <| JL.nil ?_
       try obtain rfl := so hx1
       exact jo rfl rfl rfl
     refine jk rfl hc7 <| jk rfl hc7 <| jk rfl hc7 <| jk rfl hc7 <| jc (Za6 lb tR hc7 .cB) <| jmv rfl rfl <| jk rfl rfl <| jk rfl rfl <| jk rfl rfl <| jk rfl rfl <| jc (Za6 lb tR rfl .cB) <| jmv rfl rfl <| jk rfl rfl <| jk rfl rfl <| jk rfl rfl <| jc (Za6 lb tR rfl .cB) <| jmv rfl rfl <| jk rfl rfl <| jk rfl rfl <| jk rfl rfl <| jc (Za6 lb tR rfl .cB) <| jmv rfl rfl <| jk rfl rfl <| jk rfl rfl <| jc (Za6 lb tR rfl .cB) <| jc (Zab lb tR) <| JL.nil ?_
     try obtain rfl := so hx1
     exact jo rfl rfl rfl
   refine jk rfl hc5 <| jk rfl hc5 <| jk rfl hc5 <| jk rfl hc5 <| jc (Za6 lb tR hc5 .cB) <| jmv rfl rfl <| jk rfl rfl <| jk rfl rfl <| jk rfl rfl <| jk rfl rfl <| jc (Za6 lb tR rfl .cB) <| jmv rfl rfl <| jk rfl rfl <| jk rfl rfl <| jk rfl rfl <| jk rfl rfl <| jc (Za6 lb tR rfl .cB) <| jmv rfl rfl <| JL.nrm ⟨[(4, ov (S (rI .i64) v6)), (40, ov (S rB false))], [], []⟩ [] rfl (.cons rfl (.cons rfl .nil)) rfl <| jk rfl rfl <| jk rfl rfl <| jk rfl rfl <| jc (Za6 lb tR rfl .cB) <| jmv rfl rfl <| jk rfl rfl <| jk rfl rfl <| jk rfl rfl <| jc (Za6 lb tR rfl .cB) <| jmv rfl rfl <| jk rfl rfl <| jk rfl rfl <| jc (Za6 lb tR rfl .cB) <| jc (Zab lb tR) <| JL.nil ?_
   try obtain rfl := so hx1
   exact jo rfl rfl rfl
 refine jk rfl hc3 <| jk rfl hc3 <| jk rfl hc3 <| jc (Za6 lb tR hc3 .cB) <| jmv rfl rfl <| jk rfl rfl <| jk rfl rfl <| jk rfl rfl <| jk rfl rfl <| jc (Za6 lb tR rfl .cB) <| jmv rfl rfl <| jk rfl rfl <| jk rfl rfl <| jk rfl rfl <| jk rfl rfl <| jc (Za6 lb tR rfl .cB) <| jmv rfl rfl <| jk rfl rfl <| jk rfl rfl <| jk rfl rfl <| jk rfl rfl <| jc (Za6 lb tR rfl .cB) <| jmv rfl rfl <| jk rfl rfl <| jk rfl rfl <| jk rfl rfl <| jc (Za6 lb tR rfl .cB) <| jmv rfl rfl <| jk rfl rfl <| jk rfl rfl <| jk rfl rfl <| jc (Za6 lb tR rfl .cB) <| JL.nrm ⟨[(49, ov (S rB false))], [], []⟩ [] rfl (.cons rfl .nil) rfl <| jmv rfl rfl <| jk rfl rfl <| jk rfl rfl <| jc (Za6 lb tR rfl .cB) <| jc (Zab lb tR) ?_
 refine JL.nil ?_
 try obtain rfl := so hx1
 exact jo rfl rfl rfl

theorem ZfE (k : Nat) (t_1 : Zah) (a_2 : Int) (r : Bool) (hm : Zb8 k t_1 a_2 = some r) : Sim Tryz.prog 6 [A Zae t_1, S (rI .i64) a_2] [] (γ := Unit) (fun q => []) (fun q => .one (.val (S rB r))) := by
 unfold Zb8 at hm
 refine Sim.of Tryz.func6 rfl rfl (lE rfl) (fun e0 w0 => ?_)
 refine JC.at ⟨[(0, ov (A Zae t_1)), (1, ov (S (rI .i64) a_2))], [], []⟩ <| jr <| jx (ZaX lb tR) fun gb_3 => jc (Zab lb .cB) <| jn <| JC.seq <| bI hm fun x_8 hx1 hq1 => JC.seqJ (γ := Unit) (stj := fun _ => ⟨[(1, ov (S (rI .i64) a_2)), (2, ov (PTR gb_3 0)), (16, ov (S rB x_8))], [cvar gb_3 Zae t_1], []⟩) (fun _ => ?_) ?_
 · refine jif tR hq1 (fun hc6 hq1 => ?_) (fun hc6 hq1 => ?_)
   · refine jr <| bI hq1 fun v9 hv_9 hq1 => jx (Zak (js := []) ld cl9 (ZdO k v9 hv_9) .func .nil rfl) fun _ => jc (Zab lb tR) <| jn <| JC.ret <| JQ.outR ?_
     obtain rfl := so hq1
     exact jd (.val (S rB v9)) rfl rfl rfl rfl rfl rfl
   refine JC.skip <| JQ.then <| jr <| jc (Zaw (j := 0) lb tA39 tR rfl (Comp.self Zae t_1) rfl) <| jx (Zbh lb tZ39 zr39) fun gb_10 => jc (ZaP (j := 1) tA39 tR tR rfl (UpdR.self (by rfl)) rfl) <| jn <| jr <| jmv rfl rfl <| jc (Zaa (off := 0) lb Zeu tR) <| lI hq1 fun x_11 hv_x_11 hq1 => jc (ZbX (j := 1) tS22 tR tR rfl rfl (Upd.trans (Comp.self Zae t_1) (Upd.self Zae t_1 _) (ZgI t_1 a_2)).R hv_x_11) <| JL.sub ⟨[(2, ov (PTR gb_3 0)), (5, ov (PTR gb_10 0))], [cvar gb_3 Zae t_1, cvar gb_10 Zae x_11], []⟩ (.cons rfl (.cons rfl .nil)) rfl rfl <| jn <| jr <| jc (Zaw (j := 1) lb tA39 tR rfl (Comp.self Zae x_11) rfl) ?_
   obtain ⟨⟨v12, v13⟩, hv_12, hq1⟩ := Zay hq1
   refine jx (Zak (js := []) ld cl10 (ZeW k x_11 (v12, v13) hv_12) .func (.cons tR .nil) rfl) (fun q => ?_)
   obtain ⟨go_14, gc_15⟩ := q
   refine jmv rfl rfl <| jc (Zaz (i := 0) lb tR rfl) <| jc (Zaz (i := 1) lb tR rfl) <| jc (Zab lb tR) <| jc (Zab lb tR) <| jn <| JC.seq <| bI hq1 fun x_24 hx7 hq7 => JC.seqJ (γ := Unit) (stj := fun _ => ⟨[(2, ov (PTR gb_3 0)), (5, ov (PTR gb_10 0)), (6, ov (HDR go_14 0 (List.length v12) gc_15)), (7, ov (S (rI .i64) v13)), (38, ov (S rB x_24))], [cvar gb_3 Zae t_1, cvar gb_10 Zae x_11, cown go_14 (rU UInt8) v12 (List.length v12) gc_15], []⟩) (fun _ => ?_) ?_
   · refine jif tR hq7 (fun hc15 hq7 => ?_) (fun hc15 hq7 => ?_)
     · refine jr <| jc (Zab lb .cB) <| jn <| JC.ret <| JQ.outR ?_
       obtain rfl := so hq7
       exact jd (.val (S rB false)) rfl rfl rfl rfl rfl rfl
     refine JC.skip <| JQ.then <| JC.seq <| bI hq7 fun x_29 hx16 hq16 => JC.seqJ (γ := Unit) (stj := fun _ => ⟨[(2, ov (PTR gb_3 0)), (5, ov (PTR gb_10 0)), (6, ov (HDR go_14 0 (List.length v12) gc_15)), (48, ov (S rB x_29))], [cvar gb_3 Zae t_1, cvar gb_10 Zae x_11, cown go_14 (rU UInt8) v12 (List.length v12) gc_15], []⟩) (fun _ => ?_) ?_
     · refine jif tR hq16 (fun hc23 hq16 => ?_) (fun hc23 hq16 => ?_)
       · refine jr <| bI hq16 fun v30 hv_30 hq16 => jx (Zak (js := []) ld cl9 (ZdO k v30 hv_30) .func .nil rfl) fun _ => jc (Zab lb tR) <| jn <| JC.ret <| JQ.outR ?_
         obtain rfl := so hq16
         exact jd (.val (S rB v30)) rfl rfl rfl rfl rfl rfl
       refine JC.skip <| JQ.then <| jr <| jmv rfl rfl ?_
       obtain ⟨⟨v31, v32⟩, hv_31, hq16⟩ := Zay hq16
       refine JL.pre (Imp.frz (j := 2) rfl (ImpK.slotH (s := 6) rfl (ImpK.slotH (s := 51) rfl ImpK.refl))) <| jx (Zak (js := []) ld cl15 (Zhp k v12 (v31, v32) hv_31) .func (.cons (HasO.wk tR wkHL) .nil) rfl) fun _ => jmv rfl rfl <| jc (Zaz (i := 0) lb tR rfl) <| jc (Zaz (i := 1) lb tR rfl) <| jx (Zbh lb tZ39 zr39) fun gb_33 => jc (ZaP (j := 3) tA39 tR tR rfl (UpdR.self (by rfl)) rfl) <| jc (Zab lb tR) <| JL.nrm ⟨[(2, ov (PTR gb_3 0)), (5, ov (PTR gb_10 0)), (8, ov (PTR gb_33 0)), (9, ov (S (rI .i64) v32))], [cvar gb_3 Zae t_1, cvar gb_10 Zae x_11, cvar gb_33 Zae v31], []⟩ [0, 0, 1] rfl (.cons rfl (.cons rfl (.cons rfl (.cons rfl .nil)))) rfl <| jn <| bI hq16 fun x_43 hx24 hq24 => JC.seqJ (γ := Unit) (stj := fun _ => ⟨[(4, ov (S rB x_43))], [], []⟩) (fun _ => ?_) ?_
       · refine JC.ret ?_
         obtain rfl := so hq24
         exact jd (.val (S rB x_43)) rfl rfl rfl rfl rfl rfl
       refine JC.region <| jmv rfl rfl <| bI hx24 fun _ hv_u_34 hx24 => jx (Zak (js := []) ld cl13 (Zdz k v32 () hv_u_34) .func (.cons tR .nil) rfl) fun _ => lI hx24 fun v35 hv_35 hx24 => jc (Zaq lb tR .cI (cs hv_35)) <| jmv rfl rfl <| jT (ov (PTR gb_33 (0 + 0))) rfl rfl rfl rfl (fun hq_25 => Zaa (off := 0) lb Zeu tR) <| jT (ov (S (rI .i64) v31.Kind)) rfl rfl rfl rfl (fun hq_26 => Zai (j := 2) lb tS22 (HasO.cnd tR hq_26) rfl (cT (ZaS v31) rfl) rfl rfl) <| jT (ov (PTR gb_10 (0 + 0))) rfl rfl rfl rfl (fun hq_27 => Zaa (off := 0) lb Zeu tR) <| jT (ov (S (rI .i64) x_11.Kind)) rfl rfl rfl rfl (fun hq_28 => Zai (j := 1) lb tS22 (HasO.cnd tR hq_28) rfl (cT (ZaS x_11) rfl) rfl rfl) ?_
       refine lI hx24 fun v36 hv_36 hx24 => jT (ov (S rB v36)) rfl rfl rfl rfl (fun hq_29 => Zaq lb (HasO.cnd tR hq_29) (HasO.cnd tR hq_29) (cs hv_36)) <| lI hx24 fun v37 hv_37 hx24 => jc (Zao lb tR (fun hb30 => (HasO.cnd tR hb30)) (fun hb30 => .cB) hv_37) <| jmv rfl rfl <| jT (ov (A Zae v31)) rfl rfl rfl rfl (fun hq_31 => Zaw (j := 2) lb tA39 tR rfl (Comp.self Zae v31) rfl) <| JL.nrm ⟨[(2, ov (PTR gb_3 0)), (65, ov (S rB v37)), (66, bif v37 then ov (A Zae v31) else .one .und)], [cvar gb_3 Zae t_1], []⟩ [0] rfl (.cons rfl (.cons rfl (.cons rfl .nil))) rfl <| jT (ov (A Zae t_1)) rfl rfl rfl rfl (fun hq_32 => Zaw (j := 0) lb tA39 tR rfl (Comp.self Zae t_1) rfl) <| bI hx24 fun v38 hv_38 hx24 => jT (ov (S rB v38)) rfl rfl rfl rfl (fun hq_33 => (Zak (js := []) ld cl18 (Zgf k v31 t_1 v38 (ifT hv_38 hq_33)) .func (.cons (HasO.cnd tR hq_33) (.cons (HasO.cnd tR hq_33) .nil)) rfl).post (fun _ => Imp.refl)) ?_
       refine lI hx24 fun v39 hv_39 hx24 => jT (ov (S rB v39)) rfl rfl rfl rfl (fun hq_34 => Zbc lb (HasO.cnd tR hq_34) hv_39) <| lI hx24 fun v40 hv_40 hx24 => jc (Zao lb tR (fun hb35 => (HasO.cnd tR hb35)) (fun hb35 => .cB) hv_40) <| jmv rfl rfl <| bI hx24 fun v41 hv_41 hx24 => jT (ov (S rB v41)) rfl rfl rfl rfl (fun hq_36 => (Zak (js := []) ld cl9 (ZdO k v41 (ifT hv_41 hq_36)) .func .nil rfl).post (fun _ => Imp.refl)) <| lI hx24 fun v42 hv_42 hx24 => jc (Zao lb tR (fun hb37 => (HasO.cnd tR hb37)) (fun hb37 => .cB) hv_42) <| jc (Zab lb tR) <| JL.nil ?_
       try obtain rfl := so hx24
       exact jo rfl rfl rfl
     refine JC.region <| jmv rfl rfl <| bI hx16 fun _ hv_u_25 hx16 => jx (Zak (js := []) ld cl13 (Zdz k v13 () hv_u_25) .func (.cons tR .nil) rfl) fun _ => lI hx16 fun v26 hv_26 hx16 => jc (Zaq lb tR .cI (cs hv_26)) <| jmv rfl rfl <| jF (ov (PTR gb_10 (0 + 0))) rfl rfl rfl rfl (fun hq_17 => Zaa (off := 0) lb Zeu tR) <| jF (ov (S (rI .i64) x_11.Kind)) rfl rfl rfl rfl (fun hq_18 => Zai (j := 1) lb tS22 (HasO.cnd tR (notT (notF hq_18))) rfl (cT (ZaS x_11) rfl) rfl rfl) <| jF (ov (PTR gb_3 (0 + 0))) rfl rfl rfl rfl (fun hq_19 => Zaa (off := 0) lb Zeu tR) <| jF (ov (S (rI .i64) t_1.Kind)) rfl rfl rfl rfl (fun hq_20 => Zai (j := 0) lb tS22 (HasO.cnd tR (notT (notF hq_20))) rfl (cT (ZaS t_1) rfl) rfl rfl) ?_
     refine lI hx16 fun v27 hv_27 hx16 => jF (ov (S rB v27)) rfl rfl rfl rfl (fun hq_21 => Zaq lb (HasO.cnd tR (notT (notF hq_21))) (HasO.cnd tR (notT (notF hq_21))) (cs hv_27)) <| lI hx16 fun v28 hv_28 hx16 => jc (Zao lb tR (fun hb22 => .cB) (fun hb22 => (HasO.cnd tR (notT hb22))) hv_28) <| JL.nil ?_
     try obtain rfl := so hx16
     exact JQ.join () (Imp.norm (js := [0, 0, 0]) rfl (.cons rfl (.cons rfl (.cons rfl (.cons rfl .nil)))))
   refine bI hx7 fun v16 hv_16 hx7 => bI hx7 fun v17 hv_17 hx7 => lI hx7 fun v18 hv_18 hx7 => bI hx7 fun _ hv_u_19 hx7 => lI hx7 fun v20 hv_20 hx7 => bI hx7 fun v21 hv_21 hx7 => lI hx7 fun v22 hv_22 hx7 => ?_
   obtain ⟨v23, hv_23, hx7⟩ := ZaQ hx7
   refine JC.anyF (base := [(2, ov (PTR gb_3 0)), (5, ov (PTR gb_10 0)), (6, ov (HDR go_14 0 (List.length v12) gc_15)), (7, ov (S (rI .i64) v13))])
       (fs := fun γ => [⟨some 26, ov (A Zae x_11)⟩, ⟨some 27, ov (S rB v16)⟩, ⟨some 28, ov (A Zae x_11)⟩, ⟨some 29, ov (S rB v17)⟩, ⟨some 30, ov (S rB v18)⟩, ⟨some 31, ov (S rB v18)⟩, ⟨some 32, bif (!v18) then ov (S (rI .i64) v13) else .one .und⟩, ⟨some 33, bif (!v18) then ov (S (rI .i64) v13) else .one .und⟩, ⟨some 34, bif (!v18) then ov (S rB v20) else .one .und⟩, ⟨some 35, bif (!v18) then ov (A Zae x_11) else .one .und⟩, ⟨some 36, bif (!v18) then ov (S rB v21) else .one .und⟩, ⟨some 37, bif (!v18) then ov (S rB v22) else .one .und⟩, ⟨some 38, ov (S rB v23)⟩])
       (rs := fun γ => [⟨cown go_14 (rU UInt8) v12 (List.length v12) gc_15, none, none, []⟩, ⟨cvar gb_3 Zae t_1, none, none, []⟩, ⟨cvar gb_10 Zae x_11, none, none, [0, 2, 9]⟩])
       (afts := nn 13) (js := [0, 0, 0]) ZbT (.cons rfl (.cons rfl (.cons rfl (.cons rfl .nil)))) (fun _ => rfl)
       (by
      refine dR 1 (fun γ ρ B hb hd => Zan.lk ⟨ρ, (cvar gb_10 Zae x_11) :: B, _⟩ (Zaw (j := 0) lb tA39 (.tmp (hb 5 _ rfl)) rfl (Comp.self Zae x_11) rfl)) <| dS 2 (fun γ ρ B hb hd => (Zak (js := []) ld cl11 (Zec k x_11 v16 hv_16) .func (.cons (tl hd 0 26) .nil) rfl).post (fun _ => Imp.refl)) <| dR 3 (fun γ ρ B hb hd => Zan.lk ⟨ρ, (cvar gb_10 Zae x_11) :: B, _⟩ (Zaw (j := 0) lb tA39 (.tmp (hb 5 _ rfl)) rfl (Comp.self Zae x_11) rfl)) <| dS 4 (fun γ ρ B hb hd => (Zak (js := []) ld cl12 (Zfk k x_11 v17 hv_17) .func (.cons (tl hd 2 28) .nil) rfl).post (fun _ => Imp.refl)) <| dS 5 (fun γ ρ B hb hd => Zmk lb tu4 (tl hd 1 27) (tl hd 3 29) hv_18) ?_
      refine dm 6 4 30 ?_
      refine dF 7 5 31 v18 (fun γ => ov (S (rI .i64) v13)) (fun γ ρ B hb hd hq_8 => Zax lb (.tmp (hb 7 _ rfl))) ?_
      refine dF 8 5 31 v18 (fun γ => ov (S (rI .i64) v13)) (fun γ ρ B hb hd hq_9 => (Zak (js := []) ld cl13 (Zdz k v13 () (ifT hv_u_19 hq_9)) .func (.cons (HasO.cnd (tl hd 6 32) (notT (notF hq_9))) .nil) rfl).post (fun _ => Imp.refl)) ?_
      refine dF 9 5 31 v18 (fun γ => ov (S rB v20)) (fun γ ρ B hb hd hq_10 => Zaq lb (HasO.cnd (tl hd 7 33) (notT (notF hq_10))) .cI (cs hv_20)) ?_
      refine eF 10 5 31 v18 (fun γ => ov (A Zae x_11)) (fun γ ρ B hb hd hq_11 => Zan.lk ⟨ρ, (cvar gb_10 Zae x_11) :: B, _⟩ (Zaw (j := 0) lb tA39 (.tmp (hb 5 _ rfl)) rfl (Comp.self Zae x_11) rfl)) ?_
      refine dF 11 5 31 v18 (fun γ => ov (S rB v21)) (fun γ ρ B hb hd hq_12 => (Zak (js := []) ld cl12 (Zfk k x_11 v21 (ifT hv_21 hq_12)) .func (.cons (HasO.cnd (tl hd 9 35) (notT (notF hq_12))) .nil) rfl).post (fun _ => Imp.refl)) ?_
      refine dF 12 5 31 v18 (fun γ => ov (S rB v22)) (fun γ ρ B hb hd hq_13 => Zmk lb tu4 (HasO.cnd (tl hd 8 34) (notT (notF hq_13))) (HasO.cnd (tl hd 10 36) (notT (notF hq_13))) hv_22) ?_
      refine dS 13 (fun γ ρ B hb hd => Zao lb (tl hd 5 31) (fun hb14 => .cB) (fun hb14 => (HasO.cnd (tl hd 11 37) (notT hb14))) hv_23) ?_
      exact ZaG.nil)
       (by decide +kernel) (fun _ => rfl) (fun _ => rfl) (fun _ => rfl) rfl
       (ρ' := fun γ => [(2, ov (PTR gb_3 0)), (5, ov (PTR gb_10 0)), (6, ov (HDR go_14 0 (List.length v12) gc_15)), (7, ov (S (rI .i64) v13)), (38, ov (S rB v23))])
       (X' := fun γ => [cown go_14 (rU UInt8) v12 (List.length v12) gc_15, cvar gb_3 Zae t_1, cvar gb_10 Zae x_11])
       (fun γ ρ hb hd => (.cons (hb 2 _ rfl) (.cons (hb 5 _ rfl) (.cons (hb 6 _ rfl) (.cons (hb 7 _ rfl) (.cons (hdq hd 12 38 rfl) .nil)))))) (fun _ => rfl) (fun γ => ?_)
   refine JQ.at ⟨[(2, ov (PTR gb_3 0)), (5, ov (PTR gb_10 0)), (6, ov (HDR go_14 0 (List.length v12) gc_15)), (7, ov (S (rI .i64) v13)), (38, ov (S rB v23))], [cown go_14 (rU UInt8) v12 (List.length v12) gc_15, cvar gb_3 Zae t_1, cvar gb_10 Zae x_11], []⟩ ?_
   try obtain rfl := so hx7
   exact JQ.join () (Imp.norm (js := [1, 1, 0]) rfl (.cons rfl (.cons rfl (.cons rfl (.cons rfl (.cons rfl .nil))))))
 refine JC.region <| jc (Zaw (j := 0) lb tA39 tR rfl (Comp.self Zae t_1) rfl) <| bI hx1 fun v4 hv_4 hx1 => jx (Zak (js := []) ld cl8 (Zik k t_1 v4 hv_4) .func (.cons tR .nil) rfl) fun _ => jmv rfl rfl <| jF (ov (A Zae t_1)) rfl rfl rfl rfl (fun hq_2 => Zaw (j := 0) lb tA39 tR rfl (Comp.self Zae t_1) rfl) <| bI hx1 fun v5 hv_5 hx1 => jF (ov (S rB v5)) rfl rfl rfl rfl (fun hq_3 => (Zak (js := []) ld cl12 (Zfk k t_1 v5 (ifT hv_5 hq_3)) .func (.cons (HasO.cnd tR (notT (notF hq_3))) .nil) rfl).post (fun _ => Imp.refl)) <| lI hx1 fun v6 hv_6 hx1 => jF (ov (S rB v6)) rfl rfl rfl rfl (fun hq_4 => Zbc lb (HasO.cnd tR (notT (notF hq_4))) hv_6) ?_
 refine lI hx1 fun v7 hv_7 hx1 => jc (Zao lb tR (fun hb5 => .cB) (fun hb5 => (HasO.cnd tR (notT hb5))) hv_7) <| JL.nil ?_
 try obtain rfl := so hx1
 exact JQ.join () (Imp.norm (js := [0]) rfl (.cons rfl (.cons rfl (.cons rfl .nil))))

end Go.Proofs.YtklnihlchhhhlaaGreat
