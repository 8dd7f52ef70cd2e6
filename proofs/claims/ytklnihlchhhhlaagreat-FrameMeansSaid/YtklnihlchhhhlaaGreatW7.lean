/- Walks. -/
import Derived.Test.YtklnihlchhhhlaaGreatT
import Derived.Test.YtklnihlchhhhlaaGreatW0
import Derived.Test.YtklnihlchhhhlaaGreatW2
import Derived.Test.YtklnihlchhhhlaaGreatW4
import Derived.Test.YtklnihlchhhhlaaGreatW5
import Derived.Test.YtklnihlchhhhlaaGreatW6
namespace Go.Proofs.YtklnihlchhhhlaaGreat
open Go Fw
set_option linter.unusedVariables false
set_option maxRecDepth 100000
set_option maxHeartbeats 4000000

theorem Zd5 (k : Nat) (t1 : (List UInt8)) (r : Zai × Int) (hm : Zbq k t1 = some r) : Sim Tryz.prog 15 [S (rL (rU UInt8)) t1] [] (γ := Unit) (fun q => []) (fun q => .tup [.val (A Zad r.1), .val (S (rI .i64) r.2)]) := by
 unfold Zbq at hm
 refine Sim.of Tryz.func15 rfl rfl (lE rfl) (fun e0 w0 => ?_)
 refine JC.at ⟨[(0, ov (S (rL (rU UInt8)) t1))], [], []⟩ <| jr <| jx (Za8 lb tZ39 zr39) fun gb2 => jc (Zac lb .cI) <| jn <| jr <| jmv rfl rfl <| bI hm fun v3 hv3 hm => jx (Zak (js := []) ld cl52 (ZdH k t1 v3 hv3) .func (.cons tR .nil) rfl) (fun q => ?_)
 obtain ⟨gb4, go5, gc6⟩ := q
 refine jc (Zbl lb tZ90 zr90 tp90 (.S (off := 0) (s := rW (PTR gb4 0)) (u := ()) rfl (HasO.wk (q := S (rW (PTR gb4 0)) ()) tR wkV) rfl ((UpdR.fst (UpdR.self (by rfl))).at (by rfl)) .nil) rfl) <| jx (ZaZ lb tR) fun gb7 => JL.sub ⟨[(0, ov (S (rL (rU UInt8)) t1)), (2, ov (PTR gb2 0)), (10, ov (PTR gb7 0))], [cvar gb4 (zq26 go5 v3 gc6) ((), (true, (true, ()))), cown go5 (rU UInt8) v3 0 gc6, cvar gb2 zq0 zq1, cvar gb7 (zq27 gb4) zq25], []⟩ (.cons rfl (.cons rfl (.cons rfl .nil))) rfl rfl <| jc (Zac lb tR) <| jn <| JC.seq ?_
 obtain ⟨⟨v8, x9⟩, hv8, hm⟩ := Zaz hm
 obtain ⟨v10, hv10, hm⟩ := ZaT hm
 obtain ⟨⟨v11, x12⟩, hv11, hm⟩ := Zaz hm
 obtain ⟨v13, hv13, hm⟩ := ZaT hm
 obtain ⟨⟨v14, x15⟩, hv14, hm⟩ := Zaz hm
 obtain ⟨v16, hv16, hm⟩ := ZaT hm
 refine JC.anyF (base := [(0, ov (S (rL (rU UInt8)) t1)), (2, ov (PTR gb2 0)), (4, ov (PTR gb7 0))])
     (fs := fun γ => [⟨some 11, ov (PTR gb7 0)⟩, ⟨some 12, ov (PTR gb7 0)⟩, ⟨some 13, ov (PTR gb7 0)⟩, ⟨some 14, ov (PTR gb7 (0 + 0))⟩, ⟨some 15, ov (PTR gb4 0)⟩, ⟨some 16, ov (S (rU UInt64) v8)⟩, ⟨some 17, ov (S (rI .i64) v10)⟩, ⟨some 18, ov (PTR gb7 0)⟩, ⟨some 19, ov (PTR gb7 0)⟩, ⟨some 20, ov (PTR gb7 (0 + 0))⟩, ⟨some 21, ov (PTR gb4 0)⟩, ⟨some 22, ov (S (rU UInt64) v11)⟩, ⟨some 23, ov (S (rI .i64) v13)⟩, ⟨some 24, ov (PTR gb7 0)⟩, ⟨some 25, ov (PTR gb7 0)⟩, ⟨some 26, ov (PTR gb7 (0 + 0))⟩, ⟨some 27, ov (PTR gb4 0)⟩, ⟨some 28, ov (S (rU UInt64) v14)⟩, ⟨some 29, ov (S (rI .i64) v16)⟩, ⟨some 30, ov (A zq0 (zq30 v10 v13 v16))⟩, ⟨some 31, ov (PTR gb7 0)⟩, ⟨some 32, ov (PTR gb7 (0 + 1))⟩, ⟨none, .one .any⟩])
     (rs := fun γ => [⟨cvar gb4 (zq26 go5 v3 gc6) ((), (true, (true, ()))), none, (some 5), []⟩, ⟨cown go5 (rU UInt8) v3 0 gc6, none, (some 5), []⟩, ⟨cvar gb2 zq0 zq1, none, none, []⟩, ⟨cvar gb7 (zq27 gb4) zq25, none, (some 22), [4, 10, 16]⟩, ⟨cvar gb4 Zab x9, (some 5), (some 11), []⟩, ⟨cown go5 (rU UInt8) v3 (List.length v3) gc6, (some 5), none, []⟩, ⟨cvar gb4 Zab x12, (some 11), (some 17), []⟩, ⟨cvar gb4 Zab x15, (some 17), none, []⟩, ⟨cvar gb7 (zq27 gb4) (zq29 v10 v13 v16), (some 22), none, []⟩])
     (afts := nn 23) (js := [0, 0, 0, 0]) Zcj (.cons rfl (.cons rfl (.cons rfl .nil))) (fun _ => rfl)
     (by
      refine db 1 4 <| db 2 4 <| dS 3 (fun γ ρ B hb hd => Zap lb (tl hd 1 12) (fun e v h => by subst h; rfl)) <| dS 4 (fun γ ρ B hb hd => Zaa (off := 0) lb Zb2 (tl hd 2 13)) <| dR 5 (fun γ ρ B hb hd => Zao.lk ⟨ρ, (cvar gb7 (zq27 gb4) zq25) :: B, _⟩ (ZaJ (j := 0) lb tS87 (tl hd 3 14) rfl (Comp.trans (Comp.self (zq27 gb4) zq25) (Comp.at' (Comp.inF (Comp.self (rW (PTR gb4 0)) ()) (lE rfl)) (by rfl : _ = 0)) (lE rfl)))) ?_
      refine dR 6 (fun γ ρ B hb hd => Zao.at ⟨ρ, (cvar gb4 (zq26 go5 v3 gc6) ((), (true, (true, ())))) :: (cown go5 (rU UInt8) v3 0 gc6) :: B, _⟩ (setO ⟨ρ, (cvar gb4 Zab x9) :: (cown go5 (rU UInt8) v3 (List.length v3) gc6) :: B, _⟩ _ _) ((Zak (js := [0, 0]) ld cl53 (ZcX k (1 : Int) true true v3 gb4 go5 gc6 (v8, x9) hv8) .func (.cons (tl hd 4 15) (.cons .cI .nil)) rfl).post (fun _ => Imp.refl))) <| dS 7 (fun γ ρ B hb hd => Zcn lb tu24 tu22 (tl hd 5 16) hv10) <| db 8 4 <| dS 9 (fun γ ρ B hb hd => Zap lb (tl hd 7 18) (fun e v h => by subst h; rfl)) <| dS 10 (fun γ ρ B hb hd => Zaa (off := 0) lb Zb2 (tl hd 8 19)) ?_
      refine dR 11 (fun γ ρ B hb hd => Zao.lk ⟨ρ, (cvar gb7 (zq27 gb4) zq25) :: B, _⟩ (ZaJ (j := 0) lb tS87 (tl hd 9 20) rfl (Comp.trans (Comp.self (zq27 gb4) zq25) (Comp.at' (Comp.inF (Comp.self (rW (PTR gb4 0)) ()) (lE rfl)) (by rfl : _ = 0)) (lE rfl)))) <| dR 12 (fun γ ρ B hb hd => Zao.at ⟨ρ, (cvar gb4 Zab x9) :: B, _⟩ (setO ⟨ρ, (cvar gb4 Zab x12) :: B, _⟩ _ _) ((Zak (js := [0]) ld cl53 (ZaD k (1 : Int) x9 gb4 (v11, x12) hv11) .func (.cons (tl hd 10 21) (.cons .cI .nil)) rfl).post (fun _ => Imp.refl))) <| dS 13 (fun γ ρ B hb hd => Zcn lb tu24 tu3 (tl hd 11 22) hv13) <| db 14 4 <| dS 15 (fun γ ρ B hb hd => Zap lb (tl hd 13 24) (fun e v h => by subst h; rfl)) ?_
      refine dS 16 (fun γ ρ B hb hd => Zaa (off := 0) lb Zb2 (tl hd 14 25)) <| dR 17 (fun γ ρ B hb hd => Zao.lk ⟨ρ, (cvar gb7 (zq27 gb4) zq25) :: B, _⟩ (ZaJ (j := 0) lb tS87 (tl hd 15 26) rfl (Comp.trans (Comp.self (zq27 gb4) zq25) (Comp.at' (Comp.inF (Comp.self (rW (PTR gb4 0)) ()) (lE rfl)) (by rfl : _ = 0)) (lE rfl)))) <| dR 18 (fun γ ρ B hb hd => Zao.at ⟨ρ, (cvar gb4 Zab x12) :: B, _⟩ (setO ⟨ρ, (cvar gb4 Zab x15) :: B, _⟩ _ _) ((Zak (js := [0]) ld cl53 (ZaD k (1 : Int) x12 gb4 (v14, x15) hv14) .func (.cons (tl hd 16 27) (.cons .cI .nil)) rfl).post (fun _ => Imp.refl))) <| dS 19 (fun γ ρ B hb hd => Zcn lb tu24 tu3 (tl hd 17 28) hv16) <| dS 20 (fun γ ρ B hb hd => Zbl lb tZ39 zr39 tp39 (.S (off := 0) rfl (tl hd 6 17) rfl ((UpdR.fst (UpdR.self (by rfl))).at (by rfl)) (.S (off := 1) rfl (tl hd 12 23) rfl ((UpdR.snd (UpdR.fst (UpdR.self (by rfl)))).at (by rfl)) (.S (off := 2) rfl (tl hd 18 29) rfl ((UpdR.snd (UpdR.snd (UpdR.fst (UpdR.self (by rfl))))).at (by rfl)) .nil))) rfl) ?_
      refine dS 21 (fun γ ρ B hb hd => Zap lb (tl hd 0 11) (fun e v h => by subst h; rfl)) <| dS 22 (fun γ ρ B hb hd => Zaa (off := 1) lb ZdL (tl hd 20 31)) <| dR 23 (fun γ ρ B hb hd => Zao.at ⟨ρ, (cvar gb7 (zq27 gb4) zq25) :: B, _⟩ (setO ⟨ρ, (cvar gb7 (zq27 gb4) (zq29 v10 v13 v16)) :: B, _⟩ _ _) (ZaM (j := 0) tA39 (tl hd 21 32) (tl hd 19 30) rfl ((UpdR.snd (UpdR.fst (UpdR.self (by rfl)))).at (by change (1 + 0) = (0 + 1); omega)) rfl)) ?_
      exact ZaF.nil)
     (by decide +kernel) (fun _ => rfl) (fun _ => rfl) (fun _ => rfl) rfl
     (ρ' := fun γ => [(0, ov (S (rL (rU UInt8)) t1)), (2, ov (PTR gb2 0)), (4, ov (PTR gb7 0))])
     (X' := fun γ => [cvar gb2 zq0 zq1, cown go5 (rU UInt8) v3 (List.length v3) gc6, cvar gb4 Zab x15, cvar gb7 (zq27 gb4) (zq29 v10 v13 v16)])
     (fun γ ρ hb hd => (.cons (hb 0 _ rfl) (.cons (hb 2 _ rfl) (.cons (hb 4 _ rfl) .nil)))) (fun _ => rfl) (fun γ => ?_)
 refine JQ.at ⟨[(0, ov (S (rL (rU UInt8)) t1)), (2, ov (PTR gb2 0)), (4, ov (PTR gb7 0))], [cvar gb2 zq0 zq1, cown go5 (rU UInt8) v3 (List.length v3) gc6, cvar gb4 Zab x15, cvar gb7 (zq27 gb4) (zq29 v10 v13 v16)], []⟩ <| JQ.then ?_
 obtain ⟨⟨Reader56, f57⟩, hx1, hq1⟩ := Zaz hm
 refine JC.seqJ (γ := Unit) (stj := fun _ => ⟨[(0, ov (S (rL (rU UInt8)) t1)), (2, ov (PTR gb2 0)), (4, ov (PTR gb7 0))], [cvar gb2 zq0 zq1, cvar gb7 (zq50 gb4) ((), (f57, ())), cvar gb4 Zab Reader56], []⟩) (fun _ => ?_) ?_
 · refine JC.seq <| bI hq1 fun x65 hx10 hq10 => JC.seqJ (γ := Unit) (stj := fun _ => ⟨[(2, ov (PTR gb2 0)), (4, ov (PTR gb7 0)), (63, ov (S rB x65))], [cvar gb2 zq0 zq1, cvar gb7 (zq50 gb4) ((), (f57, ())), cvar gb4 Zab Reader56], []⟩) (fun _ => ?_) ?_
   · refine jif tR hq10 (fun hc17 hq10 => ?_) (fun hc17 hq10 => ?_)
     · refine jr <| jc (Zbl lb tZ39 zr39 tp39 .nil rfl) <| jc (ZaM (j := 0) tA39 tR tR rfl (UpdR.self (by rfl)) rfl) <| jc (Zac lb .cI) <| jn <| JC.ret <| JQ.outR ?_
       obtain rfl := so hq10
       refine JQ.pre (Imp.var (j := 0) (q := Zad) (y := (Zai.mk (0 : Int) (0 : Int) (0 : Int) ([] : (List Zal)) (Zaq.mk (Zah.mk (0 : Int) (0 : UInt64)) ([] : (List UInt8)) ([] : (List UInt8)) (Vector.replicate 16 (0 : UInt64)) ([] : (List ZaA))) (Vector.replicate 16 (0 : UInt64)) (Vector.replicate 16 (0 : UInt64)) ([] : (List Zah)) ([] : (List Zah)) (Vector.replicate 32 (0 : UInt8)) ([] : (List (Vector UInt8 32))) ([] : (List Int)) false)) rfl (Wk.st (Wk.pair Wk.refl (Wk.pair Wk.refl (Wk.pair Wk.refl (Wk.pair Wk.nil (Wk.pair (Wk.st (Wk.pair Wk.refl (Wk.pair Wk.refl (Wk.pair Wk.nil (Wk.pair Wk.refl (Wk.pair Wk.nil Wk.refl)))))) (Wk.pair Wk.refl (Wk.pair Wk.refl (Wk.pair Wk.nil (Wk.pair Wk.nil (Wk.pair Wk.refl (Wk.pair Wk.nil (Wk.pair Wk.nil (Wk.pair Wk.refl Wk.refl))))))))))))))) ?_
       exact JQ.done (js := []) (ss := [.val (A Zad (Zai.mk (0 : Int) (0 : Int) (0 : Int) ([] : (List Zal)) (Zaq.mk (Zah.mk (0 : Int) (0 : UInt64)) ([] : (List UInt8)) ([] : (List UInt8)) (Vector.replicate 16 (0 : UInt64)) ([] : (List ZaA))) (Vector.replicate 16 (0 : UInt64)) (Vector.replicate 16 (0 : UInt64)) ([] : (List Zah)) ([] : (List Zah)) (Vector.replicate 32 (0 : UInt8)) ([] : (List (Vector UInt8 32))) ([] : (List Int)) false)), .val (S (rI .i64) (4 : Int))]) () (.inl rfl) (.nil rfl) rfl (.cons (.cellA (j := 0) tA39 rfl rfl) (.cons (.tmp rfl) .nil)) rfl rfl rfl
     refine JC.skip <| JQ.then <| jr <| jmv rfl rfl <| jc (Zap lb tR (fun e v h => by subst h; rfl)) <| jc (Zaa (off := 1) lb ZdL tR) <| jc (ZaB (j := 1) lb tA39 tR rfl (Comp.trans (Comp.self (zq50 gb4) ((), (f57, ()))) (Comp.at' (Comp.inS (Comp.inF (Comp.self Zad f57) (lE rfl))) (by rfl : _ = 1)) (lE rfl)) rfl) <| jc (ZaM (j := 0) tA39 tR tR rfl (UpdR.self (by rfl)) rfl) <| jc (Zac lb .cI) <| jn <| JC.ret ?_
     obtain rfl := so hq10
     exact JQ.done (js := []) (ss := [.val (A Zad f57), .val (S (rI .i64) (0 : Int))]) () (.inl rfl) (.nil rfl) rfl (.cons (.cellA (j := 0) tA39 rfl rfl) (.cons (.tmp rfl) .nil)) rfl rfl rfl
   refine JC.region <| jmv rfl rfl <| jc (Zap lb tR (fun e v h => by subst h; rfl)) <| jc (Zaa (off := 1) lb ZdL tR) <| jc (ZaB (j := 1) lb tA39 tR rfl (Comp.trans (Comp.self (zq50 gb4) ((), (f57, ()))) (Comp.at' (Comp.inS (Comp.inF (Comp.self Zad f57) (lE rfl))) (by rfl : _ = 1)) (lE rfl)) rfl) <| bI hx10 fun v58 hv58 hx10 => jx (Zak (js := []) ld cl11 (Zfn k f57 v58 hv58) .func (.cons tR .nil) rfl) fun _ => lI hx10 fun v59 hv59 hx10 => jc (ZbU lb tR hv59) <| jmv rfl rfl <| jF (ov (PTR gb7 0)) rfl rfl rfl rfl (fun hq11 => ZaC lb tR) <| jF (ov (PTR gb7 0)) rfl rfl rfl rfl (fun hq12 => Zap lb (HasO.cnd tR (notT (notF hq12))) (fun e v h => by subst h; rfl)) <| jF (ov (PTR gb7 (0 + 1))) rfl rfl rfl rfl (fun hq_13 => Zaa (off := 1) lb ZdL (HasO.cnd tR (notT (notF hq_13)))) <| jF (ov (A Zad f57)) rfl rfl rfl rfl (fun hq_14 => ZaB (j := 1) lb tA39 (HasO.cnd tR (notT (notF hq_14))) rfl (Comp.trans (Comp.self (zq50 gb4) ((), (f57, ()))) (Comp.at' (Comp.inS (Comp.inF (Comp.self Zad f57) (lE rfl))) (by rfl : _ = 1)) (lE rfl)) rfl) ?_
   rcases ZcY hx10 with ⟨hc16, hx10⟩ | ⟨hc16, hx10⟩
   · refine jk rfl hc16 <| jk rfl hc16 <| jk rfl hc16 <| jk rfl hc16 <| jc (Zdf lb tR hc16 .cB) <| JL.sub ⟨[(2, ov (PTR gb2 0)), (4, ov (PTR gb7 0)), (63, ov (S rB true))], [cvar gb2 zq0 zq1, cvar gb7 (zq50 gb4) ((), (f57, ())), cvar gb4 Zab Reader56], []⟩ (.cons rfl (.cons rfl (.cons rfl .nil))) rfl rfl <| JL.nil ?_
     try obtain rfl := so hx10
     exact JQ.join () (Imp.norm (js := [0, 0, 0]) rfl (.cons rfl (.cons rfl (.cons rfl .nil))))
   refine bI hx10 fun v60 hv60 hx10 => JL.runX (.yes rfl (ltB rfl) rfl hc16) (Zak (js := []) ld cl27 (Ze3 k f57 v60 hv60) .func (.cons (HasO.cnd tR (notT hc16)) .nil) rfl) (fun q => ?_)
   obtain ⟨go61, gc62⟩ := q
   refine JL.sub ⟨[(0, ov (S (rL (rU UInt8)) t1)), (2, ov (PTR gb2 0)), (4, ov (PTR gb7 0)), (54, ov (S rB v59)), (59, ov (HDR go61 0 (List.length v60) gc62))], [cown go61 (rU UInt8) v60 (List.length v60) gc62, cvar gb2 zq0 zq1, cvar gb7 (zq50 gb4) ((), (f57, ())), cvar gb4 Zab Reader56], []⟩ (.cons rfl (.cons rfl (.cons rfl (.cons rfl (.cons rfl .nil))))) rfl rfl <| JL.run (.yes rfl (ltB rfl) rfl hc16) (ZaC lb tR) <| bI hx10 fun v63 hv63 hx10 => JL.pre (Imp.frz (j := 0) rfl (ImpK.slotH (s := 59) rfl ImpK.refl)) <| JL.runX (.yes rfl (ltB rfl) rfl hc16) (Zak (js := []) ld cl55 (Zcw k v60 t1 v63 hv63) .func (.cons (HasO.wk tR wkHL) (.cons tR .nil)) rfl) fun _ => lI hx10 fun v64 hv64 hx10 => JL.run (.yes rfl (ltB rfl) rfl hc16) (ZbU lb tR hv64) <| jc (Za6 lb tR hc16 tR) <| JL.nil ?_
   try obtain rfl := so hx10
   exact JQ.join () (Imp.norm (js := [1, 1, 1]) rfl (.cons rfl (.cons rfl (.cons rfl .nil))))
 refine JC.seq ?_
 obtain ⟨v17, hv17, hx1⟩ := Zaz hx1
 obtain ⟨⟨v19, is20⟩, hv19, hx1⟩ := Zaz hx1
 refine JC.anyF (base := [(0, ov (S (rL (rU UInt8)) t1)), (2, ov (PTR gb2 0)), (4, ov (PTR gb7 0))])
     (fs := fun γ => [⟨some 34, ov (MPV (deo (γ 0 0)))⟩, ⟨some 35, ov (PTR gb7 0)⟩, ⟨some 36, ov (PTR gb7 0)⟩, ⟨some 37, ov (PTR gb7 (0 + 1))⟩, ⟨some 38, ov (PTR gb7 ((0 + 1) + 0))⟩, ⟨some 39, ov (S (rI .i64) v10)⟩, ⟨some 40, .tup [.val (A ZaG v19), .val (S rB is20)]⟩, ⟨some 33, .tup [.val (A ZaG v19), .val (S rB is20)]⟩, ⟨some 41, ov (A ZaG v19)⟩, ⟨some 42, ov (S rB is20)⟩, ⟨some 5, ov (PTR (γ 10 0) 0)⟩, ⟨none, .one .any⟩, ⟨some 6, ov (S rB is20)⟩])
     (rs := fun γ => [⟨cvar gb2 zq0 zq1, none, none, []⟩, ⟨cown go5 (rU UInt8) v3 (List.length v3) gc6, none, none, []⟩, ⟨cvar gb4 Zab x15, none, none, []⟩, ⟨cvar gb7 (zq27 gb4) (zq29 v10 v13 v16), none, none, [5]⟩, ⟨cmap (deo (γ 0 0)) (S (rI .i64)) (A ZaG) (some (v17)), (some 0), none, [6]⟩, ⟨cvar (γ 10 0) ZaG (Zaf.mk (none : Option Nat) (none : Option Nat)), (some 10), (some 11), []⟩, ⟨cvar (γ 10 0) ZaG v19, (some 11), none, []⟩])
     (afts := [[0, 6, 7, 8, 9, 11, 12], [], [], [], [], [], [], [], [], [], [10, 11, 12], [], []]) (js := [0, 0, 0, 0]) Zcj (.cons rfl (.cons rfl (.cons rfl .nil))) (fun _ => rfl)
     (by
      refine ZaF.cons (j := 1) rfl (fun _ => rfl) (.runX (fun _ _ => rfl) (fun γ ρ B hb hd => ⟨.none, OpX.ghost (γ := Option Nat) (st' := fun q => setO ⟨ρ, (cmap q (S (rI .i64)) (A ZaG) (some (v17))) :: B, _⟩ (some 34) (ov (MPV q))) (fun q c => eno q) (Zak (js := []) ld cl54 (ZfV k v17 hv17) .func .nil rfl) (fun q => by cases q <;> exact Imp.refl)⟩) (fun _ _ => rfl) (fun _ _ => rfl)) ?_
      refine db 2 4 <| dS 3 (fun γ ρ B hb hd => Zap lb (tl hd 1 35) (fun e v h => by subst h; rfl)) <| dS 4 (fun γ ρ B hb hd => Zaa (off := 1) lb ZdL (tl hd 2 36)) <| dS 5 (fun γ ρ B hb hd => Zaa (off := 0) lb Zgg (tl hd 3 37)) <| dR 6 (fun γ ρ B hb hd => Zao.lk ⟨ρ, (cvar gb7 (zq27 gb4) (zq29 v10 v13 v16)) :: B, _⟩ (Zam (j := 0) lb tS22 (tl hd 4 38) rfl (Comp.trans (Comp.trans (Comp.self (zq27 gb4) (zq29 v10 v13 v16)) (Comp.at' (Comp.inS (Comp.inF (Comp.self zq0 (zq30 v10 v13 v16)) (lE rfl))) (by rfl : _ = 1)) (lE rfl)) (Comp.at' (Comp.inF (Comp.self (rI .i64) v10) (lE rfl)) (by rfl : _ = 0)) (lE rfl)) rfl rfl)) ?_
      refine dR 7 (fun γ ρ B hb hd => Zao.lk ⟨ρ, (cmap (deo (γ 0 0)) (S (rI .i64)) (A ZaG) (some (v17))) :: B, _⟩ (ZkJ (z0 := (Zaf.mk (none : Option Nat) (none : Option Nat))) (j := 0) lb tu97 ky22 tZ95 (fun e => ⟨_, rfl, zv95 e⟩) rfl (tl hd 0 34) (tl hd 5 39) hv19)) <| dm 8 6 40 <| dS 9 (fun γ ρ B hb hd => Zaw (i := 0) lb (tl hd 7 33) rfl) <| dS 10 (fun γ ρ B hb hd => Zaw (i := 1) lb (tl hd 7 33) rfl) ?_
      refine ZaF.cons (j := 11) rfl (fun _ => rfl) (.runX (fun _ _ => rfl) (fun γ ρ B hb hd => ⟨.none, OpX.ghost (γ := Nat) (st' := fun q => setO ⟨ρ, (cvar q ZaG (Zaf.mk (none : Option Nat) (none : Option Nat))) :: B, _⟩ (some 5) (ov (PTR q 0))) (fun q c => q) (OpX.front (Za8 lb tZ95 zr95)) (fun q => Imp.refl)⟩) (fun _ _ => rfl) (fun _ _ => rfl)) ?_
      refine dR 12 (fun γ ρ B hb hd => Zao.at ⟨ρ, (cvar (γ 10 0) ZaG (Zaf.mk (none : Option Nat) (none : Option Nat))) :: B, _⟩ (setO ⟨ρ, (cvar (γ 10 0) ZaG v19) :: B, _⟩ _ _) (ZaM (j := 0) tA95 (tl hd 10 5) (tl hd 8 41) rfl (UpdR.self (by rfl)) rfl)) <| dS 13 (fun γ ρ B hb hd => Zac lb (tl hd 9 42)) ?_
      exact ZaF.nil)
     (by decide +kernel) (fun _ => rfl) (fun _ => rfl) (fun _ => rfl) rfl
     (ρ' := fun γ => [(0, ov (S (rL (rU UInt8)) t1)), (2, ov (PTR gb2 0)), (4, ov (PTR gb7 0)), (5, ov (PTR (γ 10 0) 0)), (6, ov (S rB is20))])
     (X' := fun γ => [cvar gb2 zq0 zq1, cown go5 (rU UInt8) v3 (List.length v3) gc6, cvar gb4 Zab x15, cvar gb7 (zq27 gb4) (zq29 v10 v13 v16), cmap (deo (γ 0 0)) (S (rI .i64)) (A ZaG) (some (v17)), cvar (γ 10 0) ZaG v19])
     (fun γ ρ hb hd => (.cons (hb 0 _ rfl) (.cons (hb 2 _ rfl) (.cons (hb 4 _ rfl) (.cons (hdq hd 10 5 rfl) (.cons (hdq hd 12 6 rfl) .nil)))))) (fun _ => rfl) (fun γ => ?_)
 generalize (deo (γ 0 0)) = go18
 generalize (γ 10 0) = gb21
 clear γ
 refine JQ.at ⟨[(0, ov (S (rL (rU UInt8)) t1)), (2, ov (PTR gb2 0)), (4, ov (PTR gb7 0)), (5, ov (PTR gb21 0)), (6, ov (S rB is20))], [cvar gb2 zq0 zq1, cown go5 (rU UInt8) v3 (List.length v3) gc6, cvar gb4 Zab x15, cvar gb7 (zq27 gb4) (zq29 v10 v13 v16), cmap go18 (S (rI .i64)) (A ZaG) (some (v17)), cvar gb21 ZaG v19], []⟩ <| JQ.then <| jr <| jmv rfl rfl <| jn <| jif tR hx1 (fun hc2 hx1 => ?_) (fun hc2 hx1 => ?_)
 · refine JC.region <| jc (Zaa (off := 1) lb Zok tR) <| jc (Zam (j := 5) lb tS93 tR rfl (cT (Zgb v19) rfl) rfl rfl) <| jmv rfl rfl ?_
   replace hx1 := Zfd hx1
   rcases hx1 with ⟨hf3, hx1⟩ | hx1
   · refine JL.pre (Imp.slot (s := 45) (q := CLO 93 []) rfl (Zg1 hf3)) ?_
     obtain ⟨⟨x22, x23⟩, hv_x_22, hx1⟩ := Zaz hx1
     refine jx (Zak (js := [3, 2]) ld cl93 (ZfC k v10 v13 v16 (Zah.mk (0 : Int) (0 : UInt64)) ([] : (List UInt8)) (Vector.replicate 16 (0 : UInt64)) (Vector.replicate 16 (0 : UInt64)) (Vector.replicate 16 (0 : UInt64)) (Vector.replicate 32 (0 : UInt8)) false x15 gb7 gb4 (x22, x23) hv_x_22) tR (.cons tR .nil) rfl) (fun q => ?_)
     obtain ⟨go24, gc25⟩ := q
     refine JL.nil ?_
     have hz := Option.some.inj hx1
     replace hz := Prod.mk.inj hz
     obtain ⟨hz_a, hz⟩ := hz
     first | subst hz_a | clear hz_a
     first | subst hz | clear hz
     refine JQ.pre (Imp.frz (j := 2) rfl (ImpK.var (j := 0) (q := (zq63 gb4 go24 x23 gc25)) (y := (zq29 v10 v13 v16)) rfl (Wk.pair Wk.refl (Wk.pair (Wk.pair Wk.refl (Wk.pair Wk.refl (Wk.pair Wk.refl (Wk.pair Wk.own (Wk.pair Wk.refl (Wk.pair Wk.refl (Wk.pair Wk.refl (Wk.pair Wk.refl (Wk.pair Wk.refl (Wk.pair Wk.refl (Wk.pair Wk.refl (Wk.pair Wk.refl (Wk.pair Wk.refl Wk.refl))))))))))))) Wk.refl)) ImpK.refl)) <| JQ.pre (Imp.var (j := 0) (q := (zq50 gb4)) (y := (zq64 v10 v13 v16 x23)) rfl (Wk.pair Wk.refl (Wk.pair (Wk.st (Wk.pair Wk.refl (Wk.pair Wk.refl (Wk.pair Wk.refl (Wk.pair Wk.hl (Wk.pair (Wk.st (Wk.pair Wk.refl (Wk.pair Wk.refl (Wk.pair Wk.nil (Wk.pair Wk.refl (Wk.pair Wk.nil Wk.refl)))))) (Wk.pair Wk.refl (Wk.pair Wk.refl (Wk.pair Wk.nil (Wk.pair Wk.nil (Wk.pair Wk.refl (Wk.pair Wk.nil (Wk.pair Wk.nil (Wk.pair Wk.refl Wk.refl)))))))))))))) Wk.refl))) ?_
     exact JQ.join () (Imp.norm (js := [3, 0, 0]) rfl (.cons rfl (.cons rfl (.cons rfl .nil))))
   replace hx1 := Zfd hx1
   rcases hx1 with ⟨hf4, hx1⟩ | hx1
   · refine JL.pre (Imp.slot (s := 45) (q := CLO 95 []) rfl (Zg1 hf4)) ?_
     obtain ⟨⟨x26, x27⟩, hv_x_26, hx1⟩ := Zaz hx1
     refine jx (Zak (js := [3, 2]) ld cl95 (ZfB k v10 v13 v16 (Zah.mk (0 : Int) (0 : UInt64)) ([] : (List UInt8)) (Vector.replicate 16 (0 : UInt64)) (Vector.replicate 16 (0 : UInt64)) (Vector.replicate 16 (0 : UInt64)) (Vector.replicate 32 (0 : UInt8)) false x15 gb7 gb4 (x26, x27) hv_x_26) tR (.cons tR .nil) rfl) fun _ => JL.nil ?_
     have hz := Option.some.inj hx1
     replace hz := Prod.mk.inj hz
     obtain ⟨hz_a, hz⟩ := hz
     first | subst hz_a | clear hz_a
     first | subst hz | clear hz
     exact JQ.join () (Imp.norm (js := [2, 0, 0]) rfl (.cons rfl (.cons rfl (.cons rfl .nil))))
   replace hx1 := Zfd hx1
   rcases hx1 with ⟨hf5, hx1⟩ | hx1
   · refine JL.pre (Imp.slot (s := 45) (q := CLO 97 []) rfl (Zg1 hf5)) ?_
     obtain ⟨⟨x28, x29⟩, hv_x_28, hx1⟩ := Zaz hx1
     refine jx (Zak (js := [3, 2]) ld cl97 (ZfW k v10 v13 v16 (Zah.mk (0 : Int) (0 : UInt64)) ([] : (List UInt8)) (Vector.replicate 16 (0 : UInt64)) (Vector.replicate 16 (0 : UInt64)) (Vector.replicate 16 (0 : UInt64)) (Vector.replicate 32 (0 : UInt8)) false x15 gb7 gb4 (x28, x29) hv_x_28) tR (.cons tR .nil) rfl) fun _ => JL.nil ?_
     have hz := Option.some.inj hx1
     replace hz := Prod.mk.inj hz
     obtain ⟨hz_a, hz⟩ := hz
     first | subst hz_a | clear hz_a
     first | subst hz | clear hz
     exact JQ.join () (Imp.norm (js := [2, 0, 0]) rfl (.cons rfl (.cons rfl (.cons rfl .nil))))
   replace hx1 := Zfd hx1
   rcases hx1 with ⟨hf6, hx1⟩ | hx1
   · refine JL.pre (Imp.slot (s := 45) (q := CLO 99 []) rfl (Zg1 hf6)) ?_
     obtain ⟨⟨x30, x31, x32, x33⟩, hv_x_30, hx1⟩ := Zaz hx1
     refine jx (Zak (js := [3, 2]) ld cl99 (ZfE k v10 v13 v16 (Zah.mk (0 : Int) (0 : UInt64)) ([] : (List UInt8)) (Vector.replicate 16 (0 : UInt64)) (Vector.replicate 16 (0 : UInt64)) (Vector.replicate 16 (0 : UInt64)) (Vector.replicate 32 (0 : UInt8)) false x15 gb7 gb4 (x30, x31, x32, x33) hv_x_30) tR (.cons tR .nil) rfl) (fun q => ?_)
     obtain ⟨go34, gc35, go36, gc37⟩ := q
     refine JL.nil ?_
     have hz := Option.some.inj hx1
     replace hz := Prod.mk.inj hz
     obtain ⟨hz_a, hz⟩ := hz
     first | subst hz_a | clear hz_a
     first | subst hz | clear hz
     refine JQ.pre (Imp.frz (j := 2) rfl (ImpK.var (j := 0) (q := (zq65 gb4 go34 x32 gc35 go36 x33 gc37)) (y := (zq66 v10 v13 v16 x31)) rfl (Wk.pair Wk.refl (Wk.pair (Wk.pair Wk.refl (Wk.pair Wk.refl (Wk.pair Wk.refl (Wk.pair Wk.refl (Wk.pair Wk.refl (Wk.pair Wk.refl (Wk.pair Wk.refl (Wk.pair Wk.own (Wk.pair Wk.refl (Wk.pair Wk.refl (Wk.pair Wk.refl (Wk.pair Wk.refl (Wk.pair Wk.refl Wk.refl))))))))))))) Wk.refl)) ImpK.refl)) <| JQ.pre (Imp.frz (j := 3) rfl (ImpK.var (j := 0) (q := (zq67 gb4 go34 x32 gc35 go36 x33 gc37)) (y := (zq66 v10 v13 v16 x31)) rfl (Wk.pair Wk.refl (Wk.pair (Wk.pair Wk.refl (Wk.pair Wk.refl (Wk.pair Wk.refl (Wk.pair Wk.refl (Wk.pair Wk.refl (Wk.pair Wk.refl (Wk.pair Wk.refl (Wk.pair Wk.refl (Wk.pair Wk.own (Wk.pair Wk.refl (Wk.pair Wk.refl (Wk.pair Wk.refl (Wk.pair Wk.refl Wk.refl))))))))))))) Wk.refl)) ImpK.refl)) <| JQ.pre (Imp.var (j := 0) (q := (zq50 gb4)) (y := (zq68 v10 v13 v16 x31 x32 x33)) rfl (Wk.pair Wk.refl (Wk.pair (Wk.st (Wk.pair Wk.refl (Wk.pair Wk.refl (Wk.pair Wk.refl (Wk.pair Wk.nil (Wk.pair (Wk.st (Wk.pair Wk.refl (Wk.pair Wk.refl (Wk.pair Wk.nil (Wk.pair Wk.refl (Wk.pair Wk.nil Wk.refl)))))) (Wk.pair Wk.refl (Wk.pair Wk.refl (Wk.pair Wk.hl (Wk.pair Wk.hl (Wk.pair Wk.refl (Wk.pair Wk.nil (Wk.pair Wk.nil (Wk.pair Wk.refl Wk.refl)))))))))))))) Wk.refl))) ?_
     exact JQ.join () (Imp.norm (js := [4, 0, 0]) rfl (.cons rfl (.cons rfl (.cons rfl .nil))))
   replace hx1 := Zfd hx1
   rcases hx1 with ⟨hf7, hx1⟩ | hx1
   · refine JL.pre (Imp.slot (s := 45) (q := CLO 101 []) rfl (Zg1 hf7)) ?_
     obtain ⟨⟨x38, x39⟩, hv_x_38, hx1⟩ := Zaz hx1
     refine jx (Zak (js := [3, 2]) ld ZoH (ZfK k v10 v13 v16 (Zah.mk (0 : Int) (0 : UInt64)) ([] : (List UInt8)) (Vector.replicate 16 (0 : UInt64)) (Vector.replicate 16 (0 : UInt64)) (Vector.replicate 16 (0 : UInt64)) (Vector.replicate 32 (0 : UInt8)) false x15 gb7 gb4 (x38, x39) hv_x_38) tR (.cons tR .nil) rfl) fun _ => JL.nil ?_
     have hz := Option.some.inj hx1
     replace hz := Prod.mk.inj hz
     obtain ⟨hz_a, hz⟩ := hz
     first | subst hz_a | clear hz_a
     first | subst hz | clear hz
     exact JQ.join () (Imp.norm (js := [2, 0, 0]) rfl (.cons rfl (.cons rfl (.cons rfl .nil))))
   replace hx1 := Zfd hx1
   rcases hx1 with ⟨hf8, hx1⟩ | hx1
   · refine JL.pre (Imp.slot (s := 45) (q := CLO 103 []) rfl (Zg1 hf8)) ?_
     obtain ⟨⟨x40, x41⟩, hv_x_40, hx1⟩ := Zaz hx1
     refine jx (Zak (js := [3, 2]) ld Zo4 (Zfo k v10 v13 v16 (Zah.mk (0 : Int) (0 : UInt64)) ([] : (List UInt8)) (Vector.replicate 16 (0 : UInt64)) (Vector.replicate 16 (0 : UInt64)) (Vector.replicate 16 (0 : UInt64)) (Vector.replicate 32 (0 : UInt8)) false x15 gb7 gb4 (x40, x41) hv_x_40) tR (.cons tR .nil) rfl) (fun q => ?_)
     obtain ⟨go42, gc43⟩ := q
     refine JL.nil ?_
     have hz := Option.some.inj hx1
     replace hz := Prod.mk.inj hz
     obtain ⟨hz_a, hz⟩ := hz
     first | subst hz_a | clear hz_a
     first | subst hz | clear hz
     refine JQ.pre (Imp.frz (j := 2) rfl (ImpK.var (j := 0) (q := (zq69 gb4 go42 x41 gc43)) (y := (zq29 v10 v13 v16)) rfl (Wk.pair Wk.refl (Wk.pair (Wk.pair Wk.refl (Wk.pair Wk.refl (Wk.pair Wk.refl (Wk.pair Wk.refl (Wk.pair Wk.refl (Wk.pair Wk.refl (Wk.pair Wk.refl (Wk.pair Wk.refl (Wk.pair Wk.refl (Wk.pair Wk.refl (Wk.pair Wk.own (Wk.pair Wk.refl (Wk.pair Wk.refl Wk.refl))))))))))))) Wk.refl)) ImpK.refl)) <| JQ.pre (Imp.var (j := 0) (q := (zq50 gb4)) (y := (zq70 v10 v13 v16 x41)) rfl (Wk.pair Wk.refl (Wk.pair (Wk.st (Wk.pair Wk.refl (Wk.pair Wk.refl (Wk.pair Wk.refl (Wk.pair Wk.nil (Wk.pair (Wk.st (Wk.pair Wk.refl (Wk.pair Wk.refl (Wk.pair Wk.nil (Wk.pair Wk.refl (Wk.pair Wk.nil Wk.refl)))))) (Wk.pair Wk.refl (Wk.pair Wk.refl (Wk.pair Wk.nil (Wk.pair Wk.nil (Wk.pair Wk.refl (Wk.pair Wk.hl (Wk.pair Wk.nil (Wk.pair Wk.refl Wk.refl)))))))))))))) Wk.refl))) ?_
     exact JQ.join () (Imp.norm (js := [3, 0, 0]) rfl (.cons rfl (.cons rfl (.cons rfl .nil))))
   replace hx1 := Zfd hx1
   rcases hx1 with ⟨hf9, hx1⟩ | hx1
   · refine JL.pre (Imp.slot (s := 45) (q := CLO 105 []) rfl (Zg1 hf9)) ?_
     obtain ⟨⟨x44, x45, x46, x47, x48, x49⟩, hv_x_44, hx1⟩ := Zaz hx1
     refine jx (Zak (js := [3, 2]) ld Zpv (ZeR k v10 v13 v16 (Zah.mk (0 : Int) (0 : UInt64)) ([] : (List UInt8)) (Vector.replicate 16 (0 : UInt64)) (Vector.replicate 16 (0 : UInt64)) (Vector.replicate 16 (0 : UInt64)) (Vector.replicate 32 (0 : UInt8)) false x15 gb7 gb4 (x44, x45, x46, x47, x48, x49) hv_x_44) tR (.cons tR .nil) rfl) (fun q => ?_)
     obtain ⟨go50, gc51, go52, gc53, go54, gc55⟩ := q
     refine JL.nil ?_
     have hz := Option.some.inj hx1
     replace hz := Prod.mk.inj hz
     obtain ⟨hz_a, hz⟩ := hz
     first | subst hz_a | clear hz_a
     first | subst hz | clear hz
     refine JQ.pre (Imp.frz (j := 2) rfl (ImpK.var (j := 0) (q := (zq71 gb4 go50 x45 gc51 go52 x47 gc53 go54 x48 gc55)) (y := (zq72 v10 v13 v16 x46 x49)) rfl (Wk.pair Wk.refl (Wk.pair (Wk.pair Wk.refl (Wk.pair Wk.refl (Wk.pair Wk.refl (Wk.pair Wk.own (Wk.pair Wk.refl (Wk.pair Wk.refl (Wk.pair Wk.refl (Wk.pair Wk.refl (Wk.pair Wk.refl (Wk.pair Wk.refl (Wk.pair Wk.refl (Wk.pair Wk.refl (Wk.pair Wk.refl Wk.refl))))))))))))) Wk.refl)) ImpK.refl)) <| JQ.pre (Imp.frz (j := 3) rfl (ImpK.var (j := 0) (q := (zq73 gb4 go50 x45 gc51 go52 x47 gc53 go54 x48 gc55)) (y := (zq72 v10 v13 v16 x46 x49)) rfl (Wk.pair Wk.refl (Wk.pair (Wk.pair Wk.refl (Wk.pair Wk.refl (Wk.pair Wk.refl (Wk.pair Wk.refl (Wk.pair Wk.refl (Wk.pair Wk.refl (Wk.pair Wk.refl (Wk.pair Wk.own (Wk.pair Wk.refl (Wk.pair Wk.refl (Wk.pair Wk.refl (Wk.pair Wk.refl (Wk.pair Wk.refl Wk.refl))))))))))))) Wk.refl)) ImpK.refl)) <| JQ.pre (Imp.frz (j := 4) rfl (ImpK.var (j := 0) (q := (zq74 gb4 go50 x45 gc51 go52 x47 gc53 go54 x48 gc55)) (y := (zq72 v10 v13 v16 x46 x49)) rfl (Wk.pair Wk.refl (Wk.pair (Wk.pair Wk.refl (Wk.pair Wk.refl (Wk.pair Wk.refl (Wk.pair Wk.refl (Wk.pair Wk.refl (Wk.pair Wk.refl (Wk.pair Wk.refl (Wk.pair Wk.refl (Wk.pair Wk.refl (Wk.pair Wk.refl (Wk.pair Wk.refl (Wk.pair Wk.own (Wk.pair Wk.refl Wk.refl))))))))))))) Wk.refl)) ImpK.refl)) ?_
     refine JQ.pre (Imp.var (j := 0) (q := (zq50 gb4)) (y := (zq75 v10 v13 v16 x45 x46 x47 x48 x49)) rfl (Wk.pair Wk.refl (Wk.pair (Wk.st (Wk.pair Wk.refl (Wk.pair Wk.refl (Wk.pair Wk.refl (Wk.pair Wk.hl (Wk.pair (Wk.st (Wk.pair Wk.refl (Wk.pair Wk.refl (Wk.pair Wk.nil (Wk.pair Wk.refl (Wk.pair Wk.nil Wk.refl)))))) (Wk.pair Wk.refl (Wk.pair Wk.refl (Wk.pair Wk.hl (Wk.pair Wk.nil (Wk.pair Wk.refl (Wk.pair Wk.nil (Wk.pair Wk.hl (Wk.pair Wk.refl Wk.refl)))))))))))))) Wk.refl))) ?_
     exact JQ.join () (Imp.norm (js := [5, 0, 0]) rfl (.cons rfl (.cons rfl (.cons rfl .nil))))
   cases hx1
 refine JC.skip ?_
 have hz := Option.some.inj hx1
 replace hz := Prod.mk.inj hz
 obtain ⟨hz_a, hz⟩ := hz
 first | subst hz_a | clear hz_a
 first | subst hz | clear hz
 refine JQ.pre (Imp.var (j := 3) (q := (zq50 gb4)) (y := (zq76 v10 v13 v16)) rfl (Wk.pair Wk.refl (Wk.pair (Wk.st (Wk.pair Wk.refl (Wk.pair Wk.refl (Wk.pair Wk.refl (Wk.pair Wk.nil (Wk.pair (Wk.st (Wk.pair Wk.refl (Wk.pair Wk.refl (Wk.pair Wk.nil (Wk.pair Wk.refl (Wk.pair Wk.nil Wk.refl)))))) (Wk.pair Wk.refl (Wk.pair Wk.refl (Wk.pair Wk.nil (Wk.pair Wk.nil (Wk.pair Wk.refl (Wk.pair Wk.nil (Wk.pair Wk.nil (Wk.pair Wk.refl Wk.refl)))))))))))))) Wk.refl))) ?_
 exact JQ.join () (Imp.norm (js := [0, 2, 1]) rfl (.cons rfl (.cons rfl (.cons rfl .nil))))

theorem ZcN (k : Nat) (e1 : Int) (r : Unit) (hm : Zc5 k e1 = some r) : Sim Tryz.prog 13 [S (rI .i64) e1] [] (γ := Unit) (fun q => []) (fun q => .one (.val (S (rI .i64) e1))) := by
 unfold Zc5 at hm
 refine Sim.of Tryz.func13 rfl rfl (lE rfl) (fun e0 w0 => ?_)
 exact JC.at ⟨[(0, ov (S (rI .i64) e1))], [], []⟩ <| jr <| jc (Zac lb .cI) <| jn <| jr <| jmv rfl rfl <| jc (Zac lb tR) <| jn <| JC.ret <| jd (.val (S (rI .i64) e1)) rfl rfl rfl rfl rfl rfl

theorem Zig (k : Nat) (k1 : Int) (r : (List UInt8)) (hm : Zf5 k k1 = some r) : Sim Tryz.prog 24 [S (rI .i64) k1] [] (γ := Unit) (fun q => []) (fun q => .one (.val (S rS r))) := by
 unfold Zf5 at hm
 refine Sim.of Tryz.func24 rfl rfl (lE rfl) (fun e0 w0 => ?_)
 refine JC.at ⟨[(0, ov (S (rI .i64) k1))], [], []⟩ <| jr <| jc (Zac lb (HasO.cS (l := []) rfl)) <| jn <| jr <| jc (Zce (r := rS) lb Znp tz9 tZ9 rfl (lE rfl) (.S rfl (HasO.cS (l := []) rfl) (.S rfl (HasO.cS (l := [100, 101, 108, 116, 97]) rfl) (.S rfl (HasO.cS (l := [101, 118, 101, 110, 116]) rfl) (.S rfl (HasO.cS (l := [104, 97, 118, 101]) rfl) (.S rfl (HasO.cS (l := [107, 110, 111, 119, 110]) rfl) (.S rfl (HasO.cS (l := [114, 111, 111, 116]) rfl) (.S rfl (HasO.cS (l := [108, 101, 97, 118, 101, 115]) rfl) (.S rfl (HasO.cS (l := [105, 116, 101, 109, 115]) rfl) .nil)))))))) rfl) <| jc (Zac lb tR) <| jn <| JC.seq <| bI hm fun x5 hx1 hq1 => JC.seqJ (γ := Unit) (stj := fun _ => ⟨[(0, ov (S (rI .i64) k1)), (3, ov (S (rL rS) ([([] : List UInt8), ([100, 101, 108, 116, 97] : List UInt8), ([101, 118, 101, 110, 116] : List UInt8), ([104, 97, 118, 101] : List UInt8), ([107, 110, 111, 119, 110] : List UInt8), ([114, 111, 111, 116] : List UInt8), ([108, 101, 97, 118, 101, 115] : List UInt8), ([105, 116, 101, 109, 115] : List UInt8)] : (List (List UInt8))))), (12, ov (S rB x5))], [], []⟩) (fun _ => ?_) ?_
 · refine jif tR hq1 (fun hc7 hq1 => ?_) (fun hc7 hq1 => ?_)
   · refine jr <| jc (Zac lb (HasO.cS (l := []) rfl)) <| jn <| JC.ret <| JQ.outR ?_
     obtain rfl := so hq1
     exact jd (.val (S rS ([] : List UInt8))) rfl rfl rfl rfl rfl rfl
   refine JC.skip <| JQ.then <| jr <| jmv rfl rfl <| jmv rfl rfl <| bI hq1 fun v6 hv6 hq1 => jc (Zau lb Znp tz9 tR tR hv6) <| jc (Zbr lb tS9 rfl tR rfl) <| jc (Zac lb tR) <| jn <| JC.ret ?_
   obtain rfl := so hq1
   exact jd (.val (S rS v6)) rfl rfl rfl rfl rfl rfl
 refine JC.region <| jmv rfl rfl <| lI hx1 fun v2 hv2 hx1 => jc (Zar lb tR .cI (cs hv2)) <| jmv rfl rfl <| jF (ov (S (rI .i64) k1)) rfl rfl rfl rfl (fun hq_2 => ZaC lb tR) <| jF (ov (S (rL rS) ([([] : List UInt8), ([100, 101, 108, 116, 97] : List UInt8), ([101, 118, 101, 110, 116] : List UInt8), ([104, 97, 118, 101] : List UInt8), ([107, 110, 111, 119, 110] : List UInt8), ([114, 111, 111, 116] : List UInt8), ([108, 101, 97, 118, 101, 115] : List UInt8), ([105, 116, 101, 109, 115] : List UInt8)] : (List (List UInt8))))) rfl rfl rfl rfl (fun hq_3 => ZaC lb tR) <| jF (ov (S (rI .i64) (List.length ([([] : List UInt8), ([100, 101, 108, 116, 97] : List UInt8), ([101, 118, 101, 110, 116] : List UInt8), ([104, 97, 118, 101] : List UInt8), ([107, 110, 111, 119, 110] : List UInt8), ([114, 111, 111, 116] : List UInt8), ([108, 101, 97, 118, 101, 115] : List UInt8), ([105, 116, 101, 109, 115] : List UInt8)] : (List (List UInt8))) : Int))) rfl rfl rfl rfl (fun hq4 => ZaI lb Znp (HasO.cnd tR (notT (notF hq4)))) <| lI hx1 fun v3 hv3 hx1 => jF (ov (S rB v3)) rfl rfl rfl rfl (fun hq5 => Zar lb (HasO.cnd tR (notT (notF hq5))) (HasO.cnd tR (notT (notF hq5))) (cs hv3)) ?_
 obtain ⟨v4, hv4, hx1⟩ := ZaT hx1
 refine jc (Zas lb tR (fun hb6 => .cB) (fun hb6 => (HasO.cnd tR (notT hb6))) hv4) <| JL.nil ?_
 try obtain rfl := so hx1
 exact JQ.join () (Imp.norm (js := []) rfl (.cons rfl (.cons rfl (.cons rfl .nil))))

theorem Zg7 (k : Nat) (r : Bool) (hm : ZdG k = some r) : Sim Tryz.prog 9 [] [] (γ := Unit) (fun q => []) (fun q => .one (.val (S rB r))) := by
 unfold ZdG at hm
 refine Sim.of Tryz.func9 rfl rfl (lE rfl) (fun e0 w0 => ?_)
 refine JC.at ⟨[], [], []⟩ <| jr <| jc (Zac lb .cB) <| jn <| jr <| jc (Zbl lb tZ39 zr39 tp39 (.S (off := 0) rfl .cI rfl ((UpdR.fst (UpdR.self (by rfl))).at (by rfl)) (.S (off := 1) rfl .cI rfl ((UpdR.snd (UpdR.fst (UpdR.self (by rfl)))).at (by rfl)) (.S (off := 2) rfl .cI rfl ((UpdR.snd (UpdR.snd (UpdR.fst (UpdR.self (by rfl))))).at (by rfl)) .nil))) rfl) ?_
 obtain ⟨⟨v1, v2⟩, hv1, hm⟩ := Zaz hm
 refine jx (Zak (js := []) ld cl10 (ZeW k (Zai.mk (3 : Int) (1 : Int) (2 : Int) ([] : (List Zal)) (Zaq.mk (Zah.mk (0 : Int) (0 : UInt64)) ([] : (List UInt8)) ([] : (List UInt8)) (Vector.replicate 16 (0 : UInt64)) ([] : (List ZaA))) (Vector.replicate 16 (0 : UInt64)) (Vector.replicate 16 (0 : UInt64)) ([] : (List Zah)) ([] : (List Zah)) (Vector.replicate 32 (0 : UInt8)) ([] : (List (Vector UInt8 32))) ([] : (List Int)) false) (v1, v2) hv1) .func (.cons (HasO.wk (q := A Zad (Zai.mk (3 : Int) (1 : Int) (2 : Int) ([] : (List Zal)) (Zaq.mk (Zah.mk (0 : Int) (0 : UInt64)) ([] : (List UInt8)) ([] : (List UInt8)) (Vector.replicate 16 (0 : UInt64)) ([] : (List ZaA))) (Vector.replicate 16 (0 : UInt64)) (Vector.replicate 16 (0 : UInt64)) ([] : (List Zah)) ([] : (List Zah)) (Vector.replicate 32 (0 : UInt8)) ([] : (List (Vector UInt8 32))) ([] : (List Int)) false)) tR (wkAK (Wk.st (Wk.pair Wk.refl (Wk.pair Wk.refl (Wk.pair Wk.refl (Wk.pair Wk.nil (Wk.pair (Wk.st (Wk.pair Wk.refl (Wk.pair Wk.refl (Wk.pair Wk.nil (Wk.pair Wk.refl (Wk.pair Wk.nil Wk.refl)))))) (Wk.pair Wk.refl (Wk.pair Wk.refl (Wk.pair Wk.nil (Wk.pair Wk.nil (Wk.pair Wk.refl (Wk.pair Wk.nil (Wk.pair Wk.nil (Wk.pair Wk.refl Wk.refl)))))))))))))))) .nil) rfl) (fun q => ?_)
 obtain ⟨go3, gc4⟩ := q
 refine jmv rfl rfl <| jc (Zaw (i := 0) lb tR rfl) <| jc (Zaw (i := 1) lb tR rfl) <| jc (Zac lb tR) <| jc (Zac lb tR) <| jn <| jr ?_
 obtain ⟨⟨v5, v6⟩, hv5, hm⟩ := Zaz hm
 refine jx (Zak (js := []) ld cl15 (Zd5 k ([] : (List UInt8)) (v5, v6) hv5) .func (.cons (HasO.wk (q := S (rL (rU UInt8)) []) HasO.nilH ZkF) .nil) rfl) fun _ => jmv rfl rfl <| JL.sub ⟨[(1, ov (HDR go3 0 (List.length v1) gc4)), (2, ov (S (rI .i64) v2)), (10, .tup [.val (A Zad v5), .val (S (rI .i64) v6)])], [cown go3 (rU UInt8) v1 (List.length v1) gc4], []⟩ (.cons rfl (.cons rfl (.cons rfl .nil))) rfl rfl <| jc (Zaw (i := 0) lb tR rfl) <| jc (Zaw (i := 1) lb tR rfl) <| jx (Za8 lb tZ39 zr39) fun gb7 => jc (ZaM (j := 1) tA39 tR tR rfl (UpdR.self (by rfl)) rfl) <| jc (Zac lb tR) <| jn <| bI hm fun x29 hx1 hq1 => JC.seqJ (γ := Unit) (stj := fun _ => ⟨[(0, ov (S rB x29))], [], []⟩) (fun _ => ?_) ?_
 · refine JC.ret ?_
   obtain rfl := so hq1
   exact jd (.val (S rB x29)) rfl rfl rfl rfl rfl rfl
 refine JC.region <| jmv rfl rfl <| bI hx1 fun _ hv_u_8 hx1 => jx (Zak (js := []) ld cl13 (ZcN k v2 () hv_u_8) .func (.cons tR .nil) rfl) fun _ => lI hx1 fun v9 hv9 hx1 => jc (Zar lb tR .cI (cs hv9)) <| JL.nrm ⟨[(1, ov (HDR go3 0 (List.length v1) gc4)), (4, ov (S (rI .i64) v6)), (16, ov (S rB v9))], [cown go3 (rU UInt8) v1 (List.length v1) gc4], []⟩ [0] rfl (.cons rfl (.cons rfl (.cons rfl .nil))) rfl <| jmv rfl rfl ?_
 rcases ZcY hx1 with ⟨hc3, hx1⟩ | ⟨hc3, hx1⟩
 · refine JL.run (.yes rfl (ltB rfl) rfl hc3) (ZaC lb tR) <| JL.run (.yes rfl (ltB rfl) rfl hc3) (Zhe lb tu27 tR) <| lI hx1 fun v10 hv10 hx1 => JL.run (.yes rfl (ltB rfl) rfl hc3) (Zar lb tR .cI (cs hv10)) <| jc (Zdf lb tR hc3 tR) <| jmv rfl rfl ?_
   rcases ZcY hx1 with ⟨hc5, hx1⟩ | ⟨hc5, hx1⟩
   · refine JL.run (.yes rfl (ltB rfl) rfl hc5) (ZaC lb tR) <| bI hx1 fun i11 hv_i_11 hx1 => JL.run (.yes rfl (ltB rfl) rfl hc5) (Zdl (r := (rU UInt8)) (j := 0) lb tu27 tz5 rfl tR .cI hv_i_11) <| bI hx1 fun v12 hv12 hx1 => JL.run (.yes rfl (ltB rfl) rfl hc5) (ZgT (r := (rU UInt8)) (i := i11) (off := 0) (j := 0) lb tS5 rfl rfl tR hv12 (Comp.self (rU UInt8) v12) (by decide)) <| lI hx1 fun v13 hv13 hx1 => JL.run (.yes rfl (ltB rfl) rfl hc5) (Zci lb tR (HasO.cU (x := (3 : UInt8)) rfl (by decide)) (cs hv13)) <| jc (Zdf lb tR hc5 tR) <| jmv rfl rfl <| JL.sub ⟨[(1, ov (HDR go3 0 (List.length v1) gc4)), (4, ov (S (rI .i64) v6)), (28, ov (S rB v13))], [cown go3 (rU UInt8) v1 (List.length v1) gc4], []⟩ (.cons rfl (.cons rfl (.cons rfl .nil))) rfl rfl ?_
     rcases ZcY hx1 with ⟨hc7, hx1⟩ | ⟨hc7, hx1⟩
     · refine JL.run (.yes rfl (ltB rfl) rfl hc7) (ZaC lb tR) <| bI hx1 fun i14 hv_i_14 hx1 => JL.run (.yes rfl (ltB rfl) rfl hc7) (Zdl (r := (rU UInt8)) (j := 0) lb tu27 tz5 rfl tR .cI hv_i_14) <| bI hx1 fun v15 hv15 hx1 => JL.run (.yes rfl (ltB rfl) rfl hc7) (ZgT (r := (rU UInt8)) (i := i14) (off := 0) (j := 0) lb tS5 rfl rfl tR hv15 (Comp.self (rU UInt8) v15) (by decide)) <| lI hx1 fun v16 hv16 hx1 => JL.run (.yes rfl (ltB rfl) rfl hc7) (Zci lb tR (HasO.cU (x := (1 : UInt8)) rfl (by decide)) (cs hv16)) <| jc (Zdf lb tR hc7 tR) <| jmv rfl rfl ?_
       rcases ZcY hx1 with ⟨hc9, hx1⟩ | ⟨hc9, hx1⟩
       · refine JL.run (.yes rfl (ltB rfl) rfl hc9) (ZaC lb tR) <| bI hx1 fun i17 hv_i_17 hx1 => JL.run (.yes rfl (ltB rfl) rfl hc9) (Zdl (r := (rU UInt8)) (j := 0) lb tu27 tz5 rfl tR .cI hv_i_17) <| bI hx1 fun v18 hv18 hx1 => JL.run (.yes rfl (ltB rfl) rfl hc9) (ZgT (r := (rU UInt8)) (i := i17) (off := 0) (j := 0) lb tS5 rfl rfl tR hv18 (Comp.self (rU UInt8) v18) (by decide)) <| lI hx1 fun v19 hv19 hx1 => JL.run (.yes rfl (ltB rfl) rfl hc9) (Zci lb tR (HasO.cU (x := (2 : UInt8)) rfl (by decide)) (cs hv19)) <| jc (Zdf lb tR hc9 tR) <| jmv rfl rfl <| JL.nrm ⟨[(4, ov (S (rI .i64) v6)), (40, ov (S rB v19))], [], []⟩ [] rfl (.cons rfl (.cons rfl .nil)) rfl ?_
         refine jT (ov (A zq0 zq77)) rfl rfl rfl rfl (fun hq_10 => Zbl lb tZ39 zr39 tp39 (.S (off := 0) rfl .cI rfl ((UpdR.fst (UpdR.self (by rfl))).at (by rfl)) (.S (off := 1) rfl .cI rfl ((UpdR.snd (UpdR.fst (UpdR.self (by rfl)))).at (by rfl)) (.S (off := 2) rfl .cI rfl ((UpdR.snd (UpdR.snd (UpdR.fst (UpdR.self (by rfl))))).at (by rfl)) .nil))) rfl) <| bI hx1 fun v20 hv20 hx1 => jT (ov (S rB v20)) rfl rfl rfl rfl (fun hq11 => (Zak (js := []) ld cl11 (Zfn k (Zai.mk (5 : Int) (1 : Int) (1 : Int) ([] : (List Zal)) (Zaq.mk (Zah.mk (0 : Int) (0 : UInt64)) ([] : (List UInt8)) ([] : (List UInt8)) (Vector.replicate 16 (0 : UInt64)) ([] : (List ZaA))) (Vector.replicate 16 (0 : UInt64)) (Vector.replicate 16 (0 : UInt64)) ([] : (List Zah)) ([] : (List Zah)) (Vector.replicate 32 (0 : UInt8)) ([] : (List (Vector UInt8 32))) ([] : (List Int)) false) v20 (ifT hv20 hq11)) .func (.cons (HasO.wk (q := A Zad (Zai.mk (5 : Int) (1 : Int) (1 : Int) ([] : (List Zal)) (Zaq.mk (Zah.mk (0 : Int) (0 : UInt64)) ([] : (List UInt8)) ([] : (List UInt8)) (Vector.replicate 16 (0 : UInt64)) ([] : (List ZaA))) (Vector.replicate 16 (0 : UInt64)) (Vector.replicate 16 (0 : UInt64)) ([] : (List Zah)) ([] : (List Zah)) (Vector.replicate 32 (0 : UInt8)) ([] : (List (Vector UInt8 32))) ([] : (List Int)) false)) (HasO.cnd tR hq11) (wkAK (Wk.st (Wk.pair Wk.refl (Wk.pair Wk.refl (Wk.pair Wk.refl (Wk.pair Wk.nil (Wk.pair (Wk.st (Wk.pair Wk.refl (Wk.pair Wk.refl (Wk.pair Wk.nil (Wk.pair Wk.refl (Wk.pair Wk.nil Wk.refl)))))) (Wk.pair Wk.refl (Wk.pair Wk.refl (Wk.pair Wk.nil (Wk.pair Wk.nil (Wk.pair Wk.refl (Wk.pair Wk.nil (Wk.pair Wk.nil (Wk.pair Wk.refl Wk.refl)))))))))))))))) .nil) rfl).post (fun _ => Imp.refl)) ?_
         refine lI hx1 fun v21 hv21 hx1 => jT (ov (S rB v21)) rfl rfl rfl rfl (fun hq12 => ZbU lb (HasO.cnd tR hq12) hv21) <| lI hx1 fun v22 hv22 hx1 => jc (Zas lb tR (fun hb13 => (HasO.cnd tR hb13)) (fun hb13 => .cB) hv22) <| jmv rfl rfl <| jT (ov (S (rI .i64) v6)) rfl rfl rfl rfl (fun hq_14 => ZaC lb tR) <| bI hx1 fun _ hv_u_23 hx1 => jT (ov (S (rI .i64) v6)) rfl rfl rfl rfl (fun hq15 => (Zak (js := []) ld cl13 (ZcN k v6 () (ifT hv_u_23 hq15)) .func (.cons (HasO.cnd tR hq15) .nil) rfl).post (fun _ => Imp.refl)) <| lI hx1 fun v24 hv24 hx1 => jT (ov (S rB v24)) rfl rfl rfl rfl (fun hq16 => Zar lb (HasO.cnd tR hq16) .cI (cs hv24)) ?_
         refine lI hx1 fun v25 hv25 hx1 => jc (Zas lb tR (fun hb17 => (HasO.cnd tR hb17)) (fun hb17 => .cB) hv25) <| jmv rfl rfl <| bI hx1 fun v26 hv26 hx1 => jT (ov (S rS v26)) rfl rfl rfl rfl (fun hq18 => (Zak (js := []) ld cl24 (Zig k (7 : Int) v26 (ifT hv26 hq18)) .func (.cons .cI .nil) rfl).post (fun _ => Imp.refl)) <| lI hx1 fun v27 hv27 hx1 => jT (ov (S rB v27)) rfl rfl rfl rfl (fun hq19 => ZhY lb (HasO.cnd tR hq19) (HasO.cS (l := [105, 116, 101, 109, 115]) rfl) (cs hv27)) <| JL.sub ⟨[(50, ov (S rB v25)), (52, bif v25 then ov (S rB v27) else .one .und)], [], []⟩ (.cons rfl (.cons rfl .nil)) rfl rfl <| lI hx1 fun v28 hv28 hx1 => jc (Zas lb tR (fun hb20 => (HasO.cnd tR hb20)) (fun hb20 => .cB) hv28) <| jc (Zac lb tR) <| JL.nil ?_
         try obtain rfl := so hx1
         exact jo rfl rfl rfl
       refine jk rfl hc9 <| jk rfl hc9 <| jk rfl hc9 <| jk rfl hc9 <| jc (Za6 lb tR hc9 .cB) <| jmv rfl rfl <| jk rfl rfl <| jk rfl rfl <| jk rfl rfl <| jc (Za6 lb tR rfl .cB) <| jmv rfl rfl <| jk rfl rfl <| jk rfl rfl <| jk rfl rfl <| jc (Za6 lb tR rfl .cB) <| jmv rfl rfl <| JL.nrm ⟨[(50, ov (S rB false))], [], []⟩ [] rfl (.cons rfl .nil) rfl <| jk rfl rfl <| jk rfl rfl <| jc (Za6 lb tR rfl .cB) <| jc (Zac lb tR) <| JL.nil ?_
       try obtain rfl := so hx1
       exact jo rfl rfl rfl
     refine jk rfl hc7 <| jk rfl hc7 <| jk rfl hc7 <| jk rfl hc7 <| jc (Za6 lb tR hc7 .cB) <| jmv rfl rfl <| jk rfl rfl <| jk rfl rfl <| jk rfl rfl <| jk rfl rfl <| jc (Za6 lb tR rfl .cB) <| jmv rfl rfl <| jk rfl rfl <| jk rfl rfl <| jk rfl rfl <| jc (Za6 lb tR rfl .cB) <| jmv rfl rfl <| jk rfl rfl <| jk rfl rfl <| jk rfl rfl <| jc (Za6 lb tR rfl .cB) <| jmv rfl rfl <| jk rfl rfl <| jk rfl rfl <| jc (Za6 lb tR rfl .cB) <| jc (Zac lb tR) <| JL.nil ?_
     try obtain rfl := so hx1
     exact jo rfl rfl rfl
   refine jk rfl hc5 <| jk rfl hc5 <| jk rfl hc5 <| jk rfl hc5 <| jc (Za6 lb tR hc5 .cB) <| jmv rfl rfl <| jk rfl rfl <| jk rfl rfl <| jk rfl rfl <| jk rfl rfl <| jc (Za6 lb tR rfl .cB) <| jmv rfl rfl <| jk rfl rfl <| jk rfl rfl <| jk rfl rfl <| jk rfl rfl <| jc (Za6 lb tR rfl .cB) <| jmv rfl rfl <| JL.nrm ⟨[(4, ov (S (rI .i64) v6)), (40, ov (S rB false))], [], []⟩ [] rfl (.cons rfl (.cons rfl .nil)) rfl <| jk rfl rfl <| jk rfl rfl <| jk rfl rfl <| jc (Za6 lb tR rfl .cB) <| jmv rfl rfl <| jk rfl rfl <| jk rfl rfl <| jk rfl rfl <| jc (Za6 lb tR rfl .cB) <| jmv rfl rfl <| jk rfl rfl <| jk rfl rfl <| jc (Za6 lb tR rfl .cB) <| jc (Zac lb tR) <| JL.nil ?_
   try obtain rfl := so hx1
   exact jo rfl rfl rfl
 refine jk rfl hc3 <| jk rfl hc3 <| jk rfl hc3 <| jc (Za6 lb tR hc3 .cB) <| jmv rfl rfl <| jk rfl rfl <| jk rfl rfl <| jk rfl rfl <| jk rfl rfl <| jc (Za6 lb tR rfl .cB) <| jmv rfl rfl <| jk rfl rfl <| jk rfl rfl <| jk rfl rfl <| jk rfl rfl <| jc (Za6 lb tR rfl .cB) <| jmv rfl rfl <| jk rfl rfl <| jk rfl rfl <| jk rfl rfl <| jk rfl rfl <| jc (Za6 lb tR rfl .cB) <| jmv rfl rfl <| jk rfl rfl <| jk rfl rfl <| jk rfl rfl <| jc (Za6 lb tR rfl .cB) <| jmv rfl rfl <| jk rfl rfl <| jk rfl rfl <| jk rfl rfl <| jc (Za6 lb tR rfl .cB) <| JL.nrm ⟨[(49, ov (S rB false))], [], []⟩ [] rfl (.cons rfl .nil) rfl <| jmv rfl rfl <| jk rfl rfl <| jk rfl rfl <| jc (Za6 lb tR rfl .cB) <| jc (Zac lb tR) ?_
 refine JL.nil ?_
 try obtain rfl := so hx1
 exact jo rfl rfl rfl

theorem Zie (k : Nat) (l1 : (List Zal)) (r : Bool) (hm : ref11_Long k l1 = some r) : Sim Tryz.prog 19 [S (rL Zaj) l1] [] (γ := Unit) (fun q => []) (fun q => .one (.val (S rB r))) := by
 unfold ref11_Long at hm
 refine Sim.of Tryz.func19 rfl rfl (lE rfl) (fun e0 w0 => ?_)
 refine JC.at ⟨[(0, ov (S (rL Zaj) l1))], [], []⟩ <| jr <| jc (Zac lb .cB) <| jn <| jr <| jc (Zac lb .cI) <| jn <| bI hm fun tv1 hx1 hq1 => JC.seqK (α := Unit) (γ := Unit) (stj := fun v q => ⟨[(0, ov (S (rL Zaj) l1))], [], []⟩) (p := fun v => tv1 = (.inl v)) (fun v q hv => ?_) ?_
 · subst hv
   skip
   obtain _ := q
   dsimp only at hq1
   refine JC.at ⟨[(0, ov (S (rL Zaj) l1))], [], []⟩ <| jr <| jmv rfl rfl <| jc (ZaI lb tu23 tR) <| lI hq1 fun v16 hv16 hq1 => jc (Zar lb tR .cI (cs hv16)) <| jc (Zac lb tR) <| jn <| JC.ret ?_
   obtain rfl := so hq1
   exact jd (.val (S rB v16)) rfl rfl rfl rfl rfl rfl
 refine jr <| jc (Zac lb .cI) <| jn <| JC.block <| bI hx1 fun tv2 hL2 hq2 => JC.pre ?_ (JC.loop (γ := Unit) (stf := fun s q => ⟨[(0, ov (S (rL Zaj) l1)), (3, ov (S (rI .i64) s.1)), (4, ov (S (rI .i64) s.2))], [], []⟩) (q := ()) hL2 ?_)
 · exact (Imp.norm (js := []) rfl (.cons rfl (.cons rfl (.cons rfl .nil))))
 intro s q x hx hr
 obtain ⟨n2, i3⟩ := s
 obtain _ := q
 change ref11_Long.b1 k l1 n2 i3 = some x at hx
 unfold ref11_Long.b1 at hx
 refine JC.at ⟨[(0, ov (S (rL Zaj) l1)), (3, ov (S (rI .i64) n2)), (4, ov (S (rI .i64) i3))], [], []⟩ <| JC.seq <| bI hx fun x7 hx3 hq3 => JC.seqJ (γ := Unit) (stj := fun _ => ⟨[(0, ov (S (rL Zaj) l1)), (3, ov (S (rI .i64) n2)), (4, ov (S (rI .i64) i3)), (12, ov (S rB x7))], [], []⟩) (fun _ => ?_) ?_
 · refine jif tR hq3 (fun hc7 hq3 => ?_) (fun hc7 hq3 => ?_)
   · refine JC.skip <| JQ.then <| JC.seq <| JC.block <| JC.seq <| bI hq3 fun v8 hv8 hq3 => lI hq3 fun v9 hv9 hq3 => lI hq3 fun v10 hv10 hq3 => bI hq3 fun v11 hv11 hq3 => lI hq3 fun v12 hv12 hq3 => ?_
     obtain ⟨v13, hv13, hq3⟩ := ZaT hq3
     refine JC.anyE (kl := [3]) (kk := 19) (base := [(0, ov (S (rL Zaj) l1)), (3, ov (S (rI .i64) n2)), (4, ov (S (rI .i64) i3))])
         (fs := fun γ => [⟨some 15, ov (S (rI .i64) n2)⟩, ⟨some 16, ov (S (rL Zaj) l1)⟩, ⟨some 17, ov (S (rI .i64) i3)⟩, ⟨some 18, ov (PT Zaj v8)⟩, ⟨some 19, ov (PT ZcJ v8.Key)⟩, ⟨some 20, ov (PT rS v8.Key.Topic)⟩, ⟨some 21, ov (S rS v8.Key.Topic)⟩, ⟨some 22, ov (S (rI .i64) (List.length v8.Key.Topic : Int))⟩, ⟨some 23, ov (S (rI .i64) v9)⟩, ⟨some 24, ov (S (rI .i64) v10)⟩, ⟨some 25, ov (S (rL Zaj) l1)⟩, ⟨some 26, ov (S (rI .i64) i3)⟩, ⟨some 27, ov (PT Zaj v11)⟩, ⟨some 28, ov (PT ZcJ v11.Key)⟩, ⟨some 29, ov (PT rS v11.Key.Device)⟩, ⟨some 30, ov (S rS v11.Key.Device)⟩, ⟨some 31, ov (S (rI .i64) (List.length v11.Key.Device : Int))⟩, ⟨some 32, ov (S (rI .i64) v12)⟩, ⟨some 33, ov (S (rI .i64) v13)⟩, ⟨some 3, ov (S (rI .i64) v13)⟩])
         (rs := fun γ => [])
         (ds := [15, 16, 17, 18, 19, 20, 21, 22, 23, 24, 25, 26, 27, 28, 29, 30, 31, 32, 33, 3]) (bs := [0, 3, 4]) (afts := nn 20) (js := []) Zcj (.cons rfl (.cons rfl (.cons rfl .nil))) (fun _ => rfl)
         (by
      refine db 1 3 <| db 2 0 <| db 3 4 <| dS 4 (fun γ ρ B hb hd => Zau lb tu23 tz62 (tl hd 1 16) (tl hd 2 17) hv8) <| dS 5 (fun γ ρ B hb hd => Zcm lb ZgH (tl hd 3 18) (ZbR v8)) ?_
      refine dS 6 (fun γ ρ B hb hd => Zcm lb ZlY (tl hd 4 19) (Zdz v8.Key)) <| dS 7 (fun γ ρ B hb hd => Zbr lb tS9 rfl (tl hd 5 20) rfl) <| dS 8 (fun γ ρ B hb hd => Zhm lb tu9 (tl hd 6 21)) <| dS 9 (fun γ ρ B hb hd => ZiK lb (tl hd 7 22) .cI hv9) <| dS 10 (fun γ ρ B hb hd => ZaX lb (tl hd 0 15) (tl hd 8 23) (cs hv10)) ?_
      refine db 11 0 <| db 12 4 <| dS 13 (fun γ ρ B hb hd => Zau lb tu23 tz62 (tl hd 10 25) (tl hd 11 26) hv11) <| dS 14 (fun γ ρ B hb hd => Zcm lb ZgH (tl hd 12 27) (ZbR v11)) <| dS 15 (fun γ ρ B hb hd => Zcm lb ZlR (tl hd 13 28) (Zdq v11.Key)) ?_
      refine dS 16 (fun γ ρ B hb hd => Zbr lb tS9 rfl (tl hd 14 29) rfl) <| dS 17 (fun γ ρ B hb hd => Zhm lb tu9 (tl hd 15 30)) <| dS 18 (fun γ ρ B hb hd => ZiK lb (tl hd 16 31) .cI hv12) <| dS 19 (fun γ ρ B hb hd => ZaX lb (tl hd 9 24) (tl hd 17 32) (cs hv13)) <| dS 20 (fun γ ρ B hb hd => Zac lb (tl hd 18 33)) ?_
      exact ZaF.nil)
         (by decide +kernel) (fun _ => rfl) rfl (fun _ => rfl) (fun _ => rfl) rfl (by decide) (by decide) (by decide +kernel) (fun _ d h => by simp at h; subst h; exact ⟨_, rfl, rfl⟩)
         (ρ' := fun γ => [(0, ov (S (rL Zaj) l1)), (3, ov (S (rI .i64) v13)), (4, ov (S (rI .i64) i3))])
         (X' := fun γ => [])
         (fun γ ρ hb hd => (.cons (hb 0 _ rfl (by decide)) (.cons (hdq hd 19 3 rfl) (.cons (hb 4 _ rfl (by decide)) .nil)))) (fun _ => rfl) (fun γ => ?_)
     refine JQ.at ⟨[(0, ov (S (rL Zaj) l1)), (3, ov (S (rI .i64) v13)), (4, ov (S (rI .i64) i3))], [], []⟩ <| JQ.then <| jr <| jmv rfl rfl <| lI hq3 fun v14 hv14 hq3 => jc (Zar lb tR .cI (cs hv14)) <| jn <| jif tR hq3 (fun hc8 hq3 => ?_) (fun hc8 hq3 => ?_)
     · refine jr <| jc (Zac lb .cB) <| jn <| JC.ret <| JQ.outRB <| JQ.outR ?_
       try obtain rfl := so hq3
       try obtain rfl := hr _ rfl
       dsimp only at hq2
       refine JQ.outR <| JQ.outRB ?_
       try obtain rfl := so hq2
       dsimp only at hq1
       refine JQ.outR ?_
       obtain rfl := so hq1
       exact jd (.val (S rB true)) rfl rfl rfl rfl rfl rfl
     refine JC.skip <| JQ.outNB <| JQ.then <| JC.region <| jmv rfl rfl <| lI hq3 fun v15 hv15 hq3 => jc (ZaX lb tR .cI (cs hv15)) <| jc (Zac lb tR) <| JL.nil ?_
     try obtain rfl := so hq3
     exact JQ.next () rfl (Imp.norm (js := []) rfl (.cons rfl (.cons rfl (.cons rfl .nil))))
   refine JC.exit <| JQ.outX ?_
   try obtain rfl := so hq3
   try obtain rfl := hr _ rfl
   dsimp only at hq2
   refine JQ.outX <| JQ.here ?_
   try obtain rfl := so hq2
   exact JQ.joinK () () rfl (Imp.norm (js := []) rfl (.cons rfl .nil))
 refine JC.region <| jmv rfl rfl <| jmv rfl rfl <| jc (ZaI lb tu23 tR) <| lI hx3 fun v4 hv4 hx3 => jc (Zar lb tR tR (cs hv4)) <| jmv rfl rfl <| jT (ov (S (rI .i64) i3)) rfl rfl rfl rfl (fun hq4 => ZaC lb tR) <| lI hx3 fun v5 hv5 hx3 => jT (ov (S rB v5)) rfl rfl rfl rfl (fun hq5 => Zar lb (HasO.cnd tR hq5) .cI (cs hv5)) <| lI hx3 fun v6 hv6 hx3 => jc (Zas lb tR (fun hb6 => (HasO.cnd tR hb6)) (fun hb6 => .cB) hv6) <| JL.nil ?_
 try obtain rfl := so hx3
 exact JQ.join () (Imp.norm (js := []) rfl (.cons rfl (.cons rfl (.cons rfl (.cons rfl .nil)))))

theorem Zid (k : Nat) (e1 : Zaq) (r : Bool) (hm : ref09_Much k e1 = some r) : Sim Tryz.prog 26 [A Zan e1] [] (γ := Unit) (fun q => []) (fun q => .one (.val (S rB r))) := by
 unfold ref09_Much at hm
 refine Sim.of Tryz.func26 rfl rfl (lE rfl) (fun e0 w0 => ?_)
 refine JC.at ⟨[(0, ov (A Zan e1))], [], []⟩ <| jr <| jx (ZaZ lb tR) fun gb2 => jc (Zac lb .cB) <| jn <| JC.seq <| bI hm fun x8 hx1 hq1 => JC.seqJ (γ := Unit) (stj := fun _ => ⟨[(1, ov (PTR gb2 0)), (20, ov (S rB x8))], [cvar gb2 Zan e1], []⟩) (fun _ => ?_) ?_
 · refine jif tR hq1 (fun hc12 hq1 => ?_) (fun hc12 hq1 => ?_)
   · refine jr <| jc (Zac lb .cB) <| jn <| JC.ret <| JQ.outR ?_
     obtain rfl := so hq1
     exact jd (.val (S rB true)) rfl rfl rfl rfl rfl rfl
   refine JC.skip <| JQ.then <| jr <| jc (Zac lb .cI) <| jn <| bI hq1 fun tv13 hx13 hq13 => JC.seqK (α := Unit) (γ := Unit) (stj := fun v q => ⟨[], [], []⟩) (p := fun v => tv13 = (.inl v)) (fun v q hv => ?_) ?_
   · subst hv
     skip
     obtain _ := q
     dsimp only at hq13
     refine JC.at ⟨[], [], []⟩ <| jr <| jc (Zac lb .cB) <| jn <| JC.ret ?_
     obtain rfl := so hq13
     exact jd (.val (S rB false)) rfl rfl rfl rfl rfl rfl
   refine jr <| jc (Zac lb .cI) <| jn <| JC.block <| bI hx13 fun tv14 hL14 hq14 => JC.pre ?_ (JC.loop (γ := Unit) (stf := fun s q => ⟨[(1, ov (PTR gb2 0)), (3, ov (S (rI .i64) s.1)), (4, ov (S (rI .i64) s.2))], [cvar gb2 Zan e1], []⟩) (q := ()) hL14 ?_)
   · exact (Imp.norm (js := [0]) rfl (.cons rfl (.cons rfl (.cons rfl .nil))))
   intro s q x hx hr
   obtain ⟨n9, i10⟩ := s
   obtain _ := q
   change ref09_Much.b1 k e1 n9 i10 = some x at hx
   unfold ref09_Much.b1 at hx
   refine JC.at ⟨[(1, ov (PTR gb2 0)), (3, ov (S (rI .i64) n9)), (4, ov (S (rI .i64) i10))], [cvar gb2 Zan e1], []⟩ <| JC.seq <| jr <| jmv rfl rfl <| jc (Zaa (off := 20) lb ZdW tR) <| jc (Zam (j := 0) lb tS30 tR rfl (cT (ZaR e1) rfl) rfl rfl) <| jc (ZaI lb tu30 tR) <| lI hx fun v11 hv11 hx => jc (Zar lb tR tR (cs hv11)) <| jn <| jif tR hx (fun hc15 hx => ?_) (fun hc15 hx => ?_)
   · refine JC.skip <| JQ.then <| JC.seq <| JC.block <| jr <| jmv rfl rfl <| jc (Zaa (off := 20) lb ZdW tR) <| jc (Zam (j := 0) lb tS30 tR rfl (cT (ZaR e1) rfl) rfl rfl) <| jmv rfl rfl <| bI hx fun v12 hv12 hx => jc (Zau lb tu30 ZiU tR tR hv12) <| jc (Zcm lb ZjR tR (Zdk v12)) <| jc (Zbr lb tS9 rfl tR rfl) <| JL.sub ⟨[(1, ov (PTR gb2 0)), (3, ov (S (rI .i64) n9)), (4, ov (S (rI .i64) i10)), (28, ov (S (rI .i64) n9)), (34, ov (S rS v12.Device))], [cvar gb2 Zan e1], []⟩ (.cons rfl (.cons rfl (.cons rfl (.cons rfl (.cons rfl .nil))))) rfl rfl <| jc (Zhm lb tu9 tR) <| lI hx fun v13 hv13 hx => jc (ZiK lb tR .cI hv13) ?_
     refine lI hx fun v14 hv14 hx => jc (ZaX lb tR tR (cs hv14)) <| jc (Zac lb tR) <| jn <| jr <| jmv rfl rfl <| lI hx fun v15 hv15 hx => jc (Zar lb tR .cI (cs hv15)) <| jn <| jif tR hx (fun hc16 hx => ?_) (fun hc16 hx => ?_)
     · refine jr <| jc (Zac lb .cB) <| jn <| JC.ret <| JQ.outRB <| JQ.outR ?_
       try obtain rfl := so hx
       try obtain rfl := hr _ rfl
       dsimp only at hq14
       refine JQ.outR <| JQ.outRB ?_
       try obtain rfl := so hq14
       dsimp only at hq13
       refine JQ.outR ?_
       obtain rfl := so hq13
       exact jd (.val (S rB true)) rfl rfl rfl rfl rfl rfl
     refine JC.skip <| JQ.outNB <| JQ.then <| JC.region <| jmv rfl rfl <| lI hx fun v16 hv16 hx => jc (ZaX lb tR .cI (cs hv16)) <| jc (Zac lb tR) <| JL.nil ?_
     try obtain rfl := so hx
     exact JQ.next () rfl (Imp.norm (js := [0]) rfl (.cons rfl (.cons rfl (.cons rfl .nil))))
   refine JC.exit <| JQ.outX ?_
   try obtain rfl := so hx
   try obtain rfl := hr _ rfl
   dsimp only at hq14
   refine JQ.outX <| JQ.here ?_
   try obtain rfl := so hq14
   exact JQ.joinK () () rfl (Imp.norm (js := []) rfl .nil)
 refine JC.region <| jc (Zaa (off := 2) lb ZhV tR) <| jc (Zam (j := 0) lb tS9 tR rfl (cT (Zby e1) rfl) rfl rfl) <| jc (Zhm lb tu9 tR) <| lI hx1 fun v3 hv3 hx1 => jc (Zar lb tR .cI (cs hv3)) <| jmv rfl rfl <| jF (ov (PTR gb2 (0 + 3))) rfl rfl rfl rfl (fun hq_2 => Zaa (off := 3) lb ZhJ tR) <| jF (ov (S (rL (rU UInt8)) e1.Payload)) rfl rfl rfl rfl (fun hq_3 => Zam (j := 0) lb tS27 (HasO.cnd tR (notT (notF hq_3))) rfl (cT (Zbh e1) rfl) rfl rfl) <| jF (ov (S (rI .i64) (List.length e1.Payload : Int))) rfl rfl rfl rfl (fun hq4 => ZaI lb tu27 (HasO.cnd tR (notT (notF hq4)))) <| JL.sub ⟨[(1, ov (PTR gb2 0)), (9, ov (S rB v3)), (12, bif (!v3) then ov (S (rI .i64) (List.length e1.Payload : Int)) else .one .und)], [cvar gb2 Zan e1], []⟩ (.cons rfl (.cons rfl (.cons rfl .nil))) rfl rfl <| lI hx1 fun v4 hv4 hx1 => jF (ov (S rB v4)) rfl rfl rfl rfl (fun hq5 => Zar lb (HasO.cnd tR (notT (notF hq5))) .cI (cs hv4)) ?_
 refine lI hx1 fun v5 hv5 hx1 => jc (Zas lb tR (fun hb6 => .cB) (fun hb6 => (HasO.cnd tR (notT hb6))) hv5) <| jmv rfl rfl <| jF (ov (PTR gb2 (0 + 20))) rfl rfl rfl rfl (fun hq7 => Zaa (off := 20) lb ZdW tR) <| jF (ov (S (rL Zat) e1.To)) rfl rfl rfl rfl (fun hq8 => Zam (j := 0) lb tS30 (HasO.cnd tR (notT (notF hq8))) rfl (cT (ZaR e1) rfl) rfl rfl) <| jF (ov (S (rI .i64) (List.length e1.To : Int))) rfl rfl rfl rfl (fun hq9 => ZaI lb tu30 (HasO.cnd tR (notT (notF hq9)))) <| lI hx1 fun v6 hv6 hx1 => jF (ov (S rB v6)) rfl rfl rfl rfl (fun hq_10 => Zar lb (HasO.cnd tR (notT (notF hq_10))) .cI (cs hv6)) <| lI hx1 fun v7 hv7 hx1 => jc (Zas lb tR (fun hb11 => .cB) (fun hb11 => (HasO.cnd tR (notT hb11))) hv7) <| JL.nil ?_
 try obtain rfl := so hx1
 exact JQ.join () (Imp.norm (js := [0]) rfl (.cons rfl (.cons rfl .nil)))

theorem Zic (k : Nat) (f1 : Zai) (r : Bool) (hm : ZeY k f1 = some r) : Sim Tryz.prog 8 [A Zad f1] [] (γ := Unit) (fun q => []) (fun q => .one (.val (S rB r))) := by
 unfold ZeY at hm
 refine Sim.of Tryz.func8 rfl rfl (lE rfl) (fun e0 w0 => ?_)
 refine JC.at ⟨[(0, ov (A Zad f1))], [], []⟩ <| jr <| jx (ZaZ lb tR) fun gb2 => jc (Zac lb .cB) <| jn <| bI hm fun x14 hx1 hq1 => JC.seqJ (γ := Unit) (stj := fun _ => ⟨[(2, ov (S rB x14))], [], []⟩) (fun _ => ?_) ?_
 · refine JC.ret ?_
   obtain rfl := so hq1
   exact jd (.val (S rB x14)) rfl rfl rfl rfl rfl rfl
 refine JC.region <| jc (Zaa (off := 3) lb ZdJ tR) <| jc (Zam (j := 0) lb tS23 tR rfl (cT (ZaO f1) rfl) rfl rfl) <| bI hx1 fun v3 hv3 hx1 => jx (Zak (js := []) ld cl19 (Zie k f1.Items v3 hv3) .func (.cons tR .nil) rfl) fun _ => jmv rfl rfl <| jF (ov (PTR gb2 (0 + 4))) rfl rfl rfl rfl (fun hq_2 => Zaa (off := 4) lb Zgi tR) <| jF (ov (A Zan f1.Event)) rfl rfl rfl rfl (fun hq_3 => ZaB (j := 0) lb tA32 (HasO.cnd tR (notT (notF hq_3))) rfl (cT (Zbf f1) rfl) rfl) <| bI hx1 fun v4 hv4 hx1 => jF (ov (S rB v4)) rfl rfl rfl rfl (fun hq4 => (Zak (js := []) ld cl26 (Zid k f1.Event v4 (ifT hv4 hq4)) .func (.cons (HasO.cnd tR (notT (notF hq4))) .nil) rfl).post (fun _ => Imp.refl)) ?_
 obtain ⟨v5, hv5, hx1⟩ := ZaT hx1
 refine jc (Zas lb tR (fun hb5 => .cB) (fun hb5 => (HasO.cnd tR (notT hb5))) hv5) <| JL.sub ⟨[(1, ov (PTR gb2 0)), (2, ov (S rB false)), (10, ov (S rB v5))], [cvar gb2 Zad f1], []⟩ (.cons rfl (.cons rfl (.cons rfl .nil))) rfl rfl <| jmv rfl rfl <| jF (ov (PTR gb2 (0 + 57))) rfl rfl rfl rfl (fun hq6 => Zaa (off := 57) lb Ze1 tR) <| jF (ov (S (rL Zae) f1.Extra)) rfl rfl rfl rfl (fun hq7 => Zam (j := 0) lb tS33 (HasO.cnd tR (notT (notF hq7))) rfl (cT (Za7 f1) rfl) rfl rfl) <| jF (ov (S (rI .i64) (List.length f1.Extra : Int))) rfl rfl rfl rfl (fun hq8 => ZaI lb tu33 (HasO.cnd tR (notT (notF hq8)))) <| lI hx1 fun v6 hv6 hx1 => jF (ov (S rB v6)) rfl rfl rfl rfl (fun hq9 => Zar lb (HasO.cnd tR (notT (notF hq9))) .cI (cs hv6)) ?_
 obtain ⟨v7, hv7, hx1⟩ := ZaT hx1
 refine jc (Zas lb tR (fun hb10 => .cB) (fun hb10 => (HasO.cnd tR (notT hb10))) hv7) <| jmv rfl rfl <| jF (ov (PTR gb2 (0 + 58))) rfl rfl rfl rfl (fun hq11 => Zaa (off := 58) lb Zfr tR) <| jF (ov (S (rL Zae) f1.Live)) rfl rfl rfl rfl (fun hq12 => Zam (j := 0) lb tS33 (HasO.cnd tR (notT (notF hq12))) rfl (cT (Za5 f1) rfl) rfl rfl) <| jF (ov (S (rI .i64) (List.length f1.Live : Int))) rfl rfl rfl rfl (fun hq_13 => ZaI lb tu33 (HasO.cnd tR (notT (notF hq_13)))) <| lI hx1 fun v8 hv8 hx1 => jF (ov (S rB v8)) rfl rfl rfl rfl (fun hq_14 => Zar lb (HasO.cnd tR (notT (notF hq_14))) .cI (cs hv8)) <| lI hx1 fun v9 hv9 hx1 => jc (Zas lb tR (fun hb15 => .cB) (fun hb15 => (HasO.cnd tR (notT hb15))) hv9) <| JL.sub ⟨[(1, ov (PTR gb2 0)), (2, ov (S rB false)), (22, ov (S rB v9))], [cvar gb2 Zad f1], []⟩ (.cons rfl (.cons rfl (.cons rfl .nil))) rfl rfl ?_
 refine jmv rfl rfl <| jF (ov (PTR gb2 (0 + 91))) rfl rfl rfl rfl (fun hq16 => Zaa (off := 91) lb ZdM tR) <| jF (ov (S (rL (rV 32 (rU UInt8))) f1.Leaves)) rfl rfl rfl rfl (fun hq17 => Zam (j := 0) lb tS36 (HasO.cnd tR (notT (notF hq17))) rfl (cT (ZaU f1) rfl) rfl rfl) <| jF (ov (S (rI .i64) (List.length f1.Leaves : Int))) rfl rfl rfl rfl (fun hq18 => ZaI lb tu36 (HasO.cnd tR (notT (notF hq18)))) <| lI hx1 fun v10 hv10 hx1 => jF (ov (S rB v10)) rfl rfl rfl rfl (fun hq19 => Zar lb (HasO.cnd tR (notT (notF hq19))) .cI (cs hv10)) <| lI hx1 fun v11 hv11 hx1 => jc (Zas lb tR (fun hb20 => .cB) (fun hb20 => (HasO.cnd tR (notT hb20))) hv11) <| jmv rfl rfl <| jF (ov (PTR gb2 (0 + 92))) rfl rfl rfl rfl (fun hq21 => Zaa (off := 92) lb Zdj tR) ?_
 refine jF (ov (S (rL (rI .i64)) f1.Buckets)) rfl rfl rfl rfl (fun hq22 => Zam (j := 0) lb tS37 (HasO.cnd tR (notT (notF hq22))) rfl (cT (ZaL f1) rfl) rfl rfl) <| jF (ov (S (rI .i64) (List.length f1.Buckets : Int))) rfl rfl rfl rfl (fun hq23 => ZaI lb tu37 (HasO.cnd tR (notT (notF hq23)))) <| lI hx1 fun v12 hv12 hx1 => jF (ov (S rB v12)) rfl rfl rfl rfl (fun hq24 => Zar lb (HasO.cnd tR (notT (notF hq24))) .cI (cs hv12)) <| lI hx1 fun v13 hv13 hx1 => jc (Zas lb tR (fun hb25 => .cB) (fun hb25 => (HasO.cnd tR (notT hb25))) hv13) <| JL.nrm ⟨[(2, ov (S rB false)), (34, ov (S rB v13))], [], []⟩ [] rfl (.cons rfl (.cons rfl .nil)) rfl <| jc (Zac lb tR) <| JL.nil ?_
 try obtain rfl := so hx1
 exact jo rfl rfl rfl

theorem Zgr (k : Nat) (a1 : (List Zal)) (b2 : (List Zal)) (r : Bool) (hm : ref11_sameItems k a1 b2 = some r) : Sim Tryz.prog 63 [S (rL Zaj) a1, S (rL Zaj) b2] [] (γ := Unit) (fun q => []) (fun q => .one (.val (S rB r))) := by
 unfold ref11_sameItems at hm
 refine Sim.of Tryz.func63 rfl rfl (lE rfl) (fun e0 w0 => ?_)
 refine JC.at ⟨[(0, ov (S (rL Zaj) a1)), (1, ov (S (rL Zaj) b2))], [], []⟩ <| jr <| jc (Zac lb .cB) <| jn <| JC.seq <| jr <| jmv rfl rfl <| jc (ZaI lb tu23 tR) <| jmv rfl rfl <| jc (ZaI lb tu23 tR) <| lI hm fun v3 hv3 hm => jc (Zar lb tR tR (cs hv3)) <| jn <| jif tR hm (fun hc1 hm => ?_) (fun hc1 hm => ?_)
 · refine jr <| jc (Zac lb .cB) <| jn <| JC.ret <| JQ.outR ?_
   obtain rfl := so hm
   exact jd (.val (S rB false)) rfl rfl rfl rfl rfl rfl
 refine JC.skip <| JQ.then <| bI hm fun tv2 hx2 hq2 => JC.seqK (α := Unit) (γ := Unit) (stj := fun v q => ⟨[], [], []⟩) (p := fun v => tv2 = (.inl v)) (fun v q hv => ?_) ?_
 · subst hv
   skip
   obtain _ := q
   dsimp only at hq2
   refine JC.at ⟨[], [], []⟩ <| jr <| jc (Zac lb .cB) <| jn <| JC.ret ?_
   obtain rfl := so hq2
   exact jd (.val (S rB true)) rfl rfl rfl rfl rfl rfl
 refine jr <| jc (Zac lb .cI) <| jn <| JC.block <| bI hx2 fun tv3 hL3 hq3 => JC.pre ?_ (JC.loop (γ := Unit) (stf := fun s q => ⟨[(0, ov (S (rL Zaj) a1)), (1, ov (S (rL Zaj) b2)), (5, ov (S (rI .i64) s))], [], []⟩) (q := ()) hL3 ?_)
 · exact (Imp.norm (js := []) rfl (.cons rfl (.cons rfl (.cons rfl .nil))))
 intro i4 q x hx hr
 obtain _ := q
 change ref11_sameItems.b1 k a1 b2 i4 = some x at hx
 unfold ref11_sameItems.b1 at hx
 refine JC.at ⟨[(0, ov (S (rL Zaj) a1)), (1, ov (S (rL Zaj) b2)), (5, ov (S (rI .i64) i4))], [], []⟩ <| JC.seq <| jr <| jmv rfl rfl <| jmv rfl rfl <| jc (ZaI lb tu23 tR) <| lI hx fun v5 hv5 hx => jc (Zar lb tR tR (cs hv5)) <| jn <| jif tR hx (fun hc4 hx => ?_) (fun hc4 hx => ?_)
 · refine JC.skip <| JQ.then <| JC.seq <| JC.block <| JC.seq <| bI hx fun v6 hv6 hx => bI hx fun v7 hv7 hx => ?_
   obtain ⟨v8, hv8, hx⟩ := ZaT hx
   refine JC.anyF (base := [(0, ov (S (rL Zaj) a1)), (1, ov (S (rL Zaj) b2)), (5, ov (S (rI .i64) i4))])
       (fs := fun γ => [⟨some 17, ov (S (rL Zaj) a1)⟩, ⟨some 18, ov (S (rI .i64) i4)⟩, ⟨some 19, ov (PT Zaj v6)⟩, ⟨some 20, ov (A Zaj v6)⟩, ⟨some 21, ov (S (rL Zaj) b2)⟩, ⟨some 22, ov (S (rI .i64) i4)⟩, ⟨some 23, ov (PT Zaj v7)⟩, ⟨some 24, ov (A Zaj v7)⟩, ⟨some 25, ov (S rB v8)⟩])
       (rs := fun γ => [])
       (afts := nn 9) (js := []) Zcj (.cons rfl (.cons rfl (.cons rfl .nil))) (fun _ => rfl)
       (by
      refine db 1 0 <| db 2 5 <| dS 3 (fun γ ρ B hb hd => Zau lb tu23 tz62 (tl hd 0 17) (tl hd 1 18) hv6) <| dS 4 (fun γ ρ B hb hd => ZaS lb tA62 (tl hd 2 19) rfl) <| db 5 1 ?_
      refine db 6 5 <| dS 7 (fun γ ρ B hb hd => Zau lb tu23 tz62 (tl hd 4 21) (tl hd 5 22) hv7) <| dS 8 (fun γ ρ B hb hd => ZaS lb tA62 (tl hd 6 23) rfl) <| dS 9 (fun γ ρ B hb hd => Zgj lb qa62 (by decide) ng62 (tl hd 3 20) (tl hd 7 24) hv8) ?_
      exact ZaF.nil)
       (by decide +kernel) (fun _ => rfl) (fun _ => rfl) (fun _ => rfl) rfl
       (ρ' := fun γ => [(0, ov (S (rL Zaj) a1)), (1, ov (S (rL Zaj) b2)), (5, ov (S (rI .i64) i4)), (25, ov (S rB v8))])
       (X' := fun γ => [])
       (fun γ ρ hb hd => (.cons (hb 0 _ rfl) (.cons (hb 1 _ rfl) (.cons (hb 5 _ rfl) (.cons (hdq hd 8 25 rfl) .nil))))) (fun _ => rfl) (fun γ => ?_)
   refine JQ.at ⟨[(0, ov (S (rL Zaj) a1)), (1, ov (S (rL Zaj) b2)), (5, ov (S (rI .i64) i4)), (25, ov (S rB v8))], [], []⟩ <| JQ.then <| jif tR hx (fun hc5 hx => ?_) (fun hc5 hx => ?_)
   · refine jr <| jc (Zac lb .cB) <| jn <| JC.ret <| JQ.outRB <| JQ.outR ?_
     try obtain rfl := so hx
     try obtain rfl := hr _ rfl
     dsimp only at hq3
     refine JQ.outR <| JQ.outRB ?_
     try obtain rfl := so hq3
     dsimp only at hq2
     refine JQ.outR ?_
     obtain rfl := so hq2
     exact jd (.val (S rB false)) rfl rfl rfl rfl rfl rfl
   refine JC.skip <| JQ.outNB <| JQ.then <| JC.region <| jmv rfl rfl <| lI hx fun v9 hv9 hx => jc (ZaX lb tR .cI (cs hv9)) <| jc (Zac lb tR) <| JL.nil ?_
   try obtain rfl := so hx
   exact JQ.next () rfl (Imp.norm (js := []) rfl (.cons rfl (.cons rfl (.cons rfl .nil))))
 refine JC.exit <| JQ.outX ?_
 try obtain rfl := so hx
 try obtain rfl := hr _ rfl
 dsimp only at hq3
 refine JQ.outX <| JQ.here ?_
 try obtain rfl := so hq3
 exact JQ.joinK () () rfl (Imp.norm (js := []) rfl .nil)

theorem ZeF (k : Nat) (a1 : (List Zah)) (b2 : (List Zah)) (r : Bool) (hm : ref11_sameDots k a1 b2 = some r) : Sim Tryz.prog 64 [S (rL Zae) a1, S (rL Zae) b2] [] (γ := Unit) (fun q => []) (fun q => .one (.val (S rB r))) := by
 unfold ref11_sameDots at hm
 refine Sim.of Tryz.func64 rfl rfl (lE rfl) (fun e0 w0 => ?_)
 refine JC.at ⟨[(0, ov (S (rL Zae) a1)), (1, ov (S (rL Zae) b2))], [], []⟩ <| jr <| jc (Zac lb .cB) <| jn <| JC.seq <| jr <| jmv rfl rfl <| jc (ZaI lb tu33 tR) <| jmv rfl rfl <| jc (ZaI lb tu33 tR) <| lI hm fun v3 hv3 hm => jc (Zar lb tR tR (cs hv3)) <| jn <| jif tR hm (fun hc1 hm => ?_) (fun hc1 hm => ?_)
 · refine jr <| jc (Zac lb .cB) <| jn <| JC.ret <| JQ.outR ?_
   obtain rfl := so hm
   exact jd (.val (S rB false)) rfl rfl rfl rfl rfl rfl
 refine JC.skip <| JQ.then <| bI hm fun tv2 hx2 hq2 => JC.seqK (α := Unit) (γ := Unit) (stj := fun v q => ⟨[], [], []⟩) (p := fun v => tv2 = (.inl v)) (fun v q hv => ?_) ?_
 · subst hv
   skip
   obtain _ := q
   dsimp only at hq2
   refine JC.at ⟨[], [], []⟩ <| jr <| jc (Zac lb .cB) <| jn <| JC.ret ?_
   obtain rfl := so hq2
   exact jd (.val (S rB true)) rfl rfl rfl rfl rfl rfl
 refine jr <| jc (Zac lb .cI) <| jn <| JC.block <| bI hx2 fun tv3 hL3 hq3 => JC.pre ?_ (JC.loop (γ := Unit) (stf := fun s q => ⟨[(0, ov (S (rL Zae) a1)), (1, ov (S (rL Zae) b2)), (5, ov (S (rI .i64) s))], [], []⟩) (q := ()) hL3 ?_)
 · exact (Imp.norm (js := []) rfl (.cons rfl (.cons rfl (.cons rfl .nil))))
 intro i4 q x hx hr
 obtain _ := q
 change ref11_sameDots.b1 k a1 b2 i4 = some x at hx
 unfold ref11_sameDots.b1 at hx
 refine JC.at ⟨[(0, ov (S (rL Zae) a1)), (1, ov (S (rL Zae) b2)), (5, ov (S (rI .i64) i4))], [], []⟩ <| JC.seq <| jr <| jmv rfl rfl <| jmv rfl rfl <| jc (ZaI lb tu33 tR) <| lI hx fun v5 hv5 hx => jc (Zar lb tR tR (cs hv5)) <| jn <| jif tR hx (fun hc4 hx => ?_) (fun hc4 hx => ?_)
 · refine JC.skip <| JQ.then <| JC.seq <| JC.block <| JC.seq <| bI hx fun v6 hv6 hx => bI hx fun v7 hv7 hx => ?_
   obtain ⟨v8, hv8, hx⟩ := ZaT hx
   refine JC.anyF (base := [(0, ov (S (rL Zae) a1)), (1, ov (S (rL Zae) b2)), (5, ov (S (rI .i64) i4))])
       (fs := fun γ => [⟨some 17, ov (S (rL Zae) a1)⟩, ⟨some 18, ov (S (rI .i64) i4)⟩, ⟨some 19, ov (PT Zae v6)⟩, ⟨some 20, ov (A Zae v6)⟩, ⟨some 21, ov (S (rL Zae) b2)⟩, ⟨some 22, ov (S (rI .i64) i4)⟩, ⟨some 23, ov (PT Zae v7)⟩, ⟨some 24, ov (A Zae v7)⟩, ⟨some 25, ov (S rB v8)⟩])
       (rs := fun γ => [])
       (afts := nn 9) (js := []) Zcj (.cons rfl (.cons rfl (.cons rfl .nil))) (fun _ => rfl)
       (by
      refine db 1 0 <| db 2 5 <| dS 3 (fun γ ρ B hb hd => Zau lb tu33 tz26 (tl hd 0 17) (tl hd 1 18) hv6) <| dS 4 (fun γ ρ B hb hd => ZaS lb tA26 (tl hd 2 19) rfl) <| db 5 1 ?_
      refine db 6 5 <| dS 7 (fun γ ρ B hb hd => Zau lb tu33 tz26 (tl hd 4 21) (tl hd 5 22) hv7) <| dS 8 (fun γ ρ B hb hd => ZaS lb tA26 (tl hd 6 23) rfl) <| dS 9 (fun γ ρ B hb hd => Zgj lb qa26 (by decide) ng26 (tl hd 3 20) (tl hd 7 24) hv8) ?_
      exact ZaF.nil)
       (by decide +kernel) (fun _ => rfl) (fun _ => rfl) (fun _ => rfl) rfl
       (ρ' := fun γ => [(0, ov (S (rL Zae) a1)), (1, ov (S (rL Zae) b2)), (5, ov (S (rI .i64) i4)), (25, ov (S rB v8))])
       (X' := fun γ => [])
       (fun γ ρ hb hd => (.cons (hb 0 _ rfl) (.cons (hb 1 _ rfl) (.cons (hb 5 _ rfl) (.cons (hdq hd 8 25 rfl) .nil))))) (fun _ => rfl) (fun γ => ?_)
   refine JQ.at ⟨[(0, ov (S (rL Zae) a1)), (1, ov (S (rL Zae) b2)), (5, ov (S (rI .i64) i4)), (25, ov (S rB v8))], [], []⟩ <| JQ.then <| jif tR hx (fun hc5 hx => ?_) (fun hc5 hx => ?_)
   · refine jr <| jc (Zac lb .cB) <| jn <| JC.ret <| JQ.outRB <| JQ.outR ?_
     try obtain rfl := so hx
     try obtain rfl := hr _ rfl
     dsimp only at hq3
     refine JQ.outR <| JQ.outRB ?_
     try obtain rfl := so hq3
     dsimp only at hq2
     refine JQ.outR ?_
     obtain rfl := so hq2
     exact jd (.val (S rB false)) rfl rfl rfl rfl rfl rfl
   refine JC.skip <| JQ.outNB <| JQ.then <| JC.region <| jmv rfl rfl <| lI hx fun v9 hv9 hx => jc (ZaX lb tR .cI (cs hv9)) <| jc (Zac lb tR) <| JL.nil ?_
   try obtain rfl := so hx
   exact JQ.next () rfl (Imp.norm (js := []) rfl (.cons rfl (.cons rfl (.cons rfl .nil))))
 refine JC.exit <| JQ.outX ?_
 try obtain rfl := so hx
 try obtain rfl := hr _ rfl
 dsimp only at hq3
 refine JQ.outX <| JQ.here ?_
 try obtain rfl := so hq3
 exact JQ.joinK () () rfl (Imp.norm (js := []) rfl .nil)

theorem Zii (k : Nat) (a1 : Zaq) (b2 : Zaq) (r : Bool) (hm : ref09_Same k a1 b2 = some r) : Sim Tryz.prog 65 [A Zan a1, A Zan b2] [] (γ := Unit) (fun q => []) (fun q => .one (.val (S rB r))) := by
 unfold ref09_Same at hm
 refine Sim.of Tryz.func65 rfl rfl (lE rfl) (fun e0 w0 => ?_)
 refine JC.at ⟨[(0, ov (A Zan a1)), (1, ov (A Zan b2))], [], []⟩ <| jr <| jx (ZaZ lb tR) fun gb3 => jx (ZaZ lb tR) fun gb4 => jc (Zac lb .cB) <| jn <| JC.seq <| bI hm fun x14 hx1 hq1 => JC.seqJ (γ := Unit) (stj := fun _ => ⟨[(2, ov (PTR gb3 0)), (3, ov (PTR gb4 0)), (42, ov (S rB x14))], [cvar gb3 Zan a1, cvar gb4 Zan b2], []⟩) (fun _ => ?_) ?_
 · refine jif tR hq1 (fun hc30 hq1 => ?_) (fun hc30 hq1 => ?_)
   · refine jr <| jc (Zac lb .cB) <| jn <| JC.ret <| JQ.outR ?_
     obtain rfl := so hq1
     exact jd (.val (S rB false)) rfl rfl rfl rfl rfl rfl
   refine JC.skip <| JQ.then <| bI hq1 fun tv31 hx31 hq31 => JC.seqK (α := Unit) (γ := Unit) (stj := fun v q => ⟨[], [], []⟩) (p := fun v => tv31 = (.inl v)) (fun v q hv => ?_) ?_
   · subst hv
     skip
     obtain _ := q
     dsimp only at hq31
     refine JC.at ⟨[], [], []⟩ <| jr <| jc (Zac lb .cB) <| jn <| JC.ret ?_
     obtain rfl := so hq31
     exact jd (.val (S rB true)) rfl rfl rfl rfl rfl rfl
   refine jr <| jc (Zac lb .cI) <| jn <| JC.block <| bI hx31 fun tv32 hL32 hq32 => JC.pre ?_ (JC.loop (γ := Unit) (stf := fun s q => ⟨[(2, ov (PTR gb3 0)), (3, ov (PTR gb4 0)), (5, ov (S (rI .i64) s))], [cvar gb3 Zan a1, cvar gb4 Zan b2], []⟩) (q := ()) hL32 ?_)
   · exact (Imp.norm (js := [0, 0]) rfl (.cons rfl (.cons rfl (.cons rfl .nil))))
   intro i15 q x hx hr
   obtain _ := q
   change ref09_Same.b1 k a1 b2 i15 = some x at hx
   unfold ref09_Same.b1 at hx
   refine JC.at ⟨[(2, ov (PTR gb3 0)), (3, ov (PTR gb4 0)), (5, ov (S (rI .i64) i15))], [cvar gb3 Zan a1, cvar gb4 Zan b2], []⟩ <| JC.seq <| jr <| jmv rfl rfl <| jc (Zaa (off := 20) lb ZdW tR) <| jc (Zam (j := 0) lb tS30 tR rfl (cT (ZaR a1) rfl) rfl rfl) <| jc (ZaI lb tu30 tR) <| lI hx fun v16 hv16 hx => jc (Zar lb tR tR (cs hv16)) <| jn <| jif tR hx (fun hc33 hx => ?_) (fun hc33 hx => ?_)
   · refine JC.skip <| JQ.then <| JC.seq <| JC.block <| JC.seq <| bI hx fun v17 hv17 hx => bI hx fun v18 hv18 hx => ?_
     obtain ⟨v19, hv19, hx⟩ := ZaT hx
     refine JC.anyF (base := [(2, ov (PTR gb3 0)), (3, ov (PTR gb4 0)), (5, ov (S (rI .i64) i15))])
         (fs := fun γ => [⟨some 50, ov (PTR gb3 (0 + 20))⟩, ⟨some 51, ov (S (rL Zat) a1.To)⟩, ⟨some 52, ov (S (rI .i64) i15)⟩, ⟨some 53, ov (PT Zat v17)⟩, ⟨some 54, ov (A Zat v17)⟩, ⟨some 55, ov (PTR gb4 (0 + 20))⟩, ⟨some 56, ov (S (rL Zat) b2.To)⟩, ⟨some 57, ov (S (rI .i64) i15)⟩, ⟨some 58, ov (PT Zat v18)⟩, ⟨some 59, ov (A Zat v18)⟩, ⟨some 60, ov (S rB v19)⟩])
         (rs := fun γ => [⟨cvar gb3 Zan a1, none, none, [1]⟩, ⟨cvar gb4 Zan b2, none, none, [6]⟩])
         (afts := nn 11) (js := [0, 0]) Zcj (.cons rfl (.cons rfl (.cons rfl .nil))) (fun _ => rfl)
         (by
      refine dS 1 (fun γ ρ B hb hd => Zaa (off := 20) lb ZdW (.tmp (hb 2 _ rfl))) <| dR 2 (fun γ ρ B hb hd => Zao.lk ⟨ρ, (cvar gb3 Zan a1) :: B, _⟩ (Zam (j := 0) lb tS30 (tl hd 0 50) rfl (cT (ZaR a1) rfl) rfl rfl)) <| db 3 5 <| dS 4 (fun γ ρ B hb hd => Zau lb tu30 ZiU (tl hd 1 51) (tl hd 2 52) hv17) <| dS 5 (fun γ ρ B hb hd => ZaS lb Zje (tl hd 3 53) rfl) ?_
      refine dS 6 (fun γ ρ B hb hd => Zaa (off := 20) lb ZdW (.tmp (hb 3 _ rfl))) <| dR 7 (fun γ ρ B hb hd => Zao.lk ⟨ρ, (cvar gb4 Zan b2) :: B, _⟩ (Zam (j := 0) lb tS30 (tl hd 5 55) rfl (cT (ZaR b2) rfl) rfl rfl)) <| db 8 5 <| dS 9 (fun γ ρ B hb hd => Zau lb tu30 ZiU (tl hd 6 56) (tl hd 7 57) hv18) <| dS 10 (fun γ ρ B hb hd => ZaS lb Zje (tl hd 8 58) rfl) ?_
      refine dS 11 (fun γ ρ B hb hd => Zgj lb ZoC (by decide) ZnW (tl hd 4 54) (tl hd 9 59) hv19) ?_
      exact ZaF.nil)
         (by decide +kernel) (fun _ => rfl) (fun _ => rfl) (fun _ => rfl) rfl
         (ρ' := fun γ => [(2, ov (PTR gb3 0)), (3, ov (PTR gb4 0)), (5, ov (S (rI .i64) i15)), (60, ov (S rB v19))])
         (X' := fun γ => [cvar gb3 Zan a1, cvar gb4 Zan b2])
         (fun γ ρ hb hd => (.cons (hb 2 _ rfl) (.cons (hb 3 _ rfl) (.cons (hb 5 _ rfl) (.cons (hdq hd 10 60 rfl) .nil))))) (fun _ => rfl) (fun γ => ?_)
     refine JQ.at ⟨[(2, ov (PTR gb3 0)), (3, ov (PTR gb4 0)), (5, ov (S (rI .i64) i15)), (60, ov (S rB v19))], [cvar gb3 Zan a1, cvar gb4 Zan b2], []⟩ <| JQ.then <| jif tR hx (fun hc34 hx => ?_) (fun hc34 hx => ?_)
     · refine jr <| jc (Zac lb .cB) <| jn <| JC.ret <| JQ.outRB <| JQ.outR ?_
       try obtain rfl := so hx
       try obtain rfl := hr _ rfl
       dsimp only at hq32
       refine JQ.outR <| JQ.outRB ?_
       try obtain rfl := so hq32
       dsimp only at hq31
       refine JQ.outR ?_
       obtain rfl := so hq31
       exact jd (.val (S rB false)) rfl rfl rfl rfl rfl rfl
     refine JC.skip <| JQ.outNB <| JQ.then <| JC.region <| jmv rfl rfl <| lI hx fun v20 hv20 hx => jc (ZaX lb tR .cI (cs hv20)) <| jc (Zac lb tR) <| JL.nil ?_
     try obtain rfl := so hx
     exact JQ.next () rfl (Imp.norm (js := [0, 0]) rfl (.cons rfl (.cons rfl (.cons rfl .nil))))
   refine JC.exit <| JQ.outX ?_
   try obtain rfl := so hx
   try obtain rfl := hr _ rfl
   dsimp only at hq32
   refine JQ.outX <| JQ.here ?_
   try obtain rfl := so hq32
   exact JQ.joinK () () rfl (Imp.norm (js := []) rfl .nil)
 refine JC.region <| jc (Zaa (off := 0) lb Zgd tR) <| jc (ZaB (j := 0) lb tA26 tR rfl (cT (Zbe a1) rfl) rfl) <| jc (Zaa (off := 0) lb Zgd tR) <| jc (ZaB (j := 1) lb tA26 tR rfl (cT (Zbe b2) rfl) rfl) <| lI hx1 fun v5 hv5 hx1 => jc (Zgj lb qa26 (by decide) ng26 tR tR hv5) <| JL.sub ⟨[(2, ov (PTR gb3 0)), (3, ov (PTR gb4 0)), (10, ov (S rB v5))], [cvar gb3 Zan a1, cvar gb4 Zan b2], []⟩ (.cons rfl (.cons rfl (.cons rfl .nil))) rfl rfl <| jmv rfl rfl <| jF (ov (PTR gb3 (0 + 2))) rfl rfl rfl rfl (fun hq_2 => Zaa (off := 2) lb ZhV tR) <| jF (ov (S rS a1.Topic)) rfl rfl rfl rfl (fun hq_3 => Zam (j := 0) lb tS9 (HasO.cnd tR (notT (notF hq_3))) rfl (cT (Zby a1) rfl) rfl rfl) <| jF (ov (PTR gb4 (0 + 2))) rfl rfl rfl rfl (fun hq4 => Zaa (off := 2) lb ZhV tR) <| jF (ov (S rS b2.Topic)) rfl rfl rfl rfl (fun hq5 => Zam (j := 1) lb tS9 (HasO.cnd tR (notT (notF hq5))) rfl (cT (Zby b2) rfl) rfl rfl) ?_
 refine lI hx1 fun v6 hv6 hx1 => jF (ov (S rB v6)) rfl rfl rfl rfl (fun hq6 => ZhY lb (HasO.cnd tR (notT (notF hq6))) (HasO.cnd tR (notT (notF hq6))) (cs hv6)) <| lI hx1 fun v7 hv7 hx1 => jc (Zas lb tR (fun hb7 => .cB) (fun hb7 => (HasO.cnd tR (notT hb7))) hv7) <| jmv rfl rfl <| jF (ov (PTR gb3 (0 + 3))) rfl rfl rfl rfl (fun hq8 => Zaa (off := 3) lb ZhJ tR) <| jF (ov (S (rL (rU UInt8)) a1.Payload)) rfl rfl rfl rfl (fun hq9 => Zam (j := 0) lb tS27 (HasO.cnd tR (notT (notF hq9))) rfl (cT (Zbh a1) rfl) rfl rfl) <| jF (ov (S rS a1.Payload)) rfl rfl rfl rfl (fun hq_10 => ZdD lb tu27 tu5 tu9 (HasO.cnd tR (notT (notF hq_10)))) <| jF (ov (PTR gb4 (0 + 3))) rfl rfl rfl rfl (fun hq11 => Zaa (off := 3) lb ZhJ tR) <| JL.sub ⟨[(2, ov (PTR gb3 0)), (3, ov (PTR gb4 0)), (18, ov (S rB v7)), (21, bif (!v7) then ov (S rS a1.Payload) else .one .und), (22, bif (!v7) then ov (PTR gb4 (0 + 3)) else .one .und)], [cvar gb3 Zan a1, cvar gb4 Zan b2], []⟩ (.cons rfl (.cons rfl (.cons rfl (.cons rfl (.cons rfl .nil))))) rfl rfl ?_
 refine jF (ov (S (rL (rU UInt8)) b2.Payload)) rfl rfl rfl rfl (fun hq12 => Zam (j := 1) lb tS27 (HasO.cnd tR (notT (notF hq12))) rfl (cT (Zbh b2) rfl) rfl rfl) <| jF (ov (S rS b2.Payload)) rfl rfl rfl rfl (fun hq_13 => ZdD lb tu27 tu5 tu9 (HasO.cnd tR (notT (notF hq_13)))) <| lI hx1 fun v8 hv8 hx1 => jF (ov (S rB v8)) rfl rfl rfl rfl (fun hq_14 => ZhY lb (HasO.cnd tR (notT (notF hq_14))) (HasO.cnd tR (notT (notF hq_14))) (cs hv8)) <| lI hx1 fun v9 hv9 hx1 => jc (Zas lb tR (fun hb15 => .cB) (fun hb15 => (HasO.cnd tR (notT hb15))) hv9) <| jmv rfl rfl <| jF (ov (PTR gb3 (0 + 4))) rfl rfl rfl rfl (fun hq16 => Zaa (off := 4) lb ZgO tR) <| jF (ov (A (rV 16 (rU UInt64)) a1.Past)) rfl rfl rfl rfl (fun hq17 => ZaB (j := 0) lb tA29 (HasO.cnd tR (notT (notF hq17))) rfl (cT (Zbm a1) rfl) rfl) <| jF (ov (PTR gb4 (0 + 4))) rfl rfl rfl rfl (fun hq18 => Zaa (off := 4) lb ZgO tR) ?_
 refine jF (ov (A (rV 16 (rU UInt64)) b2.Past)) rfl rfl rfl rfl (fun hq19 => ZaB (j := 1) lb tA29 (HasO.cnd tR (notT (notF hq19))) rfl (cT (Zbm b2) rfl) rfl) <| lI hx1 fun v10 hv10 hx1 => jF (ov (S rB v10)) rfl rfl rfl rfl (fun hq20 => Zgj lb qa29 (by decide) ng29 (HasO.cnd tR (notT (notF hq20))) (HasO.cnd tR (notT (notF hq20))) hv10) <| lI hx1 fun v11 hv11 hx1 => jc (Zas lb tR (fun hb21 => .cB) (fun hb21 => (HasO.cnd tR (notT hb21))) hv11) <| jmv rfl rfl <| JL.sub ⟨[(2, ov (PTR gb3 0)), (3, ov (PTR gb4 0)), (34, ov (S rB v11))], [cvar gb3 Zan a1, cvar gb4 Zan b2], []⟩ (.cons rfl (.cons rfl (.cons rfl .nil))) rfl rfl <| jF (ov (PTR gb3 (0 + 20))) rfl rfl rfl rfl (fun hq22 => Zaa (off := 20) lb ZdW tR) <| jF (ov (S (rL Zat) a1.To)) rfl rfl rfl rfl (fun hq23 => Zam (j := 0) lb tS30 (HasO.cnd tR (notT (notF hq23))) rfl (cT (ZaR a1) rfl) rfl rfl) <| jF (ov (S (rI .i64) (List.length a1.To : Int))) rfl rfl rfl rfl (fun hq24 => ZaI lb tu30 (HasO.cnd tR (notT (notF hq24)))) ?_
 refine jF (ov (PTR gb4 (0 + 20))) rfl rfl rfl rfl (fun hq25 => Zaa (off := 20) lb ZdW tR) <| jF (ov (S (rL Zat) b2.To)) rfl rfl rfl rfl (fun hq26 => Zam (j := 1) lb tS30 (HasO.cnd tR (notT (notF hq26))) rfl (cT (ZaR b2) rfl) rfl rfl) <| jF (ov (S (rI .i64) (List.length b2.To : Int))) rfl rfl rfl rfl (fun hq27 => ZaI lb tu30 (HasO.cnd tR (notT (notF hq27)))) <| lI hx1 fun v12 hv12 hx1 => jF (ov (S rB v12)) rfl rfl rfl rfl (fun hq28 => Zar lb (HasO.cnd tR (notT (notF hq28))) (HasO.cnd tR (notT (notF hq28))) (cs hv12)) <| lI hx1 fun v13 hv13 hx1 => jc (Zas lb tR (fun hb29 => .cB) (fun hb29 => (HasO.cnd tR (notT hb29))) hv13) <| JL.nil ?_
 try obtain rfl := so hx1
 exact JQ.join () (Imp.norm (js := [0, 0]) rfl (.cons rfl (.cons rfl (.cons rfl .nil))))

end Go.Proofs.YtklnihlchhhhlaaGreat
