/- The abstract machine of this claim, part 15. -/
import Derived.Test.YtggemipepaajmaaGreatAm14
set_option linter.unusedSimpArgs false
set_option linter.unusedVariables false
set_option linter.unusedSectionVars false
set_option linter.unnecessarySimpa false
namespace Go.Proofs.Am12
open Go Go.Am
attribute [local simp] cw_skip cw_region cw_seq cw_cond cw_block cw_loop cw_exit cw_ret regionA runOps wantedA opEx xVal xPick xAlloc xBox xBuild xBuildSlice xLoad xStore xNil xBin xUn xConv xIface xFunc xMakeSlice xSlice xFieldAddr xField xIndexAddr xIndex xLookup xUpdate xExtract xBuiltin xPanic xCall
  ev evs ofVal ofCell OR.ofV OR.ofVH OR.ofC putD Tm.get Tm.init Tm.only beq_d ble_d blt_d finish resultA resA binA intBin strBin unA cells_int cells_bool cells_str cells_nilp cells_ro cells_hp cells_ep cells_nils cells_sl cells_hs cells_nilm cells_hm cells_fn cells_nilf cells_agg loopC loopsIn lenSl_nils lenSl_sl lenSl_hs lenSt_str faA_ro faA_hp faA_ep ld1_def ldN_def takeA rd_ro rd_hp rd_ep stA spliceAt zipFst fillC kdRead blkOf noCh okDraw_ld okDraw_l okPairsL loudS kdSh
set_option maxHeartbeats 1000000
attribute [local simp] okDraw_k okPairsM loudOf kdClash mods_at0 mods_at1 mods_at2 mods_at3 mods_at4 mods_at5 mods_at6 kd_move kd_assign kd_pick kd_build kd_nil kd_bin kd_un kd_iface kd_func kd_slice kd_fieldAddr kd_field kd_indexAddr kd_index kd_extract kd_load kd_lookup kd_len kd_max kd_min kd_append kd_callv kd_alloc kd_box kd_bs kd_map kd_ms kd_cv kd_store kd_mapUpdate kd_insert kdLen_nils kdLen_sl kdLen_hs kdLen_str
theorem snap_fnT {f : FuncId} {id : Nat} {k v : Int} {s : Bytes} {pv : AV} {h : Heap} {b : Bool} {ps : List TyV} (hps : SlR TyRep 4 ps pv) (hh : h[id]? = some (.var b [.int .i64 k, .int .i64 v, .str s, pv])) : snap snapN (.fn f [] [.hp id 0]) h = some (.fn f [] [.ro [.int .i64 k, .int .i64 v, .str s, pv]], h.set id (.var true [.int .i64 k, .int .i64 v, .str s, pv])) := by
  have hpv := hps.noRef
  have : SnapIn 9 (.fn f [] [.hp id 0]) h (.fn f [] [.ro [.int .i64 k, .int .i64 v, .str s, pv]]) (h.set id (.var true [.int .i64 k, .int .i64 v, .str s, pv])) := fun n => by
    rcases hps with ⟨_, rfl⟩ | ⟨ex, es, rfl, _⟩ <;> simp [AV.noRef] at hpv <;> simp [Am.snap, Am.snaps, noRefs, AV.noRef, hh, hpv]
  exact this.at (by decide)
theorem c176 {d : DataV} {dx : List AV} (hd : DataRep d dx) (k v : Int) (s : Bytes) (pv : AV) (h : Heap) : ∃ B, doCall MX (callW MX) 176 [.agg dx, .ro [.int .i64 k, .int .i64 v, .str s, pv]] h = some (.ret (.bool (d.nm == s)), h ++ [B]) := by
  obtain ⟨qv, cv, rfl, hp, hc⟩ := hd.dest
  refine ⟨_, openX mode_176 eff_176 (by simp [runW, Tryz.f176] <;> first | exact ⟨rfl, rfl⟩ | rfl)⟩
theorem t175b {l : List DataV} {w : AV} (k v : Int) (s : Bytes) (pv : AV) (hv : SlR DataRep 3 l w) (hl : l.length < 1048577) : ∃ G, runW MX 175 [w, .fn 176 [] [.ro [.int .i64 k, .int .i64 v, .str s, pv]]] [] = some (.ret (.int .i64 (ixI (l.findIdx? (fun x : DataV => x.nm == s)))), G) := by
  obtain ⟨F, hF⟩ : ∃ F, F = AV.fn 176 [] [.ro [.int .i64 k, .int .i64 v, .str s, pv]] := ⟨_, rfl⟩
  rw [← hF]
  obtain ⟨e, st, hlp, hq⟩ := loop_up (M := MX) (fid := 175) (N := 19) (C := callW MX) (c := loopC Tryz.f175 0) (n := l.length) (fun i (b : Heap) => ([(0, w), (1, F), (7, .int .i64 l.length), (8, .int .i64 i)], b)) (fun i _ => ∀ j (hj : j < l.length), j < i → (fun x : DataV => x.nm == s) l[j] = false)
    (fun r => ∃ b : Heap, (r = (.ext 0, ([(0, w), (1, F), (7, .int .i64 l.length), (8, .int .i64 l.length), (9, .bool false)], b)) ∧ l.findIdx? (fun x : DataV => x.nm == s) = none) ∨ (∃ i : Nat, r = (.ret, ([(4, .int .i64 i)], b)) ∧ l.findIdx? (fun x : DataV => x.nm == s) = some i)) (fun i b hi hI => by
      obtain ⟨e, he, hR⟩ := hv.ix hi
      have hi' := lt_cast hi
      have hw := wr_next hi hl
      obtain ⟨B, hcall⟩ := c176 hR k v s pv b
      obtain ⟨qv, cv, rfl, hp, hc⟩ := hR.dest
      cases hx : (l[i].nm == s) with
      | true => rw [hx] at hcall; exact .inr ⟨_, _, by simp [Tryz.f175, hi', he, hcall, hF] <;> exact ⟨rfl, rfl⟩, by simp, b ++ [B], .inr ⟨i, rfl, fi_some (p := (fun x : DataV => x.nm == s)) hi hI hx⟩⟩
      | false => rw [hx] at hcall; exact .inl ⟨b ++ [B], by simp [Tryz.f175, hi', he, hcall, hw, hF], fi_step (p := (fun x : DataV => x.nm == s)) hi hI hx⟩) (fun b hI => by
      exact ⟨_, _, by simp [Tryz.f175] <;> exact ⟨rfl, rfl⟩, by simp, b, .inl ⟨rfl, fi_none (p := (fun x : DataV => x.nm == s)) fun j hj => hI j hj hj⟩⟩) [] (fun j _ h0 => by omega)
  simp [Tryz.f175] at hlp
  obtain ⟨b, hq⟩ := hq
  rcases hq with ⟨hq, hs⟩ | ⟨i, hq, hs⟩ <;> cases hq <;> exact ⟨b, by simp [runW, Tryz.f175, hv.len, hlp, hs, ixI]⟩
theorem c175b {l : List DataV} {w : AV} {k v : Int} {s : Bytes} {pv : AV} {ps : List TyV} (hps : SlR TyRep 4 ps pv) (hv : SlR DataRep 3 l w) (hl : l.length < 1048577) {id : Nat} {b : Bool} {h : Heap} (hk : h[id]? = some (.var b [.int .i64 k, .int .i64 v, .str s, pv])) : doCall MX (callW MX) 175 [w, .fn 176 [] [.hp id 0]] h = some (.ret (.int .i64 (ixI (l.findIdx? (fun x : DataV => x.nm == s)))), h.set id (.var true [.int .i64 k, .int .i64 v, .str s, pv])) := by
  obtain ⟨G, hG⟩ := t175b k v s pv hv hl
  have hpv := hps.noRef
  exact snapCall (by simp [mode_175]) (args' := [w, .fn 176 [] [.ro [.int .i64 k, .int .i64 v, .str s, pv]]]) (by simp [snapArgs, hv.noRef, snap_fnT hps hk, AV.noRef, noRefs]) (by simp [hv.noRef, AV.noRef, noRefs, hpv]) (pureX mode_175 eff_175 (by simp [hv.noRef, AV.noRef, noRefs, hpv]) rfl hG _)
theorem c198 {u : TyV} {xs : List AV} (hu : TyRep u xs) {b : Nat} {lk : Bool} {H : Heap} (hb : H[b]? = some (.var lk xs)) : doCall MX (callW MX) 198 [.hp b 0] H = some (.ret (.hp H.length 0), H ++ [.var false [.int .i64 u.v, .nils]]) := by
  obtain ⟨pv, rfl, hp⟩ := hu.dest'
  exact openC mode_198 eff_198 (by simp [runW, Tryz.f198, hb])
theorem c179 {u : TyV} {xs : List AV} (hu : TyRep u xs) {own : Nat} {es : List (Bytes × AV)} {H : Heap} (ho : H[own]? = some (.mp (mpE es))) (p : Bytes) (pm : AV) :
    (u.k = 2 → doCall MX (callW MX) 179 [.hm own, .str p, .agg xs, pm] H = some (.ret (.tup []), (H ++ [Blk.var false xs]).set own (.mp (mpE (putE p (.fn 198 [] [.hp H.length 0]) es))))) ∧
    (u.k = 1 → doCall MX (callW MX) 179 [.hm own, .str p, .agg xs, pm] H = some (.ret (.tup []), H ++ [Blk.var false xs])) ∧
    (∀ f, u.k = 0 → lkA (some .string) .nilf pm (.str u.nm) false (H ++ [Blk.var false xs]) = some f → doCall MX (callW MX) 179 [.hm own, .str p, .agg xs, pm] H = some (.ret (.tup []), (H ++ [Blk.var false xs]).set own (.mp (mpE (putE p f es))))) := by
  obtain ⟨pv, rfl, hp⟩ := hu.dest'
  have ho' := get_app ho [Blk.var false [.int .i64 u.k, .int .i64 u.v, .str u.nm, pv]]
  have hup := upA_mp ho' p
  refine ⟨fun hk => ?_, fun hk => ?_, fun f hk hf => ?_⟩
  · have h2 : (u.k == 2) = true := by simp [hk]
    exact openC mode_179 eff_179 (by simp [runW, Tryz.f179, h2, hup])
  · have h2 : (u.k == 2) = false := by simp [hk]
    have h0 : (u.k == 0) = false := by simp [hk]
    exact openC mode_179 eff_179 (by simp [runW, Tryz.f179, h2, h0])
  · have h2 : (u.k == 2) = false := by simp [hk]
    have h0 : (u.k == 0) = true := by simp [hk]
    exact openC mode_179 eff_179 (by simp [runW, Tryz.f179, h2, h0, hf, hup])
theorem c177 {u : TyV} {xs : List AV} (hu : TyRep u xs) {pm : AV} {H : Heap} : (u.k ≠ 0 → doCall MX (callW MX) 177 [.agg xs, pm] H = some (.ret (.int .i64 u.v), H ++ [Blk.var false xs])) ∧
    (∀ f b r m w H', u.k = 0 → f = .fn 198 [] [.hp b 0] → lkA (some .string) .nilf pm (.str u.nm) false (H ++ [Blk.var false xs]) = some f → doCall MX (callW MX) 198 [.hp b 0] (H ++ [Blk.var false xs]) = some (.ret (.hp r 0), H') → H'[r]? = some (.var false [.int .i64 m, w]) → doCall MX (callW MX) 177 [.agg xs, pm] H = some (.ret (.int .i64 m), H')) := by
  obtain ⟨pv, rfl, hp⟩ := hu.dest'
  refine ⟨fun hk => ?_, fun f b r m w H' hk hf hl hc hr => ?_⟩
  · have hk' : (u.k == 0) = false := by simp [hk]
    exact openC mode_177 eff_177 (by simp [runW, Tryz.f177, hk'])
  · have h0 : (u.k == 0) = true := by simp [hk]
    subst hf
    exact openC mode_177 eff_177 (by simp [runW, Tryz.f177, h0, hl, hc, hr])
def SrtOK (l : List DataV) (lv : AV) (d : Nat) (t : TyV) (s : Sh) : Prop := ∀ (u : TyV) (xs : List AV) (params : List Bytes) (args : List TyV) (pm : AV) (S : Nat → Prop) (H : Heap), TyRep u xs → rNodeErr l params u = 0 → (∀ a ∈ args, VT l a) → params.length = args.length → repl params args u = t → (∀ x, S x → x < H.length) → EnvAt (CloOK l lv d S H) S H pm params args →
  ∃ v H', doCall MX (callW MX) 144 [lv, .agg xs, pm] H = some (.ret v, H') ∧ H.length ≤ H'.length ∧ (∀ x, x < H.length → H'[x]? = H[x]?) ∧ SrtAt (shD s) (fun x => H.length ≤ x ∧ x < H'.length) H' v s
section
variable {l : List DataV} {lv : AV} (hl : SlR DataRep 3 l lv)
include hl
theorem c178 {d : Nat} {t : TyV} {s : Sh} (ih : SrtOK l lv d t s) {S : Nat → Prop} {H : Heap} (hS : ∀ x, S x → x < H.length) {a b c e : Nat} {la lb lc le : Bool} {u : TyV} {xs : List AV} {pm : AV} {params : List Bytes} {args : List TyV} {k : Nat} (hk : k < u.ps.length) (h2 : H[a]? = some (.var la [lv])) (h3 : H[b]? = some (.var lb xs)) (h4 : TyRep u xs) (h5 : H[c]? = some (.var lc [.int .i64 k])) (h6 : H[e]? = some (.var le [pm])) (h7 : EnvAt (CloOK l lv d S H) S H pm params args) (h8 : rNodeErr l params u.ps[k] = 0) (h9 : ∀ x ∈ args, VT l x) (h10 : params.length = args.length) (h11 : repl params args u.ps[k] = t) :
    ∃ v H', doCall MX (callW MX) 178 [.hp a 0, .hp b 0, .hp c 0, .hp e 0] H = some (.ret v, H') ∧ H.length ≤ H'.length ∧ (∀ x, x < H.length → H'[x]? = H[x]?) ∧ SrtAt (shD s) (fun x => H.length ≤ x ∧ x < H'.length) H' v s := by
  obtain ⟨pv, rfl, hp⟩ := h4.dest'
  obtain ⟨fe, hfe, hR⟩ := hp.ix hk
  obtain ⟨v, H', q1, q2, q3, q4⟩ := ih u.ps[k] fe params args pm S H hR h8 h9 h10 h11 hS h7
  obtain ⟨qv, rfl, hq⟩ := hR.dest'
  have hb := bef_178_1
  simp [opsF, opsAt, Tryz.f178] at hb
  exact ⟨v, H', openC mode_178 eff_178 (by simp [runW, Tryz.f178, h2, h3, h5, h6, get_of h2, get_of h3, get_of h5, get_of h6, hfe, q1, hb]), q2, q3, q4⟩
theorem var144 {d : Nat} {t : TyV} {s : Sh} (ht : t.k = 1) (ih : ∀ d', d' < d → SrtOK l lv d' t s) {u : TyV} {xs : List AV} {params : List Bytes} {args : List TyV} {pm : AV} {S : Nat → Prop} {H : Heap} (hu : TyRep u xs) (hk : u.k = 0) (hv : rNodeErr l params u = 0) (hln : params.length = args.length) (hr : repl params args u = t) (hS : ∀ x, S x → x < H.length) (hE : EnvAt (CloOK l lv d S H) S H pm params args) :
    ∃ v H', doCall MX (callW MX) 144 [lv, .agg xs, pm] H = some (.ret v, H') ∧ H.length ≤ H'.length ∧ (∀ x, x < H.length → H'[x]? = H[x]?) ∧ SrtAt (shD s) (fun x => H.length ≤ x ∧ x < H'.length) H' v s := by
  obtain ⟨i, hi, hp, hti⟩ : ∃ i, ∃ hi : i < params.length, params[i] = u.nm ∧ args[i]'(by omega) = t := by
    cases u with
    | mk k v nm ps =>
      have hk : k = 0 := hk
      subst hk
      rw [rNodeErr_zero] at hv
      have hne := hv.2.1 rfl
      cases hf : params.findIdx? (fun x => x == nm) with
      | none => exact absurd hf hne
      | some i =>
        have hil := fi_lt hf
        have hnm : params[i] = nm := by
          have h3 := hf
          rw [List.findIdx?_eq_some_iff_getElem] at h3
          exact beq_iff_eq.1 h3.2.1
        refine ⟨i, hil, hnm, ?_⟩
        rw [← hr]
        simp only [repl, if_true, hf]
        rw [List.getD_eq_getElem?_getD, List.getElem?_eq_getElem (by omega)]
        rfl
  have hcp := hE.cells
  rcases hE with ⟨h0, _⟩ | ⟨id, es, hid, rfl, hmp, hfn⟩
  · rw [h0] at hi; cases hi
  obtain ⟨f, hf, hC⟩ := hfn i _ _ (List.getElem?_eq_getElem hi) (List.getElem?_eq_getElem (by omega))
  rw [hp] at hf
  rw [hti] at hC
  obtain ⟨pv, rfl, hpv⟩ := hu.dest'
  let T := [Blk.var false [lv], .var false [.int .i64 u.k, .int .i64 u.v, .str u.nm, pv], .var false [.hm id]]
  have hS' : ∀ x, S x → x < (H ++ T).length := fun x hx => by have := hS x hx; simp; omega
  have hX : ∀ x, S x → (H ++ T)[x]? = H[x]? := fun x hx => List.getElem?_append_left (hS x hx)
  have hC' := CloOK.mono d hC (fun _ h => h) hX
  have hlk := lkA_mp (get_app hmp T) hf
  cases d with
  | zero => exact hC.elim
  | succ d =>
    rcases hC' with ⟨h2, _⟩ | ⟨_, a, b, c, e, la, lb, lc, le, u', xs', pm', params', args', k, hk', rfl, s1, s2, s3, s4, g2, g3, g4, g5, g6, g7, g8, g9, g10, g11⟩
    · omega
    obtain ⟨v, H', q1, q2, q3, q4⟩ := c178 hl (ih d (by omega)) hS' hk' g2 g3 g4 g5 g6 g7 g8 g9 g10 g11
    have h0 : (u.k == 0) = true := by simp [hk]
    simp only [T] at hlk q1
    refine ⟨v, H', openC mode_144 eff_144 ?_, by simp at q2; omega, fun x hx => ?_, SrtAt.mono _ q4 (fun x hx => ⟨by have := hx.1; simp at this; omega, hx.2⟩) (fun _ _ => rfl)⟩
    · simp [runW, Tryz.f144, hl.cells, h0, hlk, q1]
    · rw [q3 x (by simp; omega)]
      exact List.getElem?_append_left hx
theorem ix144 (hll : l.length < 1048577) {u : TyV} {pv pm : AV} (hp : SlR TyRep 4 u.ps pv) (H : Heap) : doCall MX (callW MX) 175 [lv, .fn 176 [] [.hp (H.length + 1) 0]] (H ++ [Blk.var false [lv], .var false [.int .i64 u.k, .int .i64 u.v, .str u.nm, pv], .var false [pm]]) = some (.ret (.int .i64 (ixI (l.findIdx? (fun x : DataV => x.nm == u.nm)))), H ++ [Blk.var false [lv], .var true [.int .i64 u.k, .int .i64 u.v, .str u.nm, pv], .var false [pm]]) := by
  have := c175b (w := lv) hp hl hll (id := H.length + 1) (b := false) (h := H ++ [Blk.var false [lv], .var false [.int .i64 u.k, .int .i64 u.v, .str u.nm, pv], .var false [pm]]) (k := u.k) (v := u.v) (s := u.nm) (by simp)
  rw [this]
  congr 2
  simp
theorem bit144 (hll : l.length < 1048577) {d : Nat} {t : TyV} {u : TyV} {xs : List AV} {params : List Bytes} {args : List TyV} {pm : AV} {S : Nat → Prop} {H : Heap} (hu : TyRep u xs) (hk : u.k = 1) (hb : u.nm = bitS) (hv : rNodeErr l params u = 0) (hln : params.length = args.length) (hr : repl params args u = t) (h2 : (argOf t).k = 2) (hS : ∀ x, S x → x < H.length) (hE : EnvAt (CloOK l lv d S H) S H pm params args) :
    ∃ v H', doCall MX (callW MX) 144 [lv, .agg xs, pm] H = some (.ret v, H') ∧ H.length ≤ H'.length ∧ (∀ x, x < H.length → H'[x]? = H[x]?) ∧ SrtAt (shD (.bit (argOf t).v)) (fun x => H.length ≤ x ∧ x < H'.length) H' v (.bit (argOf t).v) := by
  have hcp := hE.cells
  obtain ⟨pv, rfl, hpv⟩ := hu.dest'
  have h175 := ix144 hl hll (pm := pm) hpv H
  have hb5 := bef_144_5
  simp [opsF, opsAt, Tryz.f144] at hb5
  have hlen : 0 < u.ps.length := by
    cases u with
    | mk k v nm ps =>
      have hk : k = 1 := hk
      have hb : nm = bitS := hb
      subst hk; subst hb
      rw [rNodeErr_zero] at hv
      have := hv.2.2.1
      simp only [rCount, if_true, beq_self_eq_true] at this
      have := Option.some.inj this
      show 0 < ps.length
      omega
  have harg : argOf t = repl params args u.ps[0] := by
    cases u with
    | mk k v nm ps =>
      have hk : k = 1 := hk
      subst hk
      rw [← hr]
      have hlen : 0 < ps.length := hlen
      have h1 : ¬ ((1 : Int) = 0) := by decide
      simp only [repl, h1, if_false, repls_map]
      show (ps.map (repl params args)).getD 0 default = _
      rw [List.getD_eq_getElem?_getD, List.getElem?_eq_getElem (by simpa using hlen), List.getElem_map]
      rfl
  have ha0 : rNodeErr l params u.ps[0] = 0 := by
    cases u with
    | mk k v nm ps =>
      rw [rNodeErr_zero] at hv
      exact hv.2.2.2.2 _ (List.getElem_mem hlen)
  obtain ⟨fe, hfe, hR⟩ := hpv.ix hlen
  have hfe0 : ixA 4 pv (.int .i64 (0 : Int)) = some (.ro fe) := hfe .i64
  obtain ⟨a, ha⟩ : ∃ a, a = u.ps[0] := ⟨_, rfl⟩
  rw [← ha] at harg ha0 hR
  let T := [Blk.var false [lv], .var true [.int .i64 u.k, .int .i64 u.v, .str u.nm, pv], .var false [pm]]
  obtain ⟨X, h177⟩ : ∃ X, doCall MX (callW MX) 177 [.agg fe, pm] (H ++ T) = some (.ret (.int .i64 (argOf t).v), H ++ (T ++ X)) := by
    by_cases hka : a.k = 0
    · -- a parameter
      obtain ⟨i, hi, hp, hti⟩ : ∃ i, ∃ hi : i < params.length, params[i] = a.nm ∧ args[i]'(by omega) = argOf t := by
        cases a with
        | mk k v nm ps =>
          have hka : k = 0 := hka
          subst hka
          rw [rNodeErr_zero] at ha0
          have hne := ha0.2.1 rfl
          cases hf : params.findIdx? (fun x => x == nm) with
          | none => exact absurd hf hne
          | some i =>
            have hil := fi_lt hf
            have hnm : params[i] = nm := by
              have h3 := hf
              rw [List.findIdx?_eq_some_iff_getElem] at h3
              exact beq_iff_eq.1 h3.2.1
            refine ⟨i, hil, hnm, ?_⟩
            rw [harg]
            simp only [repl, if_true, hf]
            rw [List.getD_eq_getElem?_getD, List.getElem?_eq_getElem (by omega)]
            rfl
      rcases hE with ⟨h0, _⟩ | ⟨id, es, hid, rfl, hmp, hfn⟩
      · rw [h0] at hi; cases hi
      obtain ⟨f, hf, hC⟩ := hfn i _ _ (List.getElem?_eq_getElem hi) (List.getElem?_eq_getElem (by omega))
      rw [hp] at hf
      rw [hti] at hC
      cases d with
      | zero => exact hC.elim
      | succ d =>
        rcases hC with ⟨_, b, lk, u', xs', rfl, s1, g1, g2, g3⟩ | ⟨h1, _⟩
        · have hlk := lkA_mp (get_app (get_app hmp T) [Blk.var false fe]) hf
          have g1' := get_app (get_app g1 T) [Blk.var false fe]
          have h198 := c198 g2 g1'
          have h177 := (c177 hR (pm := .hm id) (H := H ++ T)).2 _ b _ u'.v .nils _ hka rfl hlk h198 (by simp)
          rw [g3] at h177
          exact ⟨[Blk.var false fe, .var false [.int .i64 (argOf t).v, .nils]], by rw [h177]; simp⟩
        · omega
    · have h177 := (c177 hR (pm := pm) (H := H ++ T)).1 hka
      have hva : (argOf t).v = a.v := by
        rw [harg]
        cases a with
        | mk k v nm ps =>
          have hka : ¬ k = 0 := hka
          simp only [repl, hka, if_false]
          rfl
      rw [← hva] at h177
      exact ⟨[Blk.var false fe], by rw [h177]; simp⟩
  simp only [T] at h177
  obtain ⟨qv, rfl, hq⟩ := hR.dest'
  have h0 : (u.k == 0) = false := by simp [hk]
  have hbn : (u.nm == [66, 105, 116]) = true := by rw [hb]; rfl
  refine ⟨.hp (H.length + (T ++ X).length) 0, H ++ (T ++ X) ++ [Blk.var false [.int .i64 (argOf t).v, .nils]], openC mode_144 eff_144 ?_, by simp, fun x hx => ?_, ?_⟩
  · simp only [T]
    simp at h177
    simp [runW, Tryz.f144, hl.cells, hcp, h0, hbn, h175, hfe0, h177, hb5, Nat.add_assoc]
  · rw [List.append_assoc]
    exact List.getElem?_append_left hx
  · refine ⟨_, rfl, ⟨by omega, by simp⟩, ?_⟩
    rw [List.getElem?_append_right (by simp)]
    simp
end
theorem CloOK.up {l : List DataV} {lv : AV} : ∀ (d : Nat) {S : Nat → Prop} {H : Heap} {f : AV} {t : TyV}, CloOK l lv d S H f t → CloOK l lv (d + 1) S H f t
  | 0, _, _, _, _, h => h.elim
  | d + 1, S, H, f, t, h => by
    rcases h with h | ⟨h0, a, b, c, e, la, lb, lc, le, u, xs, pm, params, args, k, hk, h1, s1, s2, s3, s4, h2, h3, h4, h5, h6, h7, h8⟩
    · exact .inl h
    · exact .inr ⟨h0, a, b, c, e, la, lb, lc, le, u, xs, pm, params, args, k, hk, h1, s1, s2, s3, s4, h2, h3, h4, h5, h6, h7.mono (fun f t h => CloOK.up d h) (fun _ h => h) (fun _ _ => rfl), h8⟩
theorem set_app2 {X Y : Heap} {n : Nat} (A B : Blk) (hn : n < X.length) : (X.set n A ++ Y).set n B = (X ++ Y).set n B := by
  rw [← List.set_append_left _ _ hn, List.set_set]
theorem set_app1 {X Y : Heap} {n : Nat} (A : Blk) (hn : n < X.length) : X.set n A ++ Y = (X ++ Y).set n A := by
  rw [List.set_append_left _ _ hn]
structure PI (l : List DataV) (lv : AV) (d : Nat) (H : Heap) (u : TyV) (pv pm : AV) (params : List Bytes) (args : List TyV) (ps : List Bytes) (j : Nat) (b : Heap) (es : List (Bytes × AV)) : Prop where
  old : ∀ x, x < H.length → b[x]? = H[x]?
  ba : b[H.length]? = some (.var false [lv])
  bb : b[H.length + 1]? = some (.var true [.int .i64 u.k, .int .i64 u.v, .str u.nm, pv])
  be : b[H.length + 2]? = some (.var false [pm])
  bo : b[H.length + 3]? = some (.mp (mpE es))
  le : H.length + 4 ≤ b.length
  ent : ∀ (m : Nat) p t, m < j → ps[m]? = some p → u.ps[m]? = some t → ∃ f, getE p es = some f ∧ CloOK l lv (d + 1) (fun x => x < b.length ∧ x ≠ H.length + 3) b f (repl params args t)
theorem PI.step {l : List DataV} {lv : AV} {d : Nat} {H : Heap} {u : TyV} {pv pm : AV} {params : List Bytes} {args : List TyV} {ps : List Bytes} {j : Nat} {b : Heap} {es es' : List (Bytes × AV)} (h : PI l lv d H u pv pm params args ps j b es) (hnd : ps.Nodup) {p : Bytes} {t : TyV} (hp : ps[j]? = some p) (ht : u.ps[j]? = some t) {X : Heap} (he : ∀ q, q ≠ p → getE q es' = getE q es)
    (hf : ∃ f, getE p es' = some f ∧ CloOK l lv (d + 1) (fun x => x < (b ++ X).length ∧ x ≠ H.length + 3) ((b ++ X).set (H.length + 3) (.mp (mpE es'))) f (repl params args t)) : PI l lv d H u pv pm params args ps (j + 1) ((b ++ X).set (H.length + 3) (.mp (mpE es'))) es' := by
  have hle := h.le
  have hk : ∀ x, x < b.length → x ≠ H.length + 3 → ((b ++ X).set (H.length + 3) (.mp (mpE es')))[x]? = b[x]? := fun x h1 h2 => by
    rw [List.getElem?_set_ne (fun e => h2 e.symm), List.getElem?_append_left h1]
  refine ⟨fun x hx => by rw [hk x (by omega) (by omega)]; exact h.old x hx, by rw [hk _ (by omega) (by omega)]; exact h.ba, by rw [hk _ (by omega) (by omega)]; exact h.bb, by rw [hk _ (by omega) (by omega)]; exact h.be, List.getElem?_set_self (by simp; omega), by simp; omega, fun m p' t' hm h1 h2 => ?_⟩
  by_cases hmj : m = j
  · subst hmj
    rw [hp] at h1; cases h1
    rw [ht] at h2; cases h2
    obtain ⟨f, f1, f2⟩ := hf
    exact ⟨f, f1, CloOK.mono _ f2 (fun x hx => ⟨by rw [List.length_set]; exact hx.1, hx.2⟩) (fun _ _ => rfl)⟩
  · obtain ⟨f, f1, f2⟩ := h.ent m p' t' (by omega) h1 h2
    have hne : p' ≠ p := fun e => by
      subst e
      obtain ⟨a1, a2⟩ := List.getElem?_eq_some_iff.1 h1
      obtain ⟨b1, b2⟩ := List.getElem?_eq_some_iff.1 hp
      exact List.pairwise_iff_getElem.1 hnd m j a1 b1 (by omega) (a2.trans b2.symm)
    exact ⟨f, by rw [he p' hne]; exact f1, CloOK.mono _ f2 (fun x hx => ⟨by simp; have := hx.1; omega, hx.2⟩) (fun x hx => hk x hx.1 hx.2)⟩
section
variable {l : List DataV} {lv : AV} (hl : SlR DataRep 3 l lv)
include hl
theorem params144 {d : Nat} {H : Heap} {u : TyV} {pv pm : AV} (hu : TyRep u [.int .i64 u.k, .int .i64 u.v, .str u.nm, pv]) (hpv : SlR TyRep 4 u.ps pv) {params : List Bytes} {args : List TyV} {S : Nat → Prop} (hS : ∀ x, S x → x < H.length) (hE : EnvAt (CloOK l lv d S H) S H pm params args) (hua : ∀ t ∈ u.ps, rNodeErr l params t = 0) (hva : ∀ a ∈ args, VT l a) (hln : params.length = args.length)
    {ps : List Bytes} {qv : AV} (hq : SlR StrRep 1 ps qv) (hnd : ps.Nodup) (hps : ps.length = u.ps.length) (hpl : ps.length < 1048577) {i : Nat} :
    ∃ (b : Heap) (es : List (Bytes × AV)), loopH MX 144 118 (callW MX) (loopC Tryz.f144 0) ([(3, .hp H.length 0), (4, .hp (H.length + 1) 0), (5, .hp (H.length + 2) 0), (7, .int .i64 i), (8, .hm (H.length + 3)), (53, qv), (54, .int .i64 ps.length), (55, .int .i64 (0 : Nat))], H ++ [Blk.var false [lv], .var true [.int .i64 u.k, .int .i64 u.v, .str u.nm, pv], .var false [pm], .mp []]) =
      some (.ext 1, ([(3, .hp H.length 0), (4, .hp (H.length + 1) 0), (5, .hp (H.length + 2) 0), (7, .int .i64 i), (8, .hm (H.length + 3)), (53, qv), (54, .int .i64 ps.length), (55, .int .i64 ps.length), (56, .bool false)], b)) ∧ PI l lv d H u pv pm params args ps ps.length b es := by
  have hb13 := bef_144_13
  simp [opsF, opsAt, Tryz.f144] at hb13
  obtain ⟨e, st, hlp, hq'⟩ := loop_up (M := MX) (fid := 144) (N := 118) (C := callW MX) (c := loopC Tryz.f144 0) (n := ps.length)
    (fun j (b : Heap × List (Bytes × AV)) => ([(3, .hp H.length 0), (4, .hp (H.length + 1) 0), (5, .hp (H.length + 2) 0), (7, .int .i64 i), (8, .hm (H.length + 3)), (53, qv), (54, .int .i64 ps.length), (55, .int .i64 j)], b.1))
    (fun j b => PI l lv d H u pv pm params args ps j b.1 b.2)
    (fun r => ∃ b : Heap × List (Bytes × AV), r = (.ext 1, ([(3, .hp H.length 0), (4, .hp (H.length + 1) 0), (5, .hp (H.length + 2) 0), (7, .int .i64 i), (8, .hm (H.length + 3)), (53, qv), (54, .int .i64 ps.length), (55, .int .i64 ps.length), (56, .bool false)], b.1)) ∧ PI l lv d H u pv pm params args ps ps.length b.1 b.2) (fun j b hj hI => by
      obtain ⟨b, es⟩ := b
      have hI : PI l lv d H u pv pm params args ps j b es := hI
      have hj' := lt_cast hj
      have hw := wr_next hj hpl
      obtain ⟨pe, hpe, hpR⟩ := hq.ix hj
      have hpR : pe = [.str ps[j]] := hpR
      subst hpR
      have hju : j < u.ps.length := by omega
      obtain ⟨fe, hfe, hfR⟩ := hpv.ix hju
      have hle := hI.le
      have hn0 := hua _ (List.getElem_mem hju)
      -- the map with the thunk
      let F := AV.fn 178 [] [.hp H.length 0, .hp (H.length + 1) 0, .hp b.length 0, .hp (H.length + 2) 0]
      let b1 := (b ++ [Blk.var false [.int .i64 j]]).set (H.length + 3) (.mp (mpE (putE ps[j] F es)))
      have hup := upA_mp (get_app hI.bo [Blk.var false [.int .i64 j]]) ps[j] F
      have hb1 : b1[H.length + 3]? = some (.mp (mpE (putE ps[j] F es))) := List.getElem?_set_self (by simp; omega)
      have hk1 : ∀ x, x < b.length → x ≠ H.length + 3 → b1[x]? = b[x]? := fun x h1 h2 => by
        show ((b ++ _).set _ _)[x]? = _
        rw [List.getElem?_set_ne (fun e => h2 e.symm), List.getElem?_append_left h1]
      have hbb1 : b1[H.length + 1]? = some (.var true [.int .i64 u.k, .int .i64 u.v, .str u.nm, pv]) := by rw [hk1 _ (by omega) (by omega)]; exact hI.bb
      have hbe1 : b1[H.length + 2]? = some (.var false [pm]) := by rw [hk1 _ (by omega) (by omega)]; exact hI.be
      have hbn1 : b1[b.length]? = some (.var false [.int .i64 j]) := by
        show ((b ++ _).set _ _)[b.length]? = _
        rw [List.getElem?_set_ne (by omega)]; simp
      have hb1l : b1.length = b.length + 1 := by simp [b1]
      -- what numbers does
      obtain ⟨es', h179, hne, hff⟩ : ∃ es', doCall MX (callW MX) 179 [.hm (H.length + 3), .str ps[j], .agg fe, pm] b1 = some (.ret (.tup []), (b ++ [Blk.var false [.int .i64 j], .var false fe]).set (H.length + 3) (.mp (mpE es'))) ∧ (∀ q, q ≠ ps[j] → getE q es' = getE q es) ∧
          ∃ f, getE ps[j] es' = some f ∧ CloOK l lv (d + 1) (fun x => x < (b ++ [Blk.var false [.int .i64 j], .var false fe]).length ∧ x ≠ H.length + 3) ((b ++ [Blk.var false [.int .i64 j], .var false fe]).set (H.length + 3) (.mp (mpE es'))) f (repl params args u.ps[j]) := by
        obtain ⟨n2, n1, n0⟩ := c179 hfR hb1 ps[j] pm
        have hset : ∀ es'', (b1 ++ [Blk.var false fe]).set (H.length + 3) (.mp (mpE es'')) = (b ++ [Blk.var false [.int .i64 j], .var false fe]).set (H.length + 3) (.mp (mpE es'')) := fun es'' => by
          show ((b ++ _).set _ _ ++ _).set _ _ = _
          rw [set_app2 _ _ (by simp; omega)]
          simp
        have hkk : ∀ es'' x, x < b.length → x ≠ H.length + 3 → ((b ++ [Blk.var false [.int .i64 j], .var false fe]).set (H.length + 3) (.mp (mpE es'')))[x]? = b[x]? := fun es'' x h1 h2 => by
          rw [List.getElem?_set_ne (fun e => h2 e.symm), List.getElem?_append_left h1]
        have hkH : ∀ es'' x, S x → ((b ++ [Blk.var false [.int .i64 j], .var false fe]).set (H.length + 3) (.mp (mpE es'')))[x]? = H[x]? := fun es'' x hx => by
          have := hS x hx
          rw [hkk es'' x (by omega) (by omega)]
          exact hI.old x (hS x hx)
        have hSS : ∀ x, S x → x < (b ++ [Blk.var false [.int .i64 j], .var false fe]).length ∧ x ≠ H.length + 3 := fun x hx => by
          have := hS x hx
          simp; omega
        have hkind : (u.ps[j].k = 0 ∨ u.ps[j].k = 1 ∨ u.ps[j].k = 2) ∧ (u.ps[j].k ≠ 0 → (repl params args u.ps[j]).k = u.ps[j].k ∧ (repl params args u.ps[j]).v = u.ps[j].v) := by
          generalize u.ps[j] = t at hn0
          cases t with
          | mk k v nm qs =>
            rw [rNodeErr_zero] at hn0
            refine ⟨?_, fun h => ?_⟩
            · show k = 0 ∨ k = 1 ∨ k = 2
              have := hn0.1
              omega
            · have h : ¬ k = 0 := h
              simp only [repl, h, if_false]
              exact ⟨rfl, rfl⟩
        obtain ⟨hk3, hkv⟩ := hkind
        rcases hk3 with hk | hk | hk
        · -- a parameter
          obtain ⟨i', hi', hp', hti⟩ : ∃ i', ∃ hi : i' < params.length, params[i'] = u.ps[j].nm ∧ args[i']'(by omega) = repl params args u.ps[j] := by
            generalize u.ps[j] = t at hn0 hk
            cases t with
            | mk k v nm qs =>
              have hk : k = 0 := hk
              subst hk
              rw [rNodeErr_zero] at hn0
              have hne := hn0.2.1 rfl
              cases hf : params.findIdx? (fun x => x == nm) with
              | none => exact absurd hf hne
              | some i =>
                have hil := fi_lt hf
                have hnm : params[i] = nm := by
                  have h3 := hf
                  rw [List.findIdx?_eq_some_iff_getElem] at h3
                  exact beq_iff_eq.1 h3.2.1
                refine ⟨i, hil, hnm, ?_⟩
                simp only [repl, if_true, hf]
                rw [List.getD_eq_getElem?_getD, List.getElem?_eq_getElem (by omega)]
                rfl
          rcases hE with ⟨h0, _⟩ | ⟨id, es0, hid, rfl, hmp, hfn⟩
          · rw [h0] at hi'; cases hi'
          obtain ⟨f, hf, hC⟩ := hfn i' _ _ (List.getElem?_eq_getElem hi') (List.getElem?_eq_getElem (by omega))
          rw [hp'] at hf
          rw [hti] at hC
          have hidl := hS id hid
          have hmp1 : (b1 ++ [Blk.var false fe])[id]? = some (.mp (mpE es0)) := by
            rw [List.getElem?_append_left (by omega), hk1 id (by omega) (by omega), hI.old id hidl]
            exact hmp
          refine ⟨putE ps[j] f (putE ps[j] F es), by rw [n0 f hk (lkA_mp hmp1 hf), hset], fun q hq => by rw [getE_ne hq, getE_ne hq], f, getE_put _ _ _, ?_⟩
          exact CloOK.up d (CloOK.mono d hC hSS (hkH _))
        · -- a thunk
          refine ⟨putE ps[j] F es, by
            rw [n1 hk]
            show some (_, (b ++ _).set _ _ ++ _) = _
            rw [set_app1 _ (by simp; omega)]
            simp, fun q hq => getE_ne hq _ _, F, getE_put _ _ _, .inr ⟨by rw [(hkv (by omega)).1]; exact hk, H.length, H.length + 1, b.length, H.length + 2, false, true, false, false, u, _, pm, params, args, j, hju, rfl, ⟨by simp; omega, by omega⟩, ⟨by simp; omega, by omega⟩, ⟨by simp, by omega⟩, ⟨by simp; omega, by omega⟩, by rw [hkk _ _ (by omega) (by omega)]; exact hI.ba, by rw [hkk _ _ (by omega) (by omega)]; exact hI.bb, ?_, by rw [List.getElem?_set_ne (by omega)]; simp, by rw [hkk _ _ (by omega) (by omega)]; exact hI.be, hE.mono (fun f t h => CloOK.mono d h hSS (hkH _)) hSS (hkH _), hn0, hva, hln, rfl⟩⟩
          exact hu
        · -- a number
          refine ⟨putE ps[j] (.fn 198 [] [.hp b1.length 0]) (putE ps[j] F es), by rw [n2 hk, hset], fun q hq => by rw [getE_ne hq, getE_ne hq], _, getE_put _ _ _, .inl ⟨by rw [(hkv (by omega)).1]; exact hk, b1.length, false, u.ps[j], fe, rfl, ⟨by rw [hb1l]; simp, by omega⟩, ?_, hfR, (hkv (by omega)).2.symm⟩⟩
          rw [hb1l, List.getElem?_set_ne (by omega)]
          simp
      refine .inl ⟨((b ++ [Blk.var false [.int .i64 j], .var false fe]).set (H.length + 3) (.mp (mpE es')), es'), ?_, hI.step hnd (List.getElem?_eq_getElem hj) (List.getElem?_eq_getElem hju) hne hff⟩
      simp only [F] at hup
      have hcp := hE.cells
      obtain ⟨tv, rfl, htv⟩ := hfR.dest'
      obtain ⟨G, hG⟩ : ∃ G, G = b1 := ⟨_, rfl⟩
      have hG' : (b ++ [Blk.var false [.int .i64 j]]).set (H.length + 3) (.mp (mpE (putE ps[j] (.fn 178 [] [.hp H.length 0, .hp (H.length + 1) 0, .hp b.length 0, .hp (H.length + 2) 0]) es))) = G := hG.symm
      rw [hG'] at hup
      rw [← hG] at h179 hbb1 hbe1 hbn1
      simp [Tryz.f144, hj', hpe, hup, hw, hb13, hbb1, hbe1, hbn1, get_of hbb1, get_of hbe1, get_of hbn1, hfe, h179]) (fun b hI => by
      exact ⟨_, _, by simp [Tryz.f144] <;> first | exact ⟨rfl, rfl⟩ | rfl, by simp, b, rfl, hI⟩) (H ++ [Blk.var false [lv], .var true [.int .i64 u.k, .int .i64 u.v, .str u.nm, pv], .var false [pm], .mp []], []) ⟨fun x hx => List.getElem?_append_left hx, by simp, by simp, by simp, by simp [mpE], by simp, fun m p t h => by omega⟩
  obtain ⟨⟨b, es⟩, hq', hI⟩ := hq'
  cases hq'
  exact ⟨b, es, hlp, hI⟩
end
def RowsAt (N : Nat) (Q : Nat → Prop) (b : Heap) (w : AV) (ns : List Bytes) (ss : List (List Sh)) (k lo : Nat) : Prop := (k = 0 ∧ w = .nils) ∨ ∃ q es, k ≠ 0 ∧ ¬ Q q ∧ lo < q ∧ q < b.length ∧ w = .hs q k 2 0 k false ∧ b[q]? = some (.arr 2 false es) ∧ es.length = k ∧ ∀ (i : Nat) e nm parts, es[i]? = some e → ns[i]? = some nm → ss[i]? = some parts → ∃ pv, e = [.str nm, pv] ∧ PtAt (SrtAt N Q b) Q b pv parts
theorem RowsAt.cells {N : Nat} {Q : Nat → Prop} {b : Heap} {w : AV} {ns : List Bytes} {ss : List (List Sh)} {k lo : Nat} (h : RowsAt N Q b w ns ss k lo) : w.cells = some [w] := by
  rcases h with ⟨_, rfl⟩ | ⟨q, es, _, _, _, _, rfl, _⟩ <;> rfl
theorem RowsAt.mono {N : Nat} {Q Q' : Nat → Prop} {b b' : Heap} {w : AV} {ns : List Bytes} {ss : List (List Sh)} {k lo : Nat} (h : RowsAt N Q b w ns ss k lo) (hl : b.length ≤ b'.length) (hQ : ∀ x, Q x → Q' x) (hn : ∀ x es, Q' x → ¬ Q x → b[x]? = some (.arr 2 false es) → False) (hQb : ∀ x, Q x → b'[x]? = b[x]?) (ha : ∀ x es, lo < x → b[x]? = some (.arr 2 false es) → b'[x]? = b[x]?) : RowsAt N Q' b' w ns ss k lo := by
  rcases h with h | ⟨q, es, h0, h1, h2, h3, h4, h5, h6, h7⟩
  · exact .inl h
  · refine .inr ⟨q, es, h0, fun hq => hn q es hq h1 h5, h2, by omega, h4, by rw [ha q es h2 h5]; exact h5, h6, fun i e nm parts a c d => ?_⟩
    obtain ⟨pv, e1, e2⟩ := h7 i e nm parts a c d
    exact ⟨pv, e1, e2.mono (fun v s hv => SrtAt.mono N hv hQ hQb) hQ hQb⟩
theorem RowsAt.push {N : Nat} {Q : Nat → Prop} {b b1 : Heap} {w x : AV} {ns : List Bytes} {ss : List (List Sh)} {k lo : Nat} (h : RowsAt N Q b w ns ss k lo) (hQ : ∀ x, Q x → x < b.length) (hlo : lo < b.length) {nm : Bytes} {pv : AV} {parts : List Sh} (hx : b1 = b ∧ x = .sl 2 true [[.str nm, pv]] ∨ b1 = b ++ [.arr 2 false [[.str nm, pv]]] ∧ x = .hs b.length 1 2 0 1 false) (hk : ns[k]? = some nm) (hs : ss[k]? = some parts) (hp : PtAt (SrtAt N Q b) Q b pv parts) (hkl : k < 1048577) :
    ∃ w' b', apA 2 40 w x b1 = some (w', b') ∧ w'.cells = some [w'] ∧ RowsAt N Q b' w' ns ss (k + 1) lo ∧ b.length ≤ b'.length ∧ ∀ y, y < b.length → b'[y]? = b[y]? ∨ ∃ es, b[y]? = some (.arr 2 false es) ∧ ¬ Q y ∧ lo < y := by
  have hrd : rdElems b1 x = some [[.str nm, pv]] := by
    rcases hx with ⟨rfl, rfl⟩ | ⟨rfl, rfl⟩
    · rfl
    · simp [rdElems, beq_d, ble_d]
  have hsz : szOk 2 x = true := by rcases hx with ⟨_, rfl⟩ | ⟨_, rfl⟩ <;> simp [szOk, elemSz]
  have hnx : ∀ s, x ≠ .str s := fun s e => by rcases hx with ⟨_, h⟩ | ⟨_, h⟩ <;> rw [h] at e <;> cases e
  have hap : ∀ n, lenA w = some n → apA 2 40 w x b1 = apX 2 40 w [[.str nm, pv]] n b1 := fun n hn => by
    unfold apA
    cases x with
    | str s => exact absurd rfl (hnx s)
    | _ => first | simp only [hsz, hrd, hn] | (simp only [rdElems] at hrd; cases hrd)
  have hb1 : b.length ≤ b1.length ∧ ∀ y, y < b.length → b1[y]? = b[y]? := by
    rcases hx with ⟨rfl, _⟩ | ⟨rfl, _⟩
    · exact ⟨Nat.le_refl _, fun _ _ => rfl⟩
    · exact ⟨by simp, fun y hy => List.getElem?_append_left hy⟩
  obtain ⟨hb1l, hb1e⟩ := hb1
  rcases h with ⟨rfl, rfl⟩ | ⟨q, es, h0, h1, h2, h3, rfl, h5, h6, h7⟩
  · refine ⟨.hs b1.length 1 2 0 1 false, b1 ++ [.arr 2 false [[.str nm, pv]]], ?_, rfl, .inr ⟨b1.length, [[.str nm, pv]], by simp, fun hq => ?_, by omega, by simp, rfl, by simp, rfl, fun i e nm' parts' a c d => ?_⟩, by simp; omega, fun y hy => .inl ?_⟩
    · rw [hap 0 rfl]
      simp [apX, szOk, elemSz, newArr, beq_d, ble_d, blt_d]
    · have := hQ _ hq; omega
    · match i with
      | 0 =>
        simp only [List.getElem?_cons_zero, Option.some.injEq] at a
        rw [hk] at c
        rw [hs] at d
        cases c; cases d
        exact ⟨pv, a.symm, hp.mono (fun v s hv => SrtAt.mono N hv (fun _ h => h) (fun x hx => by rw [List.getElem?_append_left (by have := hQ x hx; omega)]; exact hb1e x (hQ x hx))) (fun _ h => h) (fun x hx => by rw [List.getElem?_append_left (by have := hQ x hx; omega)]; exact hb1e x (hQ x hx))⟩
      | i + 1 => simp at a
    · rw [List.getElem?_append_left (by omega)]
      exact hb1e y hy
  · have e2 : (k + 1) * 40 ≤ 17592186044416 := by omega
    have e3 : k + 1 ≤ 17592186044416 := by omega
    have h5' : b1[q]? = some (.arr 2 false es) := by rw [hb1e q h3]; exact h5
    have hpres : ∀ x, Q x → (b1.set q (.arr 2 false (es ++ [[.str nm, pv]])))[x]? = b[x]? := fun x hx => by
      rw [List.getElem?_set_ne (fun e => h1 (by rw [e]; exact hx))]
      exact hb1e x (hQ x hx)
    refine ⟨.hs q (k + 1) 2 0 (k + 1) false, b1.set q (.arr 2 false (es ++ [[.str nm, pv]])), ?_, rfl, .inr ⟨q, es ++ [[.str nm, pv]], by simp, h1, h2, by simp; omega, rfl, List.getElem?_set_self (by omega), by simp [h6], fun i e nm' parts' a c d => ?_⟩, by simp; omega, fun y hy => ?_⟩
    · rw [hap k rfl]
      have e4 : List.take k es = es := List.take_of_length_le (by omega)
      simp [apX, szOk, elemSz, newArr, beq_d, ble_d, blt_d, e2, e3, h5', h6, e4]
    · by_cases hi : i < es.length
      · rw [List.getElem?_append_left hi] at a
        obtain ⟨pv', e1, e2⟩ := h7 i e nm' parts' a c d
        exact ⟨pv', e1, e2.mono (fun v s hv => SrtAt.mono N hv (fun _ h => h) hpres) (fun _ h => h) hpres⟩
      · have hi2 : i = k := by
          have := (List.getElem?_eq_some_iff.1 a).1
          simp at this
          omega
        subst hi2
        rw [hk] at c
        rw [hs] at d
        cases c; cases d
        have a' : [.str nm, pv] = e := by rw [← h6] at a; simpa using a
        exact ⟨pv, a'.symm, hp.mono (fun v s hv => SrtAt.mono N hv (fun _ h => h) hpres) (fun _ h => h) hpres⟩
    · by_cases hyq : q = y
      · subst hyq; exact .inr ⟨es, h5, h1, h2⟩
      · exact .inl (by rw [List.getElem?_set_ne hyq]; exact hb1e y hy)
theorem CurS.done2 {n : Nat} {Q : Nat → Prop} {lo : Nat} {b : Heap} {pv : AV} {parts : List Sh} (h : CurS n Q lo b pv parts) : ∃ Q' : Nat → Prop, (∀ x, Q x → Q' x) ∧ (∀ x, Q' x → Q x ∨ lo ≤ x ∧ x < b.length ∧ ∃ es, b[x]? = some (.arr 1 false es)) ∧ PtAt (SrtAt n Q' b) Q' b pv parts := by
  rcases h with h | ⟨q, ptrs, h0, h1, h2, h3, h4, h5, h6, h7⟩
  · exact ⟨Q, fun _ h => h, fun x h => .inl h, .inl h⟩
  · refine ⟨fun x => Q x ∨ x = q, fun x h => .inl h, fun x hx => ?_, .inr ⟨q, ptrs, h0, .inr rfl, h4, h5, h6, fun k p s a c => ?_⟩⟩
    · rcases hx with hx | rfl
      · exact .inl hx
      · exact .inr ⟨h2, h3, ptrs, h5⟩
    · obtain ⟨v, e, f⟩ := h7 k p s a c
      exact ⟨v, e, SrtAt.mono n f (fun x h => .inl h) (fun _ _ => rfl)⟩
structure SI (K : Heap) (N : Nat) (Q : Nat → Prop) (b : Heap) (w : AV) (ns : List Bytes) (ss : List (List Sh)) (k : Nat) : Prop where
  ext : ∀ x, x < K.length → b[x]? = K[x]?
  o : b[K.length]? = some (.var false [.int .i64 0, w])
  len : K.length < b.length
  q : ∀ x, Q x → K.length < x ∧ x < b.length
  rows : RowsAt N Q b w ns ss k K.length
theorem fields144 {l : List DataV} {lv : AV} {d : Nat} {K : Heap} {a own : Nat} (ha : K[a]? = some (.var false [lv])) {ps : List Bytes} {args : List TyV} (hE : EnvAt (CloOK l lv d (fun x => x < K.length) K) (fun x => x < K.length) K (.hm own) ps args) (hva : ∀ x ∈ args, VT l x) (hln : ps.length = args.length)
    {fs : List FieldV} {fv : AV} (hfv : SlR FieldRep 5 fs fv) (hfl : fs.length < 1048577) (hfe : ∀ f ∈ fs, rNodeErr l ps f.ty = 0) {parts : List Sh} (hpl : parts.length = fs.length) {N : Nat} (hN : ∀ x ∈ parts, shD x ≤ N) (ih : ∀ (m : Nat) f x, fs[m]? = some f → parts[m]? = some x → SrtOK l lv d (repl ps args f.ty) x)
    {Q0 : Nat → Prop} {b0 : Heap} {w cv : AV} {ns : List Bytes} {ss : List (List Sh)} {k cl : Nat} (h0 : SI K N Q0 b0 w ns ss k) {c2 : Nat} {nm : Bytes} (hc2 : b0[c2]? = some (.var false [.str nm, .nils])) (hc2l : K.length < c2) (hc2q : ¬ Q0 c2) :
    ∃ (b : Heap) (Q : Nat → Prop) (pv : AV), loopH MX 144 118 (callW MX) (loopC Tryz.f144 2) ([(3, .hp a 0), (8, .hm own), (11, .hp K.length 0), (14, .hp c2 0), (79, cv), (80, .int .i64 cl), (81, .int .i64 k), (89, fv), (90, .int .i64 fs.length), (91, .int .i64 (0 : Nat))], b0) =
      some (.ext 5, ([(3, .hp a 0), (8, .hm own), (11, .hp K.length 0), (14, .hp c2 0), (79, cv), (80, .int .i64 cl), (81, .int .i64 k), (89, fv), (90, .int .i64 fs.length), (91, .int .i64 fs.length), (92, .bool false)], b)) ∧ SI K N Q b w ns ss k ∧ b[c2]? = some (.var false [.str nm, pv]) ∧ ¬ Q c2 ∧ CurS N Q (K.length + 1) b pv parts := by
  have hb23 := bef_144_23
  simp [opsF, opsAt, Tryz.f144] at hb23
  have hal := (List.getElem?_eq_some_iff.1 ha).1
  obtain ⟨e, st, hlp, hq⟩ := loop_up (M := MX) (fid := 144) (N := 118) (C := callW MX) (c := loopC Tryz.f144 2) (n := fs.length)
    (fun m (b : Heap) => ([(3, .hp a 0), (8, .hm own), (11, .hp K.length 0), (14, .hp c2 0), (79, cv), (80, .int .i64 cl), (81, .int .i64 k), (89, fv), (90, .int .i64 fs.length), (91, .int .i64 m)], b))
    (fun m b => ∃ Q pv, SI K N Q b w ns ss k ∧ b[c2]? = some (.var false [.str nm, pv]) ∧ ¬ Q c2 ∧ CurS N Q (K.length + 1) b pv (parts.take m))
    (fun r => ∃ b Q pv, r = (.ext 5, ([(3, .hp a 0), (8, .hm own), (11, .hp K.length 0), (14, .hp c2 0), (79, cv), (80, .int .i64 cl), (81, .int .i64 k), (89, fv), (90, .int .i64 fs.length), (91, .int .i64 fs.length), (92, .bool false)], b)) ∧ SI K N Q b w ns ss k ∧ b[c2]? = some (.var false [.str nm, pv]) ∧ ¬ Q c2 ∧ CurS N Q (K.length + 1) b pv parts) (fun m b hm hI => by
      obtain ⟨Q, pv, hS, hcon, hnq, hC⟩ := hI
      obtain ⟨fe, hfe', hR⟩ := hfv.ix hm
      have hm' := lt_cast hm
      have hw := wr_next hm hfl
      have hmp : m < parts.length := by omega
      obtain ⟨tx, rfl, htx⟩ := hR
      have hmem := List.getElem_mem hm
      have hcl := (List.getElem?_eq_some_iff.1 hcon).1
      have hKb := hS.len
      let b1 := b ++ [Blk.var false (.str fs[m].nm :: tx)]
      have hK1 : ∀ x, x < K.length → b1[x]? = K[x]? := fun x hx => by
        rw [List.getElem?_append_left (by omega)]; exact hS.ext x hx
      obtain ⟨v, H', hcall, hlen, hold, hsrt⟩ := ih m _ _ (List.getElem?_eq_getElem hm) (List.getElem?_eq_getElem hmp) fs[m].ty tx ps args (.hm own) (fun x => x < K.length) b1 htx (hfe _ hmem) hva hln rfl (fun x hx => by simp [b1]; omega) (hE.mono (fun f t h => CloOK.mono d h (fun _ h => h) hK1) (fun _ h => h) hK1)
      have hb1l : b1.length = b.length + 1 := by simp [b1]
      have hold' : ∀ x, x < b.length → H'[x]? = b[x]? := fun x hx => by
        rw [hold x (by omega)]; exact List.getElem?_append_left hx
      obtain ⟨id, hid⟩ := hsrt.hp
      have hQl : ∀ x, Q x → x < b.length := fun x hx => (hS.q x hx).2
      have hC1 : CurS N (fun x => Q x ∨ b.length + 1 ≤ x ∧ x < H'.length) (K.length + 1) H' pv (parts.take m) := hC.mono (by omega) (fun x h => .inl h) (fun x h h2 => by rcases h with h | h; exact absurd h h2; omega) (fun x hx => hold' x (hQl x hx)) (fun x es hx hbx => hold' x (List.getElem?_eq_some_iff.1 hbx).1)
      obtain ⟨pv', b2, k1, k2, k3, k4, k5⟩ := hC1.push (v := v) (s := parts[m]) (fun x hx => by rcases hx with hx | hx; have := hQl x hx; omega; omega) (by omega) (SrtAt.mono _ (hsrt.le (hN _ (List.getElem_mem hmp))) (fun x hx => .inr (by rw [hb1l] at hx; exact hx)) (fun _ _ => rfl)) (by rw [List.length_take]; omega)
      have htk : parts.take m ++ [parts[m]] = parts.take (m + 1) := by simp
      rw [htk] at k3
      have hconH : H'[c2]? = some (.var false [.str nm, pv]) := by rw [hold' c2 hcl]; exact hcon
      have hcon2 : b2[c2]? = some (.var false [.str nm, pv]) := by
        rcases k5 c2 (by omega) with h | ⟨_, h, _⟩
        · rw [h]; exact hconH
        · rw [hconH] at h; cases h
      have hlast := get_last b (Blk.var false (.str fs[m].nm :: tx))
      have ha1 : b1[a]? = some (.var false [lv]) := by rw [hK1 a hal]; exact ha
      have hcon1 : b1[c2]? = some (.var false [.str nm, pv]) := get_app hcon _
      have m1 : (c2 ∈ mods 0 b1 H') = False := mods_ne0 (by omega) (hold c2 (by omega))
      have hne : ¬ c2 = H'.length := by omega
      have hset : ∀ x, x ≠ c2 → (b2.set c2 (.var false [.str nm, pv']))[x]? = b2[x]? := fun x hx => List.getElem?_set_ne (fun e => hx e.symm)
      have hK2 : ∀ x, x ≤ K.length → b2[x]? = b[x]? := fun x hx => by
        rcases k5 x (by omega) with h | ⟨_, _, _, h⟩
        · rw [h]; exact hold' x (by omega)
        · omega
      have hQ2 : ∀ x, (Q x ∨ b.length + 1 ≤ x ∧ x < H'.length) → x ≠ c2 ∧ b2[x]? = H'[x]? := fun x hx => by
        refine ⟨fun e => ?_, ?_⟩
        · subst e
          rcases hx with h | h
          · exact hnq h
          · omega
        · have hxl : x < H'.length := by
            rcases hx with h | h
            · have := hQl x h; omega
            · exact h.2
          rcases k5 x hxl with h | ⟨_, _, h, _⟩
          · exact h
          · exact absurd hx h
      refine .inl ⟨b2.set c2 (.var false [.str nm, pv']), ?_, fun x => Q x ∨ b.length + 1 ≤ x ∧ x < H'.length, pv', ⟨fun x hx => ?_, ?_, by simp; omega, fun x hx => ?_, ?_⟩, ?_, ?_, ?_⟩
      · obtain ⟨qv, rfl, hqv⟩ := htx.dest'
        rw [hid] at hcall k1
        have hcc := hC.cells
        have hcallb : ∀ y, b1 = y → doCall MX (callW MX) 144 [lv, .agg [.int .i64 fs[m].ty.k, .int .i64 fs[m].ty.v, .str fs[m].ty.nm, qv], .hm own] y = some (.ret (.hp id 0), H') := fun y hy => hy ▸ hcall
        have hcall2 := hcallb _ rfl
        have ha2 : (b ++ [Blk.var false [.str fs[m].nm, .int .i64 fs[m].ty.k, .int .i64 fs[m].ty.v, .str fs[m].ty.nm, qv]])[a]? = some (.var false [lv]) := ha1
        have hc21 : (b ++ [Blk.var false [.str fs[m].nm, .int .i64 fs[m].ty.k, .int .i64 fs[m].ty.v, .str fs[m].ty.nm, qv]])[c2]? = some (.var false [.str nm, pv]) := hcon1
        have m1' : (c2 ∈ mods 0 (b ++ [Blk.var false [.str fs[m].nm, .int .i64 fs[m].ty.k, .int .i64 fs[m].ty.v, .str fs[m].ty.nm, qv]]) H') = False := m1
        simp only [b1] at hcall2
        simp [Tryz.f144, hm', hfe', hlast, get_of hlast, ha2, get_of ha2, hc21, get_of hc21, hcall2, hb23, m1', hne, hcc, bsA, fillE, List.replicate, newArr, noRefs, AV.noRef, k1, k2, hcon2, get_of hcon2, hw]
      · rw [hset x (by omega), hK2 x (by omega)]; exact hS.ext x hx
      · rw [hset _ (by omega), hK2 _ (by omega)]; exact hS.o
      · rcases hx with h | h
        · have := hS.q x h; simp; omega
        · simp; omega
      · refine hS.rows.mono (by simp; omega) (fun x h => .inl h) (fun x es h1 h2 h3 => ?_) (fun x hx => ?_) (fun x es hx hbx => ?_)
        · have := (List.getElem?_eq_some_iff.1 h3).1
          rcases h1 with h | h
          · exact h2 h
          · omega
        · obtain ⟨e1, e2⟩ := hQ2 x (.inl hx)
          rw [hset x e1, e2]; exact hold' x (hQl x hx)
        · have hxl := (List.getElem?_eq_some_iff.1 hbx).1
          have hxc : x ≠ c2 := fun e => by rw [e, hcon] at hbx; cases hbx
          rw [hset x hxc]
          rcases k5 x (by omega) with h | ⟨_, h, _⟩
          · rw [h]; exact hold' x hxl
          · rw [hold' x hxl, hbx] at h; cases h
      · exact List.getElem?_set_self (by omega)
      · rintro (h | h)
        · exact hnq h
        · omega
      · refine k3.mono (by simp) (fun _ h => h) (fun x h1 h2 => absurd h1 h2) (fun x hx => hset x (hQ2 x hx).1) (fun x es hx hbx => hset x (fun e => by rw [e, hcon2] at hbx; cases hbx))) (fun b hI => by
      obtain ⟨Q, pv, hS, hcon, hnq, hC⟩ := hI
      rw [List.take_of_length_le (by omega)] at hC
      exact ⟨_, _, by simp [Tryz.f144] <;> first | exact ⟨rfl, rfl⟩ | rfl, by simp, b, Q, pv, rfl, hS, hcon, hnq, hC⟩) b0 ⟨Q0, .nils, h0, hc2, hc2q, .inl ⟨by simp, rfl⟩⟩
  obtain ⟨b, Q, pv, hq, g1, g2, g3, g4⟩ := hq
  cases hq
  exact ⟨b, Q, pv, hlp, g1, g2, g3, g4⟩
theorem cons144 {l : List DataV} {lv : AV} {d : Nat} {K : Heap} {a own : Nat} (ha : K[a]? = some (.var false [lv])) {ps : List Bytes} {args : List TyV} (hE : EnvAt (CloOK l lv d (fun x => x < K.length) K) (fun x => x < K.length) K (.hm own) ps args) (hva : ∀ x ∈ args, VT l x) (hln : ps.length = args.length)
    {cs : List ConV} {cv : AV} (hcv : SlR ConRep 2 cs cv) (hcl : cs.length < 1048577) (hfl : ∀ c ∈ cs, c.fields.length < 1048577) (hfe : ∀ c ∈ cs, ∀ f ∈ c.fields, rNodeErr l ps f.ty = 0) {ss : List (List Sh)} (hss : ss.length = cs.length) (hsp : ∀ (i : Nat) c s, cs[i]? = some c → ss[i]? = some s → s.length = c.fields.length) {N : Nat} (hN : ∀ s ∈ ss, ∀ x ∈ s, shD x ≤ N)
    (ih : ∀ (i : Nat) c s (m : Nat) f x, cs[i]? = some c → ss[i]? = some s → c.fields[m]? = some f → s[m]? = some x → SrtOK l lv d (repl ps args f.ty) x) :
    ∃ (b : Heap) (Q : Nat → Prop) (w : AV), loopH MX 144 118 (callW MX) (loopC Tryz.f144 1) ([(3, .hp a 0), (8, .hm own), (11, .hp K.length 0), (79, cv), (80, .int .i64 cs.length), (81, .int .i64 (0 : Nat))], K ++ [Blk.var false [.int .i64 0, .nils]]) =
      some (.ext 3, ([(3, .hp a 0), (8, .hm own), (11, .hp K.length 0), (79, cv), (80, .int .i64 cs.length), (81, .int .i64 cs.length), (82, .bool false)], b)) ∧ SI K N Q b w (cs.map (·.nm)) ss cs.length := by
  have hb25 := bef_144_25
  simp [opsF, opsAt, Tryz.f144] at hb25
  obtain ⟨e, st, hlp, hq⟩ := loop_up (M := MX) (fid := 144) (N := 118) (C := callW MX) (c := loopC Tryz.f144 1) (n := cs.length)
    (fun k (b : Heap) => ([(3, .hp a 0), (8, .hm own), (11, .hp K.length 0), (79, cv), (80, .int .i64 cs.length), (81, .int .i64 k)], b))
    (fun k b => ∃ Q w, SI K N Q b w (cs.map (·.nm)) ss k)
    (fun r => ∃ b Q w, r = (.ext 3, ([(3, .hp a 0), (8, .hm own), (11, .hp K.length 0), (79, cv), (80, .int .i64 cs.length), (81, .int .i64 cs.length), (82, .bool false)], b)) ∧ SI K N Q b w (cs.map (·.nm)) ss cs.length) (fun k b hk hI => by
      obtain ⟨Q, w, hS⟩ := hI
      obtain ⟨ce, hce, hR⟩ := hcv.ix hk
      have hk' := lt_cast hk
      have hw := wr_next hk hcl
      have hks : k < ss.length := by omega
      obtain ⟨fv, rfl, hfv⟩ := hR.dest
      have hmem := List.getElem_mem hk
      have hcg := List.getElem?_eq_getElem hk
      have hsg := List.getElem?_eq_getElem hks
      have hlen := hS.len
      obtain ⟨b0, hb0⟩ : ∃ b0, b0 = b ++ [Blk.var false [.str cs[k].nm, fv], Blk.var false [.str cs[k].nm, .nils]] := ⟨_, rfl⟩
      have hb0l : b0.length = b.length + 2 := by rw [hb0]; simp
      have hb0o : ∀ x, x < b.length → b0[x]? = b[x]? := fun x hx => by rw [hb0]; exact List.getElem?_append_left hx
      have hS0 : SI K N Q b0 w (cs.map (·.nm)) ss k := ⟨fun x hx => by rw [hb0o x (by omega)]; exact hS.ext x hx, by rw [hb0o _ (by omega)]; exact hS.o, by omega, fun x hx => by have := hS.q x hx; omega, hS.rows.mono (by omega) (fun _ h => h) (fun x es h1 h2 => absurd h1 h2) (fun x hx => hb0o x (hS.q x hx).2) (fun x es _ hbx => hb0o x (List.getElem?_eq_some_iff.1 hbx).1)⟩
      have hc2 : b0[b.length + 1]? = some (.var false [.str cs[k].nm, .nils]) := by rw [hb0]; simp
      obtain ⟨b', Q', pv, f1, g1, g2, g3, g4⟩ := fields144 ha hE hva hln hfv (hfl _ hmem) (hfe _ hmem) (hsp k _ _ hcg hsg) (hN _ (List.getElem_mem hks)) (fun m f x h1 h2 => ih k _ _ m f x hcg hsg h1 h2) (cv := cv) (cl := cs.length) hS0 hc2 (by omega) (fun h => by have := (hS.q _ h).2; omega)
      have hcc := g4.cells
      obtain ⟨Q2, q1, q2, q3⟩ := g4.done2
      have g2l := (List.getElem?_eq_some_iff.1 g2).1
      have glen := g1.len
      have hQ2 : ∀ x, Q2 x → K.length < x ∧ x < b'.length := fun x hx => by
        rcases q2 x hx with h | ⟨h1, h2, _⟩
        · exact g1.q x h
        · omega
      have hrows := g1.rows.mono (Q' := Q2) (Nat.le_refl _) q1 (fun x es h1 h2 h3 => by
        rcases q2 x h1 with h | ⟨_, _, es', h⟩
        · exact h2 h
        · rw [h] at h3; cases h3) (fun _ _ => rfl) (fun _ _ _ _ => rfl)
      have hwc := hrows.cells
      simp [Tryz.f144, hb0] at f1
      have hlast0 : (b ++ [Blk.var false [.str cs[k].nm, fv]])[b.length]? = some (.var false [.str cs[k].nm, fv]) := get_last _ _
      have hlast1 : (b ++ [Blk.var false [.str cs[k].nm, fv], Blk.var false [.str cs[k].nm, .nils]])[b.length]? = some (.var false [.str cs[k].nm, fv]) := by simp
      have hne : ¬ K.length = b'.length := by omega
      -- with the row x
      have fin : ∀ (x : AV) (b1 : Heap) , (b1 = b' ∧ x = .sl 2 true [[.str cs[k].nm, pv]] ∨ b1 = b' ++ [.arr 2 false [[.str cs[k].nm, pv]]] ∧ x = .hs b'.length 1 2 0 1 false) → ∃ w' b'', apA 2 40 w x b1 = some (w', b'') ∧ w'.cells = some [w'] ∧ b''[K.length]? = some (.var false [.int .i64 0, w]) ∧ SI K N Q2 (b''.set K.length (.var false [.int .i64 0, w'])) w' (cs.map (·.nm)) ss (k + 1) := by
        intro x b1 hx
        obtain ⟨w', b'', p1, p2, p3, p4, p5⟩ := hrows.push (fun x hx => (hQ2 x hx).2) glen hx (by rw [List.getElem?_map, hcg]; rfl) hsg q3 (by omega)
        have hset : ∀ y, y ≠ K.length → (b''.set K.length (.var false [.int .i64 0, w']))[y]? = b''[y]? := fun y hy => List.getElem?_set_ne (fun e => hy e.symm)
        refine ⟨w', b'', p1, p2, ?_, fun y hy => ?_, List.getElem?_set_self (by omega), by simp; omega, fun y hy => ?_, ?_⟩
        · rcases p5 K.length (by omega) with h | ⟨_, h, _⟩
          · rw [h]; exact g1.o
          · rw [g1.o] at h; cases h
        · rw [hset y (by omega)]
          rcases p5 y (by omega) with h | ⟨_, _, _, h⟩
          · rw [h]; exact g1.ext y hy
          · omega
        · have := hQ2 y hy
          simp; omega
        · exact p3.mono (by simp) (fun _ h => h) (fun y es h1 h2 => absurd h1 h2) (fun y hy => hset y (by have := (hQ2 y hy).1; omega)) (fun y es hy _ => hset y (by omega))
      have go := g1.o
      cases hpn : pv.noRef with
      | true =>
        obtain ⟨w', b'', p1, p2, p3, p4⟩ := fin _ _ (.inl ⟨rfl, rfl⟩)
        exact .inl ⟨b''.set K.length (.var false [.int .i64 0, w']), by simp [Tryz.f144, hk', hce, hlast0, hlast1, hfv.cells, hfv.len, f1, hw, go, get_of go, g2, get_of g2, hb25, hcc, hwc, hpn, bsA, fillE, List.replicate, noRefs, AV.noRef, p1, p2, p3, get_of p3], Q2, w', p4⟩
      | false =>
        obtain ⟨w', b'', p1, p2, p3, p4⟩ := fin _ _ (.inr ⟨rfl, rfl⟩)
        exact .inl ⟨b''.set K.length (.var false [.int .i64 0, w']), by simp [Tryz.f144, hk', hce, hlast0, hlast1, hfv.cells, hfv.len, f1, hw, go, get_of go, g2, get_of g2, hb25, hcc, hwc, hpn, hne, newArr, bsA, fillE, List.replicate, noRefs, AV.noRef, p1, p2, p3, get_of p3], Q2, w', p4⟩) (fun b hI => by
      obtain ⟨Q, w, hS⟩ := hI
      exact ⟨_, _, by simp [Tryz.f144] <;> first | exact ⟨rfl, rfl⟩ | rfl, by simp, b, Q, w, rfl, hS⟩) (K ++ [Blk.var false [.int .i64 0, .nils]]) ⟨fun _ => False, .nils, ⟨fun x hx => List.getElem?_append_left hx, by simp, by simp, fun x h => h.elim, .inl ⟨rfl, rfl⟩⟩⟩
  obtain ⟨b, Q, w, hq, hS⟩ := hq
  cases hq
  exact ⟨b, Q, w, hlp, hS⟩
section
variable {l : List DataV} {lv : AV} (hl : SlR DataRep 3 l lv) (hll : l.length < 1048577)
include hl hll
theorem bool144 {u : TyV} {xs : List AV} {pm : AV} (hpm : pm.cells = some [pm]) {H : Heap} (hu : TyRep u xs) (hk : u.k = 1) (hb : (u.nm == bitS) = false) (hf : l.findIdx? (fun d => d.nm == u.nm) = none) {ss : List (List Sh)} (hs2 : ss.length = 2) (hs0 : ∀ s ∈ ss, s = []) :
    ∃ v H', doCall MX (callW MX) 144 [lv, .agg xs, pm] H = some (.ret v, H') ∧ H.length ≤ H'.length ∧ (∀ x, x < H.length → H'[x]? = H[x]?) ∧ SrtAt (shD (.cons [falseS, trueS] ss)) (fun x => H.length ≤ x ∧ x < H'.length) H' v (.cons [falseS, trueS] ss) := by
  obtain ⟨pv, rfl, hpv⟩ := hu.dest'
  have h175 := ix144 hl hll (pm := pm) hpv H
  rw [hf] at h175
  simp only [ixI] at h175
  have h0 : (u.k == 0) = false := by simp [hk]
  have hbn : (u.nm == [66, 105, 116]) = false := hb
  refine ⟨.hp (H.length + 3) 0, H ++ [Blk.var false [lv], .var true [.int .i64 u.k, .int .i64 u.v, .str u.nm, pv], .var false [pm], .var false [.int .i64 0, .sl 2 true [[.str falseS, .nils], [.str trueS, .nils]]]], openC mode_144 eff_144 ?_, by simp, fun x hx => List.getElem?_append_left hx, ?_⟩
  · simp [runW, Tryz.f144, hl.cells, hpm, h0, hbn, h175, bsA, fillE, List.replicate, noRefs, AV.noRef, falseS, trueS]
  · refine ⟨_, rfl, ⟨by omega, by simp⟩, _, [[.str falseS, .nils], [.str trueS, .nils]], by simp, rfl, by rw [hs2]; rfl, .inl rfl, fun k e nm parts h1 h2 h3 => ?_⟩
    have hp0 := hs0 parts (List.mem_of_getElem? h3)
    match k with
    | 0 => simp at h1 h2; subst h1; subst h2; exact ⟨.nils, rfl, .inl ⟨hp0, rfl⟩⟩
    | 1 => simp at h1 h2; subst h1; subst h2; exact ⟨.nils, rfl, .inl ⟨hp0, rfl⟩⟩
    | k + 2 => simp at h1
theorem data144 (hsl : SmL 1048577 l) {d : Nat} {u : TyV} {xs : List AV} {params : List Bytes} {args : List TyV} {pm : AV} {S : Nat → Prop} {H : Heap} (hu : TyRep u xs) (hk : u.k = 1) (hb : (u.nm == bitS) = false) (hua : ∀ t ∈ u.ps, rNodeErr l params t = 0) (hva : ∀ a ∈ args, VT l a) (hln : params.length = args.length) (hS : ∀ x, S x → x < H.length) (hE : EnvAt (CloOK l lv d S H) S H pm params args)
    {i : Nat} (hi : i < l.length) (hf : l.findIdx? (fun d => d.nm == u.nm) = some i) (hnd : l[i].params.Nodup) (hps : l[i].params.length = u.ps.length) (hva' : ∀ x ∈ u.ps.map (repl params args), VT l x) (hfe : ∀ c ∈ l[i].cons, ∀ f ∈ c.fields, rNodeErr l l[i].params f.ty = 0) {ss : List (List Sh)} (hss : ss.length = l[i].cons.length) (hsp : ∀ (j : Nat) c s, l[i].cons[j]? = some c → ss[j]? = some s → s.length = c.fields.length)
    (hne : l[i].cons ≠ []) (ih : ∀ (j : Nat) c s (m : Nat) f x, l[i].cons[j]? = some c → ss[j]? = some s → c.fields[m]? = some f → s[m]? = some x → SrtOK l lv (d + 1) (repl l[i].params (u.ps.map (repl params args)) f.ty) x) :
    ∃ v H', doCall MX (callW MX) 144 [lv, .agg xs, pm] H = some (.ret v, H') ∧ H.length ≤ H'.length ∧ (∀ x, x < H.length → H'[x]? = H[x]?) ∧ SrtAt (shD (.cons (l[i].cons.map (·.nm)) ss)) (fun x => H.length ≤ x ∧ x < H'.length) H' v (.cons (l[i].cons.map (·.nm)) ss) := by
  have hcp := hE.cells
  have hu0 := hu
  obtain ⟨pv, rfl, hpv⟩ := hu.dest'
  have h175 := ix144 hl hll (pm := pm) hpv H
  rw [hf] at h175
  simp only [ixI] at h175
  have h0 : (u.k == 0) = false := by simp [hk]
  have hbn : (u.nm == [66, 105, 116]) = false := hb
  obtain ⟨dx, hdx, hdR⟩ := hl.ix hi
  obtain ⟨qv, cv, rfl, hq, hcv⟩ := hdR.dest
  have hsd := hsl.2 _ (List.getElem_mem hi)
  obtain ⟨K, es, f1, hP⟩ := params144 hl (i := i) hu0 hpv hS hE hua hva hln hq hnd hps hsd.2.1
  have hE' : EnvAt (CloOK l lv (d + 1) (fun x => x < K.length) K) (fun x => x < K.length) K (.hm (H.length + 3)) l[i].params (u.ps.map (repl params args)) := by
    have hle := hP.le
    refine .inr ⟨H.length + 3, es, by omega, rfl, hP.bo, fun m p t h1 h2 => ?_⟩
    rw [List.getElem?_map, Option.map_eq_some_iff] at h2
    obtain ⟨t0, h2, rfl⟩ := h2
    obtain ⟨f, g1, g2⟩ := hP.ent m p t0 (List.getElem?_eq_some_iff.1 h1).1 h1 h2
    exact ⟨f, g1, CloOK.mono _ g2 (fun x hx => hx.1) (fun _ _ => rfl)⟩
  obtain ⟨b, Q, w, f2, hSI⟩ := cons144 hP.ba hE' hva' (by simp [hps]) hcv hsd.2.2.2.1 (fun c hc => (hsd.2.2.2.2 c hc).2.1) hfe hss hsp (N := shDss ss) (fun s hs x hx => shDss_mem hx hs) ih
  have hle := hP.le
  have hlen := hSI.len
  have hext : ∀ x, x < H.length → b[x]? = H[x]? := fun x hx => by rw [hSI.ext x (by omega)]; exact hP.old x hx
  refine ⟨.hp K.length 0, b, openC mode_144 eff_144 ?_, by omega, hext, ?_⟩
  · have hni : ¬ ((i : Int) < 0) := by omega
    have hba := hP.ba
    have hba2 := get_app hba [Blk.var false [.int .i64 0, .nils]]
    simp [Tryz.f144] at f1 f2
    have hd := hdx .i64
    simp [runW, Tryz.f144, hl.cells, hcp, h0, hbn, h175, hni, hd, hq.len, hcv.len, f1, f2, hba, get_of hba, hba2, get_of hba2]
  · rcases hSI.rows with ⟨h, _⟩ | ⟨q, es', h1, h2, h3, h4, rfl, h6, h7, h8⟩
    · exact absurd (List.eq_nil_of_length_eq_zero h) hne
    · have ho := hSI.o
      refine ⟨K.length, rfl, ⟨by omega, by omega⟩, _, es', ho, by rw [h7]; simp, by rw [hss]; simp, .inr ⟨q, ⟨by omega, h4⟩, by rw [h7], h6⟩, fun k e nm parts a c e' => ?_⟩
      obtain ⟨pv', e1, e2⟩ := h8 k e nm parts a c e'
      have hQ : ∀ x, Q x → H.length ≤ x ∧ x < b.length := fun x hx => by have := hSI.q x hx; omega
      exact ⟨pv', e1, e2.mono (fun v s hv => SrtAt.mono _ hv hQ (fun _ _ => rfl)) hQ (fun _ _ => rfl)⟩
theorem c144 (hsl : SmL 1048577 l) (hd : DV l) (hnd : ∀ d ∈ l, d.params.Nodup) {t : TyV} {s : Sh} (hs : IsSh l t s) : VT l t → ∀ d, SrtOK l lv d t s := by
  induction hs with
  | bit t hb hw h2 =>
    intro hv d
    induction d using Nat.strongRecOn with
    | ind d ihd =>
      intro u xs params args pm S H hu hnu hva hln hr hS hE
      have ht : t.k = 1 := by simp only [isBit, Bool.and_eq_true, decide_eq_true_eq] at hb; exact hb.1
      by_cases hk : u.k = 0
      · exact var144 hl ht ihd hu hk hnu hln hr hS hE
      · have hkn : u.k = 1 ∧ u.nm = bitS := by
          cases u with
          | mk k v nm ps =>
            have hk : ¬ k = 0 := hk
            simp only [repl, hk, if_false] at hr
            subst hr
            simp only [isBit, Bool.and_eq_true, decide_eq_true_eq, beq_iff_eq] at hb
            exact hb
        exact bit144 hl hll hu hkn.1 hkn.2 hnu hln hr h2 hS hE
  | cons t ns ss hb hk hn hln' hsp hf ih =>
    intro hv d
    induction d using Nat.strongRecOn with
    | ind d ihd =>
      intro u xs params args pm S H hu hnu hva hln hr hS hE
      have ht : t.k = 1 := by rcases hv.kind with h | h; exact h; exact absurd h hk
      by_cases hk0 : u.k = 0
      · exact var144 hl ht ihd hu hk0 hnu hln hr hS hE
      · have hcp := hE.cells
        have hkn : u.k = 1 ∧ (u.nm == bitS) = false ∧ t.nm = u.nm ∧ t.ps = u.ps.map (repl params args) ∧ rCount l 1 u.nm = some u.ps.length ∧ ∀ t ∈ u.ps, rNodeErr l params t = 0 := by
          cases u with
          | mk k v nm ps =>
            have hk0 : ¬ k = 0 := hk0
            simp only [repl, hk0, if_false] at hr
            subst hr
            have ht : k = 1 := ht
            subst ht
            rw [rNodeErr_zero] at hnu
            refine ⟨rfl, ?_, rfl, ?_, hnu.2.2.1, hnu.2.2.2.2⟩
            · have e : isBit (.mk 1 v nm (repls params args ps)) = (nm == bitS) := by
                show (decide ((1 : Int) = 1) && (nm == bitS)) = (nm == bitS)
                simp
              exact e.symm.trans hb
            · exact repls_map params args ps
        obtain ⟨hk1, hbn, htn, htp, hrc, hua⟩ := hkn
        simp only [rCount, if_true, hbn, Bool.false_eq_true, if_false] at hrc
        cases hbo : (u.nm == boolS) with
        | true =>
          have hcons : consOf l t = [⟨falseS, []⟩, ⟨trueS, []⟩] := by simp only [consOf, htn, hbo, if_true]
          have hfn : l.findIdx? (fun d => d.nm == u.nm) = none := by
            rw [List.findIdx?_eq_none_iff]
            intro x hx
            rw [beq_iff_eq.1 hbo]
            exact (hd.nms x hx).2
          rw [hcons] at hn hln' hsp
          subst hn
          have hs0 : ∀ s ∈ ss, s = [] := fun s hs => by
            obtain ⟨i, hi, rfl⟩ := List.mem_iff_getElem.1 hs
            have hi2 : i < 2 := by simp at hln'; omega
            have := hsp i _ _ (List.getElem?_eq_getElem (by simpa using hi2)) (List.getElem?_eq_getElem hi)
            have h01 : i = 0 ∨ i = 1 := by omega
            rcases h01 with rfl | rfl <;> exact List.eq_nil_of_length_eq_zero this
          exact bool144 hl hll hcp hu hk1 hbn hfn hln' hs0
        | false =>
          rw [hbo] at hrc
          simp only [Bool.false_eq_true, if_false] at hrc
          rw [Option.map_eq_some_iff] at hrc
          obtain ⟨i, hfi, hpl⟩ := hrc
          have hi := fi_lt hfi
          have hgd : l.getD i default = l[i] := by simp [hi]
          rw [hgd] at hpl
          have hcons : consOf l t = l[i].cons.map (replC l[i].params (u.ps.map (repl params args))) := by
            simp only [consOf, htn, hbo, hfi, hgd, htp]; rfl
          have hne : l[i].cons ≠ [] := fun e => by
            have := (hd.con t hv hk hb).2.1
            rw [hcons, e] at this
            exact this rfl
          have hns : ns = l[i].cons.map (·.nm) := by
            rw [hn, hcons, List.map_map]
            rfl
          subst hns
          have hva' : ∀ x ∈ u.ps.map (repl params args), VT l x := fun x hx => by
            obtain ⟨y, hy, rfl⟩ := List.mem_map.1 hx
            exact rNodeErr_repl hva (by omega) y (hua y hy)
          have hcg : ∀ (j : Nat) c, l[i].cons[j]? = some c → (consOf l t)[j]? = some (replC l[i].params (u.ps.map (repl params args)) c) := fun j c h => by
            rw [hcons, List.getElem?_map, h]; rfl
          refine data144 hl hll hsl hu hk1 hbn hua hva hln hS hE hi hfi (hnd _ (List.getElem_mem hi)) hpl hva' (hd.flds _ (List.getElem_mem hi)) (by rw [hln', hcons]; simp) (fun j c s h1 h2 => ?_) hne (fun j c s m f x h1 h2 h3 h4 => ?_)
          · have := hsp j _ s (hcg j c h1) h2
            simpa [replC] using this
          · have h3' : (replC l[i].params (u.ps.map (repl params args)) c).fields[m]? = some ⟨f.nm, repl l[i].params (u.ps.map (repl params args)) f.ty⟩ := by
              simp only [replC, List.getElem?_map, h3, Option.map_some]
            have hvf := hd.dok.fld t hv hk hb _ (List.mem_of_getElem? (hcg j c h1)) _ (List.mem_of_getElem? h3')
            exact ih j _ s m _ x (hcg j c h1) h2 h3' h4 hvf (d + 1)
end
def WV (H : Heap) (w : AV) (es : List (List AV)) : Prop := (w = .nils ∧ es = []) ∨ w = .sl 2 true es ∨ ∃ j, w = .hs j es.length 2 0 es.length false ∧ H[j]? = some (.arr 2 false es)
theorem WV.app {H : Heap} {w : AV} {es : List (List AV)} (h : WV H w es) (X : Heap) : WV (H ++ X) w es := by
  rcases h with h | h | ⟨j, h1, h2⟩
  · exact .inl h
  · exact .inr (.inl h)
  · exact .inr (.inr ⟨j, h1, get_app h2 X⟩)
theorem WV.len {H : Heap} {w : AV} {es : List (List AV)} (h : WV H w es) (G : Heap) : lenSl w G = some (.val (.int .i64 es.length) G) := by
  rcases h with ⟨rfl, rfl⟩ | rfl | ⟨j, rfl, _⟩ <;> rfl
theorem WV.cells {H : Heap} {w : AV} {es : List (List AV)} (h : WV H w es) : w.cells = some [w] := by
  rcases h with ⟨rfl, rfl⟩ | rfl | ⟨j, rfl, _⟩ <;> rfl
theorem WV.row {H : Heap} {w : AV} {es : List (List AV)} (h : WV H w es) {i : Nat} (hi : i < es.length) : ∃ p, ixA 2 w (.int .i64 i) = some p ∧ ∀ X, rdCells (H ++ X) p = some es[i] := by
  rcases h with ⟨rfl, rfl⟩ | rfl | ⟨j, rfl, h⟩
  · cases hi
  · exact ⟨.ro es[i], ixA_sl _ _ _ _ .i64 hi, fun X => rfl⟩
  · refine ⟨.ep j es.length 2 i 0, by rw [ixA_hs (kd := .i64) (hi := hi), Nat.zero_add], fun X => ?_⟩
    have := get_app h X
    simp [rd_ep, this, beq_d, hi]
theorem c200 {H : Heap} {b : Nat} {lk : Bool} {nm n : Bytes} {pv : AV} (hb : H[b]? = some (.var lk [.str nm])) : doCall MX (callW MX) 200 [.agg [.str n, pv], .hp b 0] H = some (.ret (.bool (n == nm)), H ++ [.var false [.str n, pv]]) := by
  have hb' := get_app hb [Blk.var false [.str n, pv]]
  exact openC mode_200 eff_200 (by simp [runW, Tryz.f200, hb'])
theorem c199 {H : Heap} {w : AV} {es : List (List AV)} (hw : WV H w es) {ns : List Bytes} (hes : es.length = ns.length) (hln : ns.length < 1048577) (hrow : ∀ (k : Nat) e nm, es[k]? = some e → ns[k]? = some nm → ∃ pv, e = [.str nm, pv]) {b : Nat} {lk : Bool} {nm : Bytes} (hb : H[b]? = some (.var lk [.str nm])) :
    ∃ X, doCall MX (callW MX) 199 [w, .fn 200 [] [.hp b 0]] H = some (.ret (.int .i64 (ixI (ns.findIdx? (fun x => x == nm)))), H ++ X) := by
  have hlen := hw.len
  rw [hes] at hlen
  obtain ⟨e, st, hlp, hq⟩ := loop_up (M := MX) (fid := 199) (N := 19) (C := callW MX) (c := loopC Tryz.f199 0) (n := ns.length) (fun i (X : Heap) => ([(0, w), (1, .fn 200 [] [.hp b 0]), (7, .int .i64 ns.length), (8, .int .i64 i)], H ++ X)) (fun i _ => ∀ j (hj : j < ns.length), j < i → (fun x => x == nm) ns[j] = false)
    (fun r => ∃ X : Heap, (r = (.ext 0, ([(0, w), (1, .fn 200 [] [.hp b 0]), (7, .int .i64 ns.length), (8, .int .i64 ns.length), (9, .bool false)], H ++ X)) ∧ ns.findIdx? (fun x => x == nm) = none) ∨ (∃ i : Nat, r = (.ret, ([(4, .int .i64 i)], H ++ X)) ∧ ns.findIdx? (fun x => x == nm) = some i)) (fun i X hi hI => by
      have hi' := lt_cast hi
      have hwi := wr_next hi hln
      have hie : i < es.length := by omega
      obtain ⟨p, hp, hrd⟩ := hw.row hie
      obtain ⟨pv, he⟩ := hrow i _ _ (List.getElem?_eq_getElem hie) (List.getElem?_eq_getElem hi)
      rw [he] at hrd
      have hcall := c200 (n := ns[i]) (pv := pv) (get_app hb X)
      have hrd' := hrd X
      cases hx : (ns[i] == nm) with
      | true => rw [hx] at hcall; exact .inr ⟨_, _, by simp [Tryz.f199, hi', hp, hrd', hcall] <;> exact ⟨rfl, rfl⟩, by simp, X ++ [.var false [.str ns[i], pv]], .inr ⟨i, by simp, fi_some (p := (fun x => x == nm)) hi hI hx⟩⟩
      | false => rw [hx] at hcall; exact .inl ⟨X ++ [.var false [.str ns[i], pv]], by simp [Tryz.f199, hi', hp, hrd', hcall, hwi], fi_step (p := (fun x => x == nm)) hi hI hx⟩) (fun X hI => by
      exact ⟨_, _, by simp [Tryz.f199] <;> exact ⟨rfl, rfl⟩, by simp, X, .inl ⟨rfl, fi_none (p := (fun x => x == nm)) fun j hj => hI j hj hj⟩⟩) [] (fun j _ h0 => by omega)
  simp [Tryz.f199] at hlp
  obtain ⟨X, hq⟩ := hq
  rcases hq with ⟨hq, hs⟩ | ⟨i, hq, hs⟩ <;> cases hq <;> exact ⟨X, openC mode_199 eff_199 (by simp [runW, Tryz.f199, hlen, hlp, hs, ixI])⟩
theorem c182 {H : Heap} {id : Nat} {m : Int} {w : AV} {es : List (List AV)} (hid : H[id]? = some (.var false [.int .i64 m, w])) (hw : WV H w es) {ns : List Bytes} (hes : es.length = ns.length) (hln : ns.length < 1048577) (hrow : ∀ (k : Nat) e nm, es[k]? = some e → ns[k]? = some nm → ∃ pv, e = [.str nm, pv]) (nm : Bytes) :
    ∃ X, doCall MX (callW MX) 182 [.hp id 0, .str nm] H = some (.ret (.int .i64 (ixI (ns.findIdx? (fun x => x == nm)))), H ++ X) := by
  obtain ⟨X, hc⟩ := c199 (hw.app [Blk.var false [.str nm]]) hes hln hrow (b := H.length) (lk := false) (nm := nm) (get_last _ _)
  have hid' := get_app hid [Blk.var false [.str nm]]
  exact ⟨[.var false [.str nm]] ++ X, openC mode_182 eff_182 (by simp [runW, Tryz.f182, hid', hc])⟩
theorem c116 {H : Heap} {id : Nat} {m : Int} {w : AV} {es : List (List AV)} (hid : H[id]? = some (.var false [.int .i64 m, w])) (hw : WV H w es) : doCall MX (callW MX) 116 [.hp id 0] H = some (.ret (.bool (es.length == 0)), H) := by
  have hl := hw.len
  have he : ((es.length : Int) == 0) = (es.length == 0) := by
    cases h : es.length with
    | zero => rfl
    | succ n =>
      have : (((n + 1 : Nat) : Int) == 0) = false := by simp; omega
      rw [this]; rfl
  exact openC mode_116 eff_116 (by simp [runW, Tryz.f116, hid, hl, he])
theorem shl16 (m : Int) (h0 : 1 ≤ m) (h1 : m ≤ 16) : shiftBin .shl .i64 1 m = some (.int .i64 ((2 ^ m.toNat : Nat) : Int)) := by
  have : m = 1 ∨ m = 2 ∨ m = 3 ∨ m = 4 ∨ m = 5 ∨ m = 6 ∨ m = 7 ∨ m = 8 ∨ m = 9 ∨ m = 10 ∨ m = 11 ∨ m = 12 ∨ m = 13 ∨ m = 14 ∨ m = 15 ∨ m = 16 := by omega
  rcases this with rfl | rfl | rfl | rfl | rfl | rfl | rfl | rfl | rfl | rfl | rfl | rfl | rfl | rfl | rfl | rfl <;> rfl
theorem PtAt.len {R : AV → Sh → Prop} {S : Nat → Prop} {H : Heap} {pv : AV} {parts : List Sh} (h : PtAt R S H pv parts) : (∀ G, lenSl pv G = some (.val (.int .i64 parts.length) G)) ∧ Go.Am.kdLen (some pv) = .st ∧ pv.cells = some [pv] := by
  rcases h with ⟨rfl, rfl⟩ | ⟨q, ptrs, _, _, rfl, _⟩ <;> exact ⟨fun _ => rfl, rfl, rfl⟩
theorem SrtAt.blk {n : Nat} {S : Nat → Prop} {H : Heap} {v : AV} {s : Sh} (h : SrtAt (n + 1) S H v s) : ∃ id m w es, v = .hp id 0 ∧ H[id]? = some (.var false [.int .i64 m, w]) ∧ WV H w es ∧
    match s with
    | .bit k => m = k ∧ es = []
    | .cons ns ss => es.length = ns.length ∧ ss.length = ns.length ∧ ∀ (k : Nat) e nm parts, es[k]? = some e → ns[k]? = some nm → ss[k]? = some parts → ∃ pv, e = [.str nm, pv] ∧ PtAt (SrtAt n S H) S H pv parts := by
  cases s with
  | bit k =>
    obtain ⟨id, rfl, _, h2⟩ := h
    exact ⟨id, k, .nils, [], rfl, h2, .inl ⟨rfl, rfl⟩, rfl, rfl⟩
  | cons ns ss =>
    obtain ⟨id, rfl, _, w, es, h2, h3, h4, h5, h6⟩ := h
    refine ⟨id, 0, w, es, rfl, h2, ?_, h3, h4, h6⟩
    rcases h5 with h | ⟨j, _, h, hj⟩
    · exact .inr (.inl h)
    · exact .inr (.inr ⟨j, h, hj⟩)
theorem parts147 {G : Heap} {id i : Nat} {m : Int} {w : AV} {es : List (List AV)} (hid : G[id]? = some (.var false [.int .i64 m, w])) (hw : WV G w es) {nm : Bytes} {pv : AV} (hei : es[i]? = some [.str nm, pv]) {n : Nat} {S : Nat → Prop} {parts : List Sh} (hS : ∀ x, S x → x < G.length) (hP : PtAt (SrtAt n S G) S G pv parts)
    {ps : List TyV} {qv : AV} (hq : SlR TyRep 4 ps qv) (hpl : ps.length < 1048577) (hlen : ps.length = parts.length) (ih : ∀ (k : Nat) (hk : k < ps.length) (hk2 : k < parts.length) (px : List AV) (v : AV) (X : Heap), TyRep ps[k] px → SrtAt n S G v parts[k] → ∃ X', doCall MX (callW MX) 147 [v, .agg px] (G ++ X) = some (.ret (.int .i64 (pErr parts[k] ps[k])), G ++ X ++ X')) (X0 : Heap) :
    ∃ (X : Heap) (r : Ex × St), loopH MX 147 98 (callW MX) (loopC Tryz.f147 0) ([(0, .hp id 0), (6, .int .i64 i), (74, qv), (75, .int .i64 ps.length), (76, .int .i64 (0 : Nat))], G ++ X0) = some r ∧
      (r = (.ext 1, ([(0, .hp id 0), (6, .int .i64 i), (74, qv), (75, .int .i64 ps.length), (76, .int .i64 ps.length), (77, .bool false)], G ++ X)) ∧ pErrs parts ps = 0 ∨ r = (.ret, ([(4, .int .i64 (pErrs parts ps))], G ++ X)) ∧ pErrs parts ps ≠ 0) := by
  have hb18 := bef_147_18
  simp [opsF, opsAt, Tryz.f147] at hb18
  have hie := (List.getElem?_eq_some_iff.1 hei).1
  have hei' : es[i] = [.str nm, pv] := (List.getElem?_eq_some_iff.1 hei).2
  obtain ⟨e, st, hlp, hq'⟩ := loop_up (M := MX) (fid := 147) (N := 98) (C := callW MX) (c := loopC Tryz.f147 0) (n := ps.length)
    (fun k (X : Heap) => ([(0, .hp id 0), (6, .int .i64 i), (74, qv), (75, .int .i64 ps.length), (76, .int .i64 k)], G ++ X))
    (fun k X => pErrs parts ps = pErrs (parts.drop k) (ps.drop k))
    (fun r => ∃ X, r = (.ext 1, ([(0, .hp id 0), (6, .int .i64 i), (74, qv), (75, .int .i64 ps.length), (76, .int .i64 ps.length), (77, .bool false)], G ++ X)) ∧ pErrs parts ps = 0 ∨ r = (.ret, ([(4, .int .i64 (pErrs parts ps))], G ++ X)) ∧ pErrs parts ps ≠ 0) (fun k X hk hI => by
      have hk' := lt_cast hk
      have hwk := wr_next hk hpl
      have hk2 : k < parts.length := by omega
      obtain ⟨fe, hfe, hR⟩ := hq.ix hk
      rw [pErrs_drop hk hk2] at hI
      rcases hP with ⟨rfl, rfl⟩ | ⟨q, ptrs, h0, h1, rfl, h3, h4, h5⟩
      · simp at hk2
      · have hkp : k < ptrs.length := by omega
        obtain ⟨v, hv, hs⟩ := h5 k ptrs[k] parts[k] (List.getElem?_eq_getElem hkp) (List.getElem?_eq_getElem hk2)
        have hpk : ptrs[k]? = some [v] := by rw [List.getElem?_eq_getElem hkp, hv]
        obtain ⟨X', hc⟩ := ih k hk hk2 fe v (X ++ [Blk.var false fe]) hR hs
        obtain ⟨tv, rfl, htv⟩ := hR.dest'
        have hix : ixA 1 (.hs q parts.length 1 0 parts.length false) (.int .i64 k) = some (.ep q parts.length 1 k 0) := by
          rw [ixA_hs (kd := .i64) (hi := hk2), Nat.zero_add]
        have hid' := get_app hid (X ++ [Blk.var false [.int .i64 ps[k].k, .int .i64 ps[k].v, .str ps[k].nm, tv]])
        have hq3 := get_app h3 (X ++ [Blk.var false [.int .i64 ps[k].k, .int .i64 ps[k].v, .str ps[k].nm, tv]])
        have hlast : (G ++ (X ++ [Blk.var false [.int .i64 ps[k].k, .int .i64 ps[k].v, .str ps[k].nm, tv]]))[G.length + X.length]? = some (.var false [.int .i64 ps[k].k, .int .i64 ps[k].v, .str ps[k].nm, tv]) := by
          rw [← List.append_assoc, ← List.length_append]; exact get_last _ _
        have e1 : G ++ (X ++ [Blk.var false [.int .i64 ps[k].k, .int .i64 ps[k].v, .str ps[k].nm, tv]]) ++ X' = G ++ (X ++ ([Blk.var false [.int .i64 ps[k].k, .int .i64 ps[k].v, .str ps[k].nm, tv]] ++ X')) := by simp
        rw [e1] at hc
        have key : ∀ z : Int, (pErr parts[k] ps[k] = z) → (z = 0 → codeW MX 147 98 (callW MX) (loopC Tryz.f147 0) ([(0, .hp id 0), (6, .int .i64 i), (74, qv), (75, .int .i64 ps.length), (76, .int .i64 k)], G ++ X) = some (.nrm, ([(0, .hp id 0), (6, .int .i64 i), (74, qv), (75, .int .i64 ps.length), (76, .int .i64 (k + 1 : Nat))], G ++ (X ++ ([Blk.var false [.int .i64 ps[k].k, .int .i64 ps[k].v, .str ps[k].nm, tv]] ++ X'))))) ∧
            (z ≠ 0 → codeW MX 147 98 (callW MX) (loopC Tryz.f147 0) ([(0, .hp id 0), (6, .int .i64 i), (74, qv), (75, .int .i64 ps.length), (76, .int .i64 k)], G ++ X) = some (.ret, ([(4, .int .i64 z)], G ++ (X ++ ([Blk.var false [.int .i64 ps[k].k, .int .i64 ps[k].v, .str ps[k].nm, tv]] ++ X'))))) := by
          intro z hz
          rw [hz] at hc
          rcases hw with ⟨rfl, rfl⟩ | rfl | ⟨j, rfl, hj⟩
          · cases hie
          · have hixw : ixA 2 (.sl 2 true es) (.int .i64 i) = some (.ro [.str nm, .hs q parts.length 1 0 parts.length false]) := by rw [ixA_sl _ _ _ _ .i64 hie, hei']
            refine ⟨fun h => ?_, fun h => ?_⟩
            · subst h
              simp [Tryz.f147, hk', hfe, hid', get_of hid', hixw, hix, hq3, get_of hq3, h4, hpk, hlast, get_of hlast, hc, hb18, hwk]
            · have hzb : (z != 0) = true := by simp [h]
              simp [Tryz.f147, hk', hfe, hid', get_of hid', hixw, hix, hq3, get_of hq3, h4, hpk, hlast, get_of hlast, hc, hb18, hzb]
          · have hixw : ixA 2 (.hs j es.length 2 0 es.length false) (.int .i64 i) = some (.ep j es.length 2 i 0) := by rw [ixA_hs (kd := .i64) (hi := hie), Nat.zero_add]
            have hj' := get_app hj (X ++ [Blk.var false [.int .i64 ps[k].k, .int .i64 ps[k].v, .str ps[k].nm, tv]])
            refine ⟨fun h => ?_, fun h => ?_⟩
            · subst h
              simp [Tryz.f147, hk', hfe, hid', get_of hid', hixw, hj', get_of hj', hei, hix, hq3, get_of hq3, h4, hpk, hlast, get_of hlast, hc, hb18, hwk]
            · have hzb : (z != 0) = true := by simp [h]
              simp [Tryz.f147, hk', hfe, hid', get_of hid', hixw, hj', get_of hj', hei, hix, hq3, get_of hq3, h4, hpk, hlast, get_of hlast, hc, hb18, hzb]
        obtain ⟨k1, k2⟩ := key _ rfl
        by_cases hz : pErr parts[k] ps[k] = 0
        · rw [if_pos hz] at hI
          exact .inl ⟨_, k1 hz, hI⟩
        · rw [if_neg hz] at hI
          exact .inr ⟨_, _, k2 hz, by simp, _, .inr ⟨by rw [hI], by rw [hI]; exact hz⟩⟩) (fun X hI => by
      rw [List.drop_length] at hI
      exact ⟨_, _, by simp [Tryz.f147] <;> first | exact ⟨rfl, rfl⟩ | rfl, by simp, X, .inl ⟨rfl, by rw [hI]; simp [pErrs]⟩⟩) X0 (by simp)
  obtain ⟨X, hq'⟩ := hq'
  exact ⟨X, _, hlp, hq'⟩
theorem c147 {l : List DataV} (hd : DV l) (p : TyV) : ∀ (px : List AV), TyRep p px → Sm 1048577 p → ∀ (n : Nat) (s : Sh) (t : TyV) (S : Nat → Prop) (H : Heap) (v : AV) (X : Heap), (∀ x, S x → x < H.length) → SrtAt n S H v s → IsSh l t s → VT l t →
    ∃ X', doCall MX (callW MX) 147 [v, .agg px] (H ++ X) = some (.ret (.int .i64 (pErr s p)), H ++ X ++ X') := by
  induction p using TyV.ind with
  | h k pv nm ps ih =>
    intro px hpx hsp n s t S H v X hS hs hsh hvt
    obtain ⟨s1, s2, s3⟩ := hsp.dest
    cases n with
    | zero => exact hs.elim
    | succ n =>
      have hsG : SrtAt (n + 1) S (H ++ X) v s := SrtAt.mono _ hs (fun _ h => h) (fun x hx => List.getElem?_append_left (hS x hx))
      have hSG : ∀ x, S x → x < (H ++ X).length := fun x hx => by have := hS x hx; simp; omega
      generalize H ++ X = G at hsG hSG
      clear hs hS X H
      obtain ⟨id, m, w, es, rfl, hid, hw, hsd⟩ := hsG.blk
      obtain ⟨qv, rfl, hq⟩ := hpx.dest
      have hleaf : (((ps.length : Int) == 0) = true → ps = []) := fun h => by
        have : ps.length = 0 := by simpa using h
        exact List.eq_nil_of_length_eq_zero this
      have hid' := get_app hid [Blk.var false [.int .i64 k, .int .i64 pv, .str nm, qv]]
      have hw' := hw.app [Blk.var false [.int .i64 k, .int .i64 pv, .str nm, qv]]
      have hlast := get_last G (Blk.var false [.int .i64 k, .int .i64 pv, .str nm, qv])
      have hnm := c180 nm s1
      have h116 := c116 hid' hw'
      have hlz : ((ps.length : Int) == 0) = decide (ps.length = 0) := by
        rw [Bool.eq_iff_iff]; simp
      have hb8 := bef_147_8
      simp [opsF, opsAt, Tryz.f147] at hb8
      have hb13 := bef_147_13
      simp [opsF, opsAt, Tryz.f147] at hb13
      by_cases k0 : k = 0
      · have e : pErr s (.mk k pv nm ps) = if ps.length = 0 then 0 else 10 := by
          subst k0
          simp only [pErr, if_true]
          by_cases hp : ps.length = 0 <;> simp [hp] <;> omega
        rw [e]
        have k0b : (k == 0) = true := by simp [k0]
        exact ⟨_, openC mode_147 eff_147 (by simp [runW, Tryz.f147, hq.len, hlz, k0b] <;> rfl)⟩
      have k0b : (k == 0) = false := by simp [k0]
      by_cases k1 : k = 1
      · have e : pErr s (.mk k pv nm ps) = firstOf [if ps.length = 0 then 0 else 10, if isNameS nm then 0 else 4] := by
          subst k1
          simp only [pErr]
          by_cases hp : ps.length = 0 <;> cases hn : isNameS nm <;> simp [hp, firstOf, hn]
          all_goals (have : 0 < ps.length := by omega) <;> simp [this]
        rw [e]
        have k1b : (k == 1) = true := by simp [k1]
        exact ⟨_, openC mode_147 eff_147 (by simp [runW, Tryz.f147, hq.len, hlz, k0b, k1b, hnm, bsA, fillE, List.replicate, noRefs, AV.noRef] <;> rfl)⟩
      have k1b : (k == 1) = false := by simp [k1]
      by_cases k3 : k = 3
      · have k3b : (k == 3) = true := by simp [k3]
        cases hsh with
        | bit _ hbt hwd _ =>
          obtain ⟨rfl, rfl⟩ := hsd
          obtain ⟨P, hP⟩ : ∃ P : Nat, P = 2 ^ (argOf t).v.toNat := ⟨_, rfl⟩
          have hsl := shl16 _ hwd.1 hwd.2
          have hPb : P ≤ 65536 := by
            rw [hP]
            exact Nat.le_trans (Nat.pow_le_pow_right (by decide) (show (argOf t).v.toNat ≤ 16 by omega)) (by decide)
          have hPp : 0 < P := by rw [hP]; exact Nat.pow_pos (by decide)
          have e : pErr (.bit (argOf t).v) (.mk k pv nm ps) = firstOf [0, if ps.length = 0 then 0 else 10, if 0 ≤ pv ∧ pv ≤ (P : Int) - 1 then 0 else 2] := by
            subst k3
            simp only [pErr, hP]
            by_cases hp : ps.length = 0
            · simp [hp, firstOf]
            · have : 0 < ps.length := by omega
              simp [hp, this, firstOf]
          rw [e]
          rw [← hP] at hsl
          have hwp : wr .i64 ((P : Int) - 1) = (P : Int) - 1 := wr_i64 (by omega) (by omega)
          simp at h116
          exact ⟨_, openC mode_147 eff_147 (by simp [runW, Tryz.f147, hq.len, hlz, k0b, k1b, k3b, h116, hid', get_of hid', hlast, hsl, hwp, hb8, mods_same, bsA, fillE, List.replicate, noRefs, AV.noRef] <;> rfl)⟩
        | cons _ ns ss hbt hk2 hn hln hsp' hf =>
          obtain ⟨he1, he2, he3⟩ := hsd
          have e : pErr (.cons ns ss) (.mk k pv nm ps) = 26 := by subst k3; simp [pErr]
          rw [e]
          have hne : 0 < es.length := by
            have := (hd.con t hvt hk2 hbt).2.1
            rw [he1, hn, List.length_map]
            exact List.length_pos_iff.2 this
          have heb : (es.length == 0) = false := by simp; intro h; rw [h] at hne; simp at hne
          rw [heb] at h116
          exact ⟨_, openC mode_147 eff_147 (by simp [runW, Tryz.f147, hq.len, hlz, k0b, k1b, k3b, h116, hid', get_of hid', hlast, hb8, mods_same, firstOf, bsA, fillE, List.replicate, noRefs, AV.noRef] <;> rfl)⟩
      have k3b : (k == 3) = false := by simp [k3]
      by_cases k2 : k = 2
      · have k2b : (k == 2) = true := by simp [k2]
        cases hsh with
        | bit _ hbt hwd _ =>
          obtain ⟨rfl, rfl⟩ := hsd
          have e : pErr (.bit (argOf t).v) (.mk k pv nm ps) = 6 := by subst k2; simp [pErr]
          rw [e]
          obtain ⟨X1, h182⟩ := c182 hid' hw' (ns := []) rfl (by simp) (fun k e nm h => by simp at h) nm
          simp [ixI] at h182
          exact ⟨_, openC mode_147 eff_147 (by simp [runW, Tryz.f147, hq.len, hlz, k0b, k1b, k3b, k2b, h182] <;> rfl)⟩
        | cons _ ns ss hbt hk2 hn hln hsp' hf =>
          obtain ⟨he1, he2, he3⟩ := hsd
          have hco := hd.con t hvt hk2 hbt
          have hnl : ns.length = (consOf l t).length := by rw [hn, List.length_map]
          obtain ⟨X1, h182⟩ := c182 hid' hw' he1 (by rw [hnl]; have := hco.1; omega) (fun k e nm' h1 h2 => by
            have hks : k < ss.length := by have := (List.getElem?_eq_some_iff.1 h2).1; omega
            obtain ⟨pv', e, _⟩ := he3 k e nm' _ h1 h2 (List.getElem?_eq_getElem hks)
            exact ⟨pv', e⟩) nm
          cases hfi : ns.findIdx? (fun x => x == nm) with
          | none =>
            rw [hfi] at h182
            simp [ixI] at h182
            have e : pErr (.cons ns ss) (.mk k pv nm ps) = 6 := by subst k2; simp [pErr, hfi]
            rw [e]
            exact ⟨_, openC mode_147 eff_147 (by simp [runW, Tryz.f147, hq.len, hlz, k0b, k1b, k3b, k2b, h182] <;> rfl)⟩
          | some i =>
            rw [hfi] at h182
            simp only [ixI] at h182
            have hin := fi_lt hfi
            have his : i < ss.length := by omega
            have hie : i < es.length := by omega
            have hic : i < (consOf l t).length := by omega
            obtain ⟨rv, hrow, hP⟩ := he3 i es[i] ns[i] ss[i] (List.getElem?_eq_getElem hie) (List.getElem?_eq_getElem hin) (List.getElem?_eq_getElem his)
            have hei : es[i]? = some [.str ns[i], rv] := by rw [List.getElem?_eq_getElem hie, hrow]
            obtain ⟨hpl1, hpl2, hpl3⟩ := hP.len
            have hgd : ss.getD i [] = ss[i] := by simp [his]
            have hgd' : ss[i]?.getD [] = ss[i] := by simp [his]
            have hsl := hsp' i _ _ (List.getElem?_eq_getElem hic) (List.getElem?_eq_getElem his)
            have hni : ¬ ((i : Int) < 0) := by omega
            let B := Blk.var false [.int .i64 k, .int .i64 pv, .str nm, qv]
            have hidX := get_app hid ([B] ++ X1)
            have hlX : (G ++ ([B] ++ X1))[G.length]? = some B := by
              rw [List.getElem?_append_right (Nat.le_refl _)]; simp
            simp only [B, List.cons_append, List.nil_append] at hidX hlX
            by_cases hpl : ps.length = ss[i].length
            · -- its parts
              have e : pErr (.cons ns ss) (.mk k pv nm ps) = pErrs ss[i] ps := by
                subst k2; simp [pErr, hfi, hgd, hgd', hpl]
              rw [e]
              obtain ⟨X2, r, f1, f2⟩ := parts147 hid hw hei hSG hP hq s2 hpl (fun j hj hj2 px v X hR hv => by
                have hjf : j < (consOf l t)[i].fields.length := by omega
                have h1 := hf i _ _ j _ _ (List.getElem?_eq_getElem hic) (List.getElem?_eq_getElem his) (List.getElem?_eq_getElem hjf) (List.getElem?_eq_getElem hj2)
                exact ih ps[j] (List.getElem_mem hj) px hR (s3 _ (List.getElem_mem hj)) n ss[i][j] _ S G v X hSG hv h1 (hd.dok.fld t hvt hk2 hbt _ (List.getElem_mem hic) _ (List.getElem_mem hjf))) ([B] ++ X1)
              simp only [B, List.cons_append, List.nil_append] at f1
              simp [Tryz.f147] at f1
              have hpb : ((ps.length : Int) != (ss[i].length : Int)) = false := by rw [hpl]; simp
              have fin : ∀ z, (r = (.ext 1, ([(0, .hp id 0), (6, .int .i64 i), (74, qv), (75, .int .i64 ps.length), (76, .int .i64 ps.length), (77, .bool false)], G ++ X2)) ∧ z = 0 ∨ r = (.ret, ([(4, .int .i64 z)], G ++ X2)) ∧ z ≠ 0) → runW MX 147 [.hp id 0, .agg [.int .i64 k, .int .i64 pv, .str nm, qv]] G = some (.ret (.int .i64 z), G ++ X2) := by
                intro z hz
                rcases hw with ⟨rfl, rfl⟩ | rfl | ⟨j, rfl, hj⟩
                · cases hie
                · have hixw : ixA 2 (.sl 2 true es) (.int .i64 i) = some (.ro [.str ns[i], rv]) := by rw [ixA_sl _ _ _ _ .i64 hie, hrow]
                  rcases hz with ⟨rfl, rfl⟩ | ⟨rfl, hz⟩ <;> simp [runW, Tryz.f147, hq.len, hq.kdLen, hlz, k0b, k1b, k3b, k2b, h182, hni, hidX, get_of hidX, hlX, get_of hlX, hixw, hpl1, hpl2, hpb, hb13, f1]
                · have hixw : ixA 2 (.hs j es.length 2 0 es.length false) (.int .i64 i) = some (.ep j es.length 2 i 0) := by rw [ixA_hs (kd := .i64) (hi := hie), Nat.zero_add]
                  have hjX := get_app hj ([B] ++ X1)
                  simp only [B, List.cons_append, List.nil_append] at hjX
                  rcases hz with ⟨rfl, rfl⟩ | ⟨rfl, hz⟩ <;> simp [runW, Tryz.f147, hq.len, hq.kdLen, hlz, k0b, k1b, k3b, k2b, h182, hni, hidX, get_of hidX, hlX, get_of hlX, hixw, hjX, get_of hjX, hei, hpl1, hpl2, hpb, hb13, f1]
              exact ⟨X2, openC mode_147 eff_147 (fin _ f2)⟩
            · have e : pErr (.cons ns ss) (.mk k pv nm ps) = 10 := by
                subst k2; simp [pErr, hfi, hgd, hgd', hpl]
              rw [e]
              have hpb : ((ps.length : Int) != (ss[i].length : Int)) = true := by simp; omega
              refine ⟨[B] ++ X1, openC mode_147 eff_147 ?_⟩
              simp only [B, List.cons_append, List.nil_append]
              rcases hw with ⟨rfl, rfl⟩ | rfl | ⟨j, rfl, hj⟩
              · cases hie
              · have hixw : ixA 2 (.sl 2 true es) (.int .i64 i) = some (.ro [.str ns[i], rv]) := by rw [ixA_sl _ _ _ _ .i64 hie, hrow]
                simp [runW, Tryz.f147, hq.len, hq.kdLen, hlz, k0b, k1b, k3b, k2b, h182, hni, hidX, get_of hidX, hlX, get_of hlX, hixw, hpl1, hpl2, hpb, hb13]
              · have hixw : ixA 2 (.hs j es.length 2 0 es.length false) (.int .i64 i) = some (.ep j es.length 2 i 0) := by rw [ixA_hs (kd := .i64) (hi := hie), Nat.zero_add]
                have hjX := get_app hj ([B] ++ X1)
                simp only [B, List.cons_append, List.nil_append] at hjX
                simp [runW, Tryz.f147, hq.len, hq.kdLen, hlz, k0b, k1b, k3b, k2b, h182, hni, hidX, get_of hidX, hlX, get_of hlX, hixw, hjX, get_of hjX, hei, hpl1, hpl2, hpb, hb13]
      · have k2b : (k == 2) = false := by simp [k2]
        have e : pErr s (.mk k pv nm ps) = 15 := by simp [pErr, k0, k1, k2, k3]
        rw [e]
        exact ⟨_, openC mode_147 eff_147 (by simp [runW, Tryz.f147, hq.len, hlz, k0b, k1b, k3b, k2b] <;> rfl)⟩
end Go.Proofs.Am12
namespace Go.Proofs.Am12
open Go Go.Am
theorem dups_iff : ∀ (l prev : List Bytes), dups prev l = false ↔ l.Nodup ∧ ∀ x ∈ l, x ∉ prev
  | [], prev => by simp [dups]
  | x :: r, prev => by
    have hx : (prev.findIdx? (fun y => y == x)).isSome = decide (x ∈ prev) := by
      rw [List.findIdx?_isSome, Bool.eq_iff_iff, List.any_eq_true, decide_eq_true_iff]
      exact ⟨fun ⟨y, hy, e⟩ => beq_iff_eq.1 e ▸ hy, fun h => ⟨x, h, beq_self_eq_true x⟩⟩
    simp only [dups, Bool.or_eq_false_iff, hx, decide_eq_false_iff_not, dups_iff r, List.nodup_cons, List.mem_append, List.mem_singleton, List.forall_mem_cons, not_or]
    constructor
    · rintro ⟨h1, h2, h3⟩
      exact ⟨⟨fun h => (h3 x h).2 rfl, h2⟩, h1, fun y hy => (h3 y hy).1⟩
    · rintro ⟨⟨h1, h2⟩, h3, h4⟩
      exact ⟨h3, h2, fun y hy => ⟨h4 y hy, fun e => h1 (e ▸ hy)⟩⟩
def sortS (l : List Bytes) : List Bytes := l.mergeSort fun x y => decide (x ≤ y)
theorem sortS_perm (l : List Bytes) : (sortS l).Perm l := List.mergeSort_perm l _
theorem sortS_len (l : List Bytes) : (sortS l).length = l.length := (sortS_perm l).length_eq
theorem sortS_le (l : List Bytes) : (sortS l).Pairwise (· ≤ ·) := by
  have := List.pairwise_mergeSort (le := fun x y : Bytes => decide (x ≤ y)) (fun a b c h k => by
    simp only [decide_eq_true_eq] at *; exact List.le_trans h k) (fun a b => by
    rw [Bool.or_eq_true, decide_eq_true_eq, decide_eq_true_eq]; exact List.le_total a b) l
  exact this.imp fun h => by simpa using h
theorem compact_nodup {s : List Bytes} (hs : s.Pairwise (· ≤ ·)) : (Lib.compact s).length = s.length ↔ s.Nodup := by
  have hk : (Lib.compact s).length = s.length ↔ ∀ j, j < s.length → Lib.keeps s.toArray j = true := by
    unfold Lib.compact Lib.compactUpTo
    rw [List.length_map]
    have := @List.length_filter_eq_length_iff _ (Lib.keeps s.toArray) (List.range s.length)
    rw [List.length_range] at this
    rw [this]
    exact ⟨fun h j hj => h j (List.mem_range.2 hj), fun h j hj => h j (List.mem_range.1 hj)⟩
  rw [hk]
  have hg : ∀ j (hj : j < s.length), s.toArray[j]! = s[j] := fun j hj => by simp [getElem!_pos, hj]
  constructor
  · intro h
    unfold List.Nodup
    rw [List.pairwise_iff_getElem]
    intro i j hi hj hij e
    rw [List.pairwise_iff_getElem] at hs
    have h1 := h (i + 1) (by omega)
    simp only [Lib.keeps, decide_eq_true_eq] at h1
    rcases h1 with h1 | h1
    · omega
    rw [hg (i + 1) (by omega), Nat.add_sub_cancel, hg i hi] at h1
    apply h1
    have a1 : s[i] ≤ s[i + 1] := hs i (i + 1) hi (by omega) (by omega)
    by_cases hj1 : i + 1 = j
    · subst hj1; exact e.symm
    · have a2 : s[i + 1] ≤ s[j] := hs (i + 1) j (by omega) hj (by omega)
      rw [← e] at a2
      exact List.le_antisymm a2 a1
  · intro h j hj
    simp only [Lib.keeps, decide_eq_true_eq]
    by_cases h0 : j = 0
    · exact .inl h0
    · refine .inr fun e => ?_
      rw [hg j hj, hg (j - 1) (by omega)] at e
      exact List.pairwise_iff_getElem.1 h (j - 1) j (by omega) hj (by omega) e.symm
theorem compact_dups (l : List Bytes) : ((Lib.compact (sortS l)).length = l.length) ↔ dups [] l = false := by
  rw [← sortS_len l, compact_nodup (sortS_le l), (sortS_perm l).nodup_iff, dups_iff]
  simp
end Go.Proofs.Am12
namespace Go.Proofs.Am12
open Go Go.Am
attribute [local simp] cw_skip cw_region cw_seq cw_cond cw_block cw_loop cw_exit cw_ret regionA runOps wantedA opEx xVal xPick xAlloc xBox xBuild xBuildSlice xLoad xStore xNil xBin xUn xConv xIface xFunc xMakeSlice xSlice xFieldAddr xField xIndexAddr xIndex xLookup xUpdate xExtract xBuiltin xPanic xCall
  ev evs ofVal ofCell OR.ofV OR.ofVH OR.ofC putD Tm.get Tm.init Tm.only beq_d ble_d blt_d finish resultA resA binA intBin strBin unA cells_int cells_bool cells_str cells_nilp cells_ro cells_hp cells_ep cells_nils cells_sl cells_hs cells_nilm cells_hm cells_fn cells_nilf cells_agg loopC loopsIn lenSl_nils lenSl_sl lenSl_hs lenSt_str faA_ro faA_hp faA_ep ld1_def ldN_def takeA rd_ro rd_hp rd_ep stA spliceAt zipFst fillC kdRead blkOf noCh okDraw_ld okDraw_l okPairsL loudS kdSh
set_option maxHeartbeats 1000000
attribute [local simp] okDraw_k okPairsM loudOf kdClash mods_at0 mods_at1 mods_at2 mods_at3 mods_at4 mods_at5 mods_at6 kd_move kd_assign kd_pick kd_build kd_nil kd_bin kd_un kd_iface kd_func kd_slice kd_fieldAddr kd_field kd_indexAddr kd_index kd_extract kd_load kd_lookup kd_len kd_max kd_min kd_append kd_callv kd_alloc kd_box kd_bs kd_map kd_ms kd_cv kd_store kd_mapUpdate kd_insert kdLen_nils kdLen_sl kdLen_hs kdLen_str
theorem effX' {f : FuncId} {args : List AV} {h : Heap} {r : CR × Heap} {e : List AV → Heap → Option (CR × Heap)} (hm : MX.mode f = { }) (he : MX.eff f = some e) (hr : e args h = some r) : doCall MX (callW MX) f args h = some r := by
  unfold doCall
  simp only [hm]
  exact callW_eff he hr
theorem ofStrs_my (l : List Bytes) : ofStrs (strs l) = some l := ofStrs_strs l
theorem c149 {Y : Heap} {l : List Bytes} (hl : l ≠ []) (hb : l.length < 4294967296) : doCall MX (callW MX) 149 [.hs Y.length l.length 1 0 l.length false] (Y ++ [.arr 1 false (strs l)]) = some (.ret (.tup []), Y ++ [.arr 1 false (strs (sortS l))]) := by
  refine effX' mode_149 eff_149 ?_
  have h1 : (Y ++ [Blk.arr 1 false (strs l)])[Y.length]? = some (.arr 1 false (strs l)) := get_last _ _
  have h2 : (strs l).length = l.length := by simp [strs]
  have h0 : 0 < l.length := List.length_pos_iff.2 hl
  have hc : (Nat.beq (strs l).length l.length && Nat.beq l.length l.length && Nat.blt 0 l.length && Nat.blt l.length 4611686018427387904) = true := by
    rw [h2]
    simp only [Bool.and_eq_true, nbeq, nblt]
    exact ⟨⟨⟨trivial, trivial⟩, h0⟩, by omega⟩
  simp only [sortA, h1, ofStrs_my, hc]
  have hset : (Y ++ [Blk.arr 1 false (strs l)]).set Y.length (.arr 1 false (strs (sortS l))) = Y ++ [.arr 1 false (strs (sortS l))] := by simp
  exact congrArg (fun z => some (CR.ret (AV.tup []), z)) hset
theorem c150 {Y : Heap} {B : Blk} {l : List Bytes} (hl : l ≠ []) (hb : l.length < 4294967296) : ∃ Z, doCall MX (callW MX) 150 [.hs (Y.length + 1) l.length 1 0 l.length false] (Y ++ [B, .arr 1 false (strs l)]) = some (.ret (.hs (Y.length + 1) l.length 1 0 (Lib.compact l).length false), Y ++ [B, Z]) := by
  refine ⟨.arr 1 false (strs (Lib.compact l ++ List.replicate (l.length - (Lib.compact l).length) [])), effX' mode_150 eff_150 ?_⟩
  · have h1 : (Y ++ [B, Blk.arr 1 false (strs l)])[Y.length + 1]? = some (.arr 1 false (strs l)) := by simp
    have h2 : (strs l).length = l.length := by simp [strs]
    have h0 : 0 < l.length := List.length_pos_iff.2 hl
    have hc : (Nat.beq (strs l).length l.length && Nat.beq l.length l.length && Nat.blt 0 l.length && Nat.blt l.length 4611686018427387904) = true := by
      rw [h2]
      simp only [Bool.and_eq_true, nbeq, nblt]
      exact ⟨⟨⟨trivial, trivial⟩, h0⟩, by omega⟩
    simp only [compactA, h1, ofStrs_my, hc]
    have hset : ∀ C, (Y ++ [B, Blk.arr 1 false (strs l)]).set (Y.length + 1) C = Y ++ [B, C] := fun C => by simp
    exact congrArg (fun z => some (CR.ret (AV.hs (Y.length + 1) l.length 1 0 (Lib.compact l).length false), z)) (hset _)
theorem u100 : und MX.ty 100 = some (.slice 9) := by kernel_rfl
theorem c151 {Y : Heap} {l : List Bytes} (hl : l ≠ []) (hb : l.length < 4294967296) : doCall MX (callW MX) 151 [.hs Y.length l.length 1 0 l.length false] (Y ++ [.arr 1 false (strs l)]) = some (.ret (.hs (Y.length + 1) l.length 1 0 l.length false), Y ++ [.arr 1 true (strs l), .arr 1 false (strs l)]) := by
  have h1 : (Y ++ [Blk.arr 1 false (strs l)])[Y.length]? = some (.arr 1 false (strs l)) := get_last _ _
  have h2 : (strs l).length = l.length := by simp [strs]
  have h0 : 0 < l.length := List.length_pos_iff.2 hl
  have hall := strs_noRefs l
  have hsn : Am.snap snapN (.hs Y.length l.length 1 0 l.length false) (Y ++ [Blk.arr 1 false (strs l)]) = some (.sl 1 false (strs l), (Y ++ [Blk.arr 1 false (strs l)]).set Y.length (.arr 1 true (strs l))) := by
    have hb : (Nat.beq (strs l).length l.length && Nat.beq 1 1 && Nat.ble (0 + l.length) (strs l).length && (strs l).all noRefs) = true := by
      rw [h2, hall]; simp [beq_d, ble_d]
    have : SnapIn 1 (.hs Y.length l.length 1 0 l.length false) (Y ++ [Blk.arr 1 false (strs l)]) (.sl 1 false (strs l)) ((Y ++ [Blk.arr 1 false (strs l)]).set Y.length (.arr 1 true (strs l))) := fun n => by
      simp only [Am.snap, h1, hb]
      have : (strs l).take l.length = strs l := List.take_of_length_le (by omega)
      simp [this]
    exact this.at (by decide)
  have hset : (Y ++ [Blk.arr 1 false (strs l)]).set Y.length (.arr 1 true (strs l)) = Y ++ [.arr 1 true (strs l)] := by simp
  rw [hset] at hsn
  have e2 : l.length * 16 ≤ 17592186044416 := by omega
  have e3 : l.length ≤ 17592186044416 := by omega
  have hne : strs l ≠ [] := fun h => by rw [h] at h2; simp at h2; omega
  have hap : ∀ H : Heap, apA 1 16 (.sl 1 true []) (.sl 1 false (strs l)) H = some (.hs H.length l.length 1 0 l.length false, H ++ [.arr 1 false (strs l)]) := fun H => by
    have hrd : rdElems H (.sl 1 false (strs l)) = some (strs l) := rfl
    cases he : strs l with
    | nil => exact absurd he hne
    | cons a r =>
      rw [he] at hrd h2
      simp only [List.length_cons] at h2
      simp [apA, apX, szOk, elemSz, lenA, newArr, beq_d, ble_d, blt_d, hrd, h2, e2, e3]
  refine snapCall (by simp [mode_151]) (args' := [.sl 1 false (strs l)]) (h' := Y ++ [Blk.arr 1 true (strs l)]) (by simp [snapArgs, AV.noRef, hsn]) (by simp [AV.noRef] <;> exact List.all_eq_true.1 hall) ?_
  have hap0 := hap []
  simp only [List.length_nil, List.nil_append] at hap0
  have hcl := closeStr (H := [.arr 1 false (strs l)]) (a := .hs 0 l.length 1 0 l.length false) (l := l) (.inr ⟨0, hl, rfl, rfl⟩) (Y ++ [.arr 1 true (strs l)])
  have hnv : nv l (Y ++ [Blk.arr 1 true (strs l)]).length = .hs (Y.length + 1) l.length 1 0 l.length false := by cases l with
    | nil => exact absurd rfl hl
    | cons a r => simp [nv]
  have hnb : nb l = [.arr 1 false (strs l)] := by cases l with
    | nil => exact absurd rfl hl
    | cons a r => rfl
  rw [hnv, hnb] at hcl
  have := keepX mode_151 eff_151 (by simp [AV.noRef] <;> exact List.all_eq_true.1 hall) (args := [.sl 1 false (strs l)]) (v := .hs 0 l.length 1 0 l.length false) (hr := [.arr 1 false (strs l)]) (h := Y ++ [Blk.arr 1 true (strs l)]) (by simp [runW, Tryz.f151, u100, eqA, bsA, fillE, List.replicate, noRefs, AV.noRef, hap0]) hcl
  rw [this]
  simp
theorem c83 {l : List DataV} (hd : DV l) {p : TyV} {px : List AV} (hx : TyRep p px) (hsm : Sm 1048577 p) {n : Nat} {s : Sh} {t : TyV} {S : Nat → Prop} {H : Heap} {v : AV} (hS : ∀ x, S x → x < H.length) (hs : SrtAt n S H v s) (hsh : IsSh l t s) (hvt : VT l t) (X : Heap) :
    ∃ X', doCall MX (callW MX) 83 [v, .agg px] (H ++ X) = some (.ret (.int .i64 (patErr s p)), H ++ X ++ X') := by
  have h145 := c145 hx hsm
  obtain ⟨X2, h147⟩ := c147 hd p px hx hsm n s t S H v (X ++ [Blk.var false px]) hS hs hsh hvt
  obtain ⟨id, rfl⟩ := hs.hp
  have e1 : H ++ (X ++ [Blk.var false px]) ++ X2 = H ++ (X ++ (Blk.var false px :: X2)) := by simp
  rw [e1] at h147
  obtain ⟨Y, hY⟩ : ∃ Y, Y = H ++ (X ++ (Blk.var false px :: X2)) := ⟨_, rfl⟩
  rw [← hY] at h147
  have hbox : Y[H.length + X.length]? = some (.var false px) := by
    rw [hY, ← List.append_assoc, ← List.length_append, List.getElem?_append_right (Nat.le_refl _), Nat.sub_self]; rfl
  have hlast : (H ++ (X ++ [Blk.var false px]))[H.length + X.length]? = some (.var false px) := by
    rw [← List.append_assoc, ← List.length_append]; exact get_last _ _
  unfold patErr
  cases hT : isTree p with
  | false =>
    rw [hT] at h145
    simp at h145
    obtain ⟨qv, rfl, hq⟩ := hx.dest'
    exact ⟨[Blk.var false [.int .i64 p.k, .int .i64 p.v, .str p.nm, qv]], openC mode_83 eff_83 (by simp [runW, Tryz.f83, h145])⟩
  | true =>
    rw [hT] at h145
    simp at h145
    by_cases hz : pErr s p = 0
    · rw [hz] at h147
      have hnl := isTree_names hT
      have h148 := c148 p px hx hsm (by omega) Y
      have hfin : ∃ Z, doCall MX (callW MX) 83 [.hp id 0, .agg px] (H ++ X) = some (.ret (.int .i64 (if dups [] (namesOf p) = true then 23 else 0)), Y ++ Z) := by
        obtain ⟨qv, rfl, hq⟩ := hx.dest'
        cases hn : namesOf p with
        | nil =>
          rw [hn] at h148
          simp [nv, nb] at h148
          have h149 : doCall MX (callW MX) 149 [.nils] Y = some (.ret (.tup []), Y) := effX' mode_149 eff_149 rfl
          have h151 : doCall MX (callW MX) 151 [.nils] Y = some (.ret .nils, Y) := by
            have hcl := closeStr (H := []) (a := .nils) (l := []) (.inl ⟨rfl, rfl⟩) Y
            simp [nv, nb] at hcl
            exact keepX mode_151 eff_151 rfl (v := .nils) (hr := []) (by simp [runW, Tryz.f151, u100, eqA]) hcl
          have h150 : doCall MX (callW MX) 150 [.nils] Y = some (.ret .nils, Y) := effX' mode_150 eff_150 rfl
          exact ⟨[], openC mode_83 eff_83 (by simp [runW, Tryz.f83, h145, hlast, h147, hbox, get_of hbox, h148, h149, h150, h151, dups])⟩
        | cons a r =>
          obtain ⟨L, hL⟩ : ∃ L, L = a :: r := ⟨_, rfl⟩
          rw [← hL] at hn ⊢
          have hne : L ≠ [] := by rw [hL]; exact List.cons_ne_nil _ _
          have hLl : L.length < 4294967296 := by rw [← hn]; omega
          rw [hn] at h148
          have hnv : nv L Y.length = .hs Y.length L.length 1 0 L.length false := by rw [hL]; rfl
          have hnb : nb L = [.arr 1 false (strs L)] := by rw [hL]; rfl
          rw [hnv, hnb] at h148
          have h149 := c149 (Y := Y) hne hLl
          have hsl := sortS_len L
          have hsne : sortS L ≠ [] := fun h => by rw [h] at hsl; exact hne (List.eq_nil_of_length_eq_zero hsl.symm)
          have h151 := c151 (Y := Y) hsne (by rw [hsl]; exact hLl)
          obtain ⟨Z, h150⟩ := c150 (Y := Y) (B := .arr 1 true (strs (sortS L))) hsne (by rw [hsl]; exact hLl)
          rw [hsl] at h150 h151
          have hcd := compact_dups L
          cases hdd : dups [] L with
          | true =>
            have hnc : (((Lib.compact (sortS L)).length : Int) == (L.length : Int)) = false := by
              rw [beq_eq_false_iff_ne]
              intro h
              have := hcd.1 (by omega)
              rw [hdd] at this; cases this
            exact ⟨[.arr 1 true (strs (sortS L)), Z], openC mode_83 eff_83 (by simp [runW, Tryz.f83, h145, hlast, h147, hbox, get_of hbox, h148, h149, h151, h150, hnc])⟩
          | false =>
            have hnc : (((Lib.compact (sortS L)).length : Int) == (L.length : Int)) = true := by
              rw [beq_iff_eq]
              have := hcd.2 hdd
              omega
            exact ⟨[.arr 1 true (strs (sortS L)), Z], openC mode_83 eff_83 (by simp [runW, Tryz.f83, h145, hlast, h147, hbox, get_of hbox, h148, h149, h151, h150, hnc])⟩
      obtain ⟨Z, hfin⟩ := hfin
      refine ⟨(Blk.var false px :: X2) ++ Z, ?_⟩
      rw [hfin, hY]
      simp [hz]
    · have hzb : (pErr s p != 0) = true := by simp [hz]
      refine ⟨Blk.var false px :: X2, ?_⟩
      have e2 : H ++ X ++ (Blk.var false px :: X2) = Y := by rw [hY, List.append_assoc]
      rw [e2, if_neg (by simp), if_neg hz]
      obtain ⟨qv, rfl, hq⟩ := hx.dest'
      exact openC mode_83 eff_83 (by simp [runW, Tryz.f83, h145, hlast, h147, hzb])
theorem rParams_nd : ∀ (l prev : List Bytes), rParams prev l = 0 → l.Nodup ∧ ∀ x ∈ l, x ∉ prev
  | [], prev, _ => ⟨List.nodup_nil, fun x h => by cases h⟩
  | x :: r, prev, h => by
    simp only [rParams] at h
    split at h
    · cases h
    · split at h
      · cases h
      · rename_i h2
        obtain ⟨h3, h4⟩ := rParams_nd r _ h
        have hx : x ∉ prev := fun hm => h2 (by
          rw [List.findIdx?_isSome, List.any_eq_true]
          exact ⟨x, hm, beq_self_eq_true x⟩)
        refine ⟨List.nodup_cons.2 ⟨fun hm => h4 x hm (by simp), h3⟩, fun y hy => ?_⟩
        rcases List.mem_cons.1 hy with rfl | hy
        · exact hx
        · exact fun hm => h4 y hy (List.mem_append.2 (.inl hm))
theorem rDataErr_nd {d : DataV} {l : List DataV} (h : rDataErr d l = 0) : d.params.Nodup := by
  have h2 : rParams [] d.params = 0 := by
    unfold rDataErr at h
    repeat (split at h; first | cases h | skip)
    · rename_i h2; exact h2
    · exact h
  exact (rParams_nd _ _ h2).1
theorem dataND {l : List DataV} (h : (rCheckData l).2 = 0) : ∀ d ∈ l, d.params.Nodup := fun d hdm => by
  unfold rCheckData at h
  split at h
  · cases h
  · obtain ⟨pre, post, e, he⟩ := rDatas_ok l [] h d hdm
    exact rDataErr_nd he
section
variable {l : List DataV} {lv : AV} (hl : SlR DataRep 3 l lv) (hsl : SmL 1048577 l)
include hl hsl
theorem c82 {t : TyV} {xs : List AV} (hx : TyRep t xs) (hst : Sm 1048577 t) (H : Heap) :
    ∃ v H', doCall MX (callW MX) 82 [lv, .agg xs] H = some (.ret (.tup [v, .int .i64 (rBoth l t)]), H') ∧ (∀ x, x < H.length → H'[x]? = H[x]?) ∧ (rBoth l t = 0 → DV l ∧ VT l t ∧ IsSh l t (shOf l t) ∧ ∃ n S, (∀ x, S x → x < H'.length) ∧ SrtAt n S H' v (shOf l t)) := by
  have h143 := c143 hl hsl hx hst
  by_cases hz : rBoth l t = 0
  · obtain ⟨h1, h2, h3⟩ := rBoth_sh hz
    have hd := dataOK h1
    obtain ⟨v, H', q1, q2, q3, q4⟩ := c144 hl hsl.1 hsl hd (dataND h1) h3 h2 0 t xs [] [] .nilm (fun _ => False) (H ++ [Blk.var false xs]) hx h2 (fun a h => by cases h) rfl (repl_nil [] t) (fun x h => h.elim) (.inl ⟨rfl, rfl⟩)
    obtain ⟨pv, rfl, hp⟩ := hx.dest'
    refine ⟨v, H', openC mode_82 eff_82 ?_, fun x hx => by rw [q3 x (by simp; omega)]; exact List.getElem?_append_left hx, fun _ => ⟨hd, h2, h3, _, _, fun x hx => hx.2, q4⟩⟩
    simp [runW, Tryz.f82, h143, hz, q1]
  · have hzb : (rBoth l t != 0) = true := by simp [hz]
    obtain ⟨pv, rfl, hp⟩ := hx.dest'
    exact ⟨.nilp, _, openC mode_82 eff_82 (by simp [runW, Tryz.f82, h143, hzb] <;> rfl), fun x hx => List.getElem?_append_left hx, fun h => absurd h hz⟩
theorem c79 {t : TyV} {xs : List AV} (hx : TyRep t xs) (hst : Sm 1048577 t) {arms : List TyV} {av : AV} (ha : SlR TyRep 4 arms av) (hal : arms.length < 1048577) (has : ∀ p ∈ arms, Sm 1048577 p) (H : Heap) :
    ∃ v H', doCall MX (callW MX) 79 [lv, .agg xs, av] H = some (.ret (.tup [v, .int .i64 (rCheckArms l t arms).1, .int .i64 (rCheckArms l t arms).2]), H') := by
  obtain ⟨v, H1, h82, _, hok⟩ := c82 hl hsl hx hst (H ++ [Blk.var false xs])
  obtain ⟨pv, rfl, hp⟩ := hx.dest'
  unfold rCheckArms
  by_cases hz : rBoth l t = 0
  · rw [if_pos hz]
    obtain ⟨hd, hv, hsh, n, S, hS, hs⟩ := hok hz
    rw [hz] at h82
    by_cases h0 : arms.length = 0
    · rw [if_pos h0]
      have g0 : ¬ ((0 : Int) < (arms.length : Int)) := by omega
      have g1 : (arms.length : Int) ≤ 12 := by omega
      have e0 : arms = [] := List.eq_nil_of_length_eq_zero h0
      exact ⟨.nilp, H1, openC mode_79 eff_79 (by simp [runW, Tryz.f79, h82, ha.len, e0, bsA, fillE, List.replicate, noRefs, AV.noRef, firstOf])⟩
    · rw [if_neg h0]
      have g0 : (0 : Int) < (arms.length : Int) := by omega
      by_cases h12 : 12 < arms.length
      · rw [if_pos h12]
        have g1 : ¬ ((arms.length : Int) ≤ 12) := by omega
        have g2 : ¬ (arms.length ≤ 12) := by omega
        have g3 : 0 < arms.length := by omega
        exact ⟨.nilp, H1, openC mode_79 eff_79 (by simp [runW, Tryz.f79, h82, ha.len, g0, g1, g2, g3, bsA, fillE, List.replicate, noRefs, AV.noRef, firstOf])⟩
      · rw [if_neg h12]
        have g1 : (arms.length : Int) ≤ 12 := by omega
        have g2 : arms.length ≤ 12 := by omega
        have g3 : 0 < arms.length := by omega
        obtain ⟨e, st, hlp, hq⟩ := loop_up (M := MX) (fid := 79) (N := 50) (C := callW MX) (c := loopC Tryz.f79 0) (n := arms.length)
          (fun i (X : Heap) => ([(9, v), (34, av), (35, .int .i64 arms.length), (36, .int .i64 i)], H1 ++ X))
          (fun i X => rArms (shOf l t) 0 arms = rArms (shOf l t) i (arms.drop i))
          (fun r => ∃ X, (r = (.ext 0, ([(9, v), (34, av), (35, .int .i64 arms.length), (36, .int .i64 arms.length), (37, .bool false)], H1 ++ X)) ∧ rArms (shOf l t) 0 arms = (0, 0)) ∨ (r = (.ret, ([(6, .nilp), (7, .int .i64 (rArms (shOf l t) 0 arms).1), (8, .int .i64 (rArms (shOf l t) 0 arms).2)], H1 ++ X)))) (fun i X hi hI => by
            have hi' := lt_cast hi
            have hw := wr_next hi hal
            obtain ⟨fe, hfe, hR⟩ := ha.ix hi
            obtain ⟨X', hc⟩ := c83 hd hR (has _ (List.getElem_mem hi)) hS hs hsh hv (X ++ [Blk.var false fe])
            rw [List.drop_eq_getElem_cons hi] at hI
            simp only [rArms] at hI
            obtain ⟨tv, rfl, htv⟩ := hR.dest'
            obtain ⟨id, rfl⟩ := hs.hp
            have e1 : H1 ++ (X ++ [Blk.var false [.int .i64 arms[i].k, .int .i64 arms[i].v, .str arms[i].nm, tv]]) ++ X' = H1 ++ (X ++ (Blk.var false [.int .i64 arms[i].k, .int .i64 arms[i].v, .str arms[i].nm, tv] :: X')) := by simp
            rw [e1] at hc
            have hlast : (H1 ++ (X ++ [Blk.var false [.int .i64 arms[i].k, .int .i64 arms[i].v, .str arms[i].nm, tv]]))[H1.length + X.length]? = some (.var false [.int .i64 arms[i].k, .int .i64 arms[i].v, .str arms[i].nm, tv]) := by
              rw [← List.append_assoc, ← List.length_append]; exact get_last _ _
            by_cases hz2 : patErr (shOf l t) arms[i] = 0
            · rw [if_pos hz2] at hI
              rw [hz2] at hc
              exact .inl ⟨X ++ (Blk.var false [.int .i64 arms[i].k, .int .i64 arms[i].v, .str arms[i].nm, tv] :: X'), by simp [Tryz.f79, hi', hfe, hlast, hc, hw], hI⟩
            · rw [if_neg hz2] at hI
              have hzb : (patErr (shOf l t) arms[i] != 0) = true := by simp [hz2]
              refine .inr ⟨_, _, by simp [Tryz.f79, hi', hfe, hlast, hc, hzb] <;> first | exact ⟨rfl, rfl⟩ | rfl, by simp, X ++ (Blk.var false [.int .i64 arms[i].k, .int .i64 arms[i].v, .str arms[i].nm, tv] :: X'), .inr ?_⟩
              rw [hI]) (fun X hI => by
            rw [List.drop_length] at hI
            exact ⟨_, _, by simp [Tryz.f79] <;> first | exact ⟨rfl, rfl⟩ | rfl, by simp, X, .inl ⟨rfl, by rw [hI]; rfl⟩⟩) [] (by simp)
        obtain ⟨X, hq⟩ := hq
        simp [Tryz.f79] at hlp
        obtain ⟨id, rfl⟩ := hs.hp
        rcases hq with ⟨hq, hr⟩ | hq
        · cases hq
          rw [hr]
          exact ⟨.hp id 0, H1 ++ X, openC mode_79 eff_79 (by simp [runW, Tryz.f79, h82, ha.len, g0, g1, g2, g3, bsA, fillE, List.replicate, noRefs, AV.noRef, firstOf, hlp])⟩
        · cases hq
          exact ⟨.nilp, H1 ++ X, openC mode_79 eff_79 (by simp [runW, Tryz.f79, h82, ha.len, g0, g1, g2, g3, bsA, fillE, List.replicate, noRefs, AV.noRef, firstOf, hlp])⟩
  · rw [if_neg hz]
    have hzb : (rBoth l t != 0) = true := by simp [hz]
    have hfo : ∀ a b, firstOf [rBoth l t, a, b] = rBoth l t := fun a b => by simp [firstOf, hz]
    exact ⟨.nilp, H1, openC mode_79 eff_79 (by simp [runW, Tryz.f79, h82, ha.len, hfo, hzb, bsA, fillE, List.replicate, noRefs, AV.noRef])⟩
theorem c30 {t : TyV} {xs : List AV} (hx : TyRep t xs) (hst : Sm 1048577 t) {arms : List TyV} {av : AV} (ha : SlR TyRep 4 arms av) (hal : arms.length < 1048577) (has : ∀ p ∈ arms, Sm 1048577 p) (h : Heap) :
    doCall MX (callW MX) 30 [lv, .agg xs, av] h = some (.ret (.tup [.int .i64 (rCheckArms l t arms).1, .int .i64 (rCheckArms l t arms).2]), h) := by
  have hn : ([lv, AV.agg xs, av] : List AV).all AV.noRef = true := by simp [AV.noRef, hx.noRefs, hl.noRef, ha.noRef]
  obtain ⟨v, H', hc⟩ := c79 hl hsl hx hst ha hal has [.var false xs]
  obtain ⟨pv, rfl, hp⟩ := hx.dest'
  exact pureX mode_30 eff_30 hn rfl (hr := _) (by simp [runW, Tryz.f30, hc] <;> rfl) h
theorem c33 {t : TyV} {xs : List AV} (hx : TyRep t xs) (hst : Sm 1048577 t) {p : TyV} {px : List AV} (hpx : TyRep p px) (hsp : Sm 1048577 p) (h : Heap) :
    doCall MX (callW MX) 33 [lv, .agg xs, .agg px] h = some (.ret (.int .i64 (if rBoth l t = 0 then patErr (shOf l t) p else rBoth l t)), h) := by
  have hn : ([lv, AV.agg xs, AV.agg px] : List AV).all AV.noRef = true := by simp [AV.noRef, hx.noRefs, hl.noRef, hpx.noRefs]
  obtain ⟨v, H1, h82, hold, hok⟩ := c82 hl hsl hx hst [.var false xs, .var false px]
  by_cases hz : rBoth l t = 0
  · obtain ⟨hd, hv, hsh, n, S, hS, hs⟩ := hok hz
    obtain ⟨X', hc⟩ := c83 hd hpx hsp hS hs hsh hv []
    rw [List.append_nil] at hc
    rw [hz] at h82
    rw [if_pos hz]
    have hb : H1[1]? = some (.var false px) := hold 1 (by simp)
    obtain ⟨pv, rfl, hp⟩ := hx.dest'
    obtain ⟨qv, rfl, hq⟩ := hpx.dest'
    exact pureX mode_33 eff_33 hn rfl (hr := _) (by simp [runW, Tryz.f33, h82, hb, get_of hb, hc] <;> rfl) h
  · have hzb : (rBoth l t != 0) = true := by simp [hz]
    rw [if_neg hz]
    obtain ⟨pv, rfl, hp⟩ := hx.dest'
    obtain ⟨qv, rfl, hq⟩ := hpx.dest'
    exact pureX mode_33 eff_33 hn rfl (hr := _) (by simp [runW, Tryz.f33, h82, hzb] <;> rfl) h
end
theorem prim_10 : MX.prim 10 = some (memoT [([], .bool true)]) := rfl
theorem cat5 {l : List DataV} {w : AV} (hl : SlR DataRep 3 l w) (hsl : SmL 1048577 l) {t : TyV} {tx : List AV} (hx : TyRep t tx) (hst : Sm 1048577 t) {arms : List TyV} {av : AV} (ha : SlR TyRep 4 arms av) (hal : arms.length < 1048577) (has : ∀ p ∈ arms, Sm 1048577 p) (B : Blk) :
    ∃ x H1 H2, apA 4 56 (.sl 4 true []) av [B] = some (x, H1) ∧ x.cells = some [x] ∧ doCall MX (callW MX) 30 [w, .agg tx, x] H1 = some (.ret (.tup [.int .i64 (rCheckArms l t arms).1, .int .i64 (rCheckArms l t arms).2]), H2) ∧ (0 ∈ mods 0 [B] H1) = False ∧ H1[0]? = some B ∧ ∃ T, H2 = B :: T := by
  obtain ⟨es, h1, h2, h3, h4⟩ := ha.rd [B]
  have hnr : es.all noRefs = true := reps_noRefs h3 h4 (fun a e h => h.noRefs)
  by_cases he : es = []
  · subst he
    have h0 : arms = [] := List.eq_nil_of_length_eq_zero h3.symm
    subst h0
    refine ⟨.sl 4 true [], [B], [B], ?_, rfl, c30 hl hsl hx hst (.inr ⟨true, [], rfl, rfl, fun i a e h => by simp at h⟩) hal has [B], ?_, rfl, [], rfl⟩
    · have hs := ha.nstr
      have e1 : apA 4 56 (.sl 4 true []) av [B] = apX 4 56 (.sl 4 true []) [] 0 [B] := by
        unfold apA
        cases av with
        | str b => exact absurd rfl (hs b)
        | _ => first | simp only [h2, h1, lenA, List.length_nil] | (simp only [rdElems] at h1; cases h1)
      rw [e1]
      simp [apX, szOk, elemSz, beq_d, ble_d, blt_d]
    · simp [mods_same]
  · have hne : ∃ a r, es = a :: r := List.exists_cons_of_ne_nil he
    have hn : es.length < 1048577 := by omega
    refine ⟨.hs 1 es.length 4 0 es.length false, [B, .arr 4 false es], [B, .arr 4 true es], ?_, rfl, ?_, ?_, rfl, _, rfl⟩
    · have hs := ha.nstr
      have e1 : apA 4 56 (.sl 4 true []) av [B] = apX 4 56 (.sl 4 true []) es 0 [B] := by
        unfold apA
        cases av with
        | str b => exact absurd rfl (hs b)
        | _ => first | simp only [h2, h1, lenA, List.length_nil] | (simp only [rdElems] at h1; cases h1)
      rw [e1]
      obtain ⟨a, r, rfl⟩ := hne
      have e2 : (r.length + 1) * 56 ≤ 17592186044416 := by simp at hn; omega
      have e3 : r.length + 1 ≤ 17592186044416 := by simp at hn; omega
      simp [apX, szOk, elemSz, newArr, beq_d, ble_d, blt_d, e2, e3]
    · have hsn : Am.snap snapN (.hs 1 es.length 4 0 es.length false) [B, .arr 4 false es] = some (.sl 4 false es, [B, .arr 4 true es]) := by
        have hb : (Nat.beq es.length es.length && Nat.beq 4 4 && Nat.ble (0 + es.length) es.length && es.all noRefs) = true := by
          rw [hnr]; simp [beq_d, ble_d]
        have : SnapIn 1 (.hs 1 es.length 4 0 es.length false) [B, .arr 4 false es] (.sl 4 false es) [B, .arr 4 true es] := fun n => by
          simp only [Am.snap, List.getElem?_cons_succ, List.getElem?_cons_zero, hb]
          simp
        exact this.at (by decide)
      refine snapCall (by simp [mode_30]) (args' := [w, .agg tx, .sl 4 false es]) (h' := [B, .arr 4 true es]) (by simp [snapArgs, AV.noRef, hsn, hl.noRef, hx.noRefs]) (by simp [AV.noRef, hl.noRef, hx.noRefs] <;> exact List.all_eq_true.1 hnr) ?_
      exact c30 hl hsl hx hst (.inr ⟨false, es, rfl, h3, h4⟩) hal has _
    · exact mods_ne0 (by simp) rfl
theorem law5 {k : TaskV} {xs : List AV} (hx : TaskRep k xs) (hsk : SmT 1048577 k) : ∃ hr, runW MX 5 [.agg xs] [] = some (.ret (.bool true), hr) := by
  have h11 := c11 hx hsk
  have h32 := c32 hx hsk (okF k.data)
  obtain ⟨dv, pv, av, rfl, hd, hp, ht, ha⟩ := hx.dest
  obtain ⟨s1, s2, s3, s4⟩ := hsk
  have hb5 := bef_5_5
  simp [opsF, opsAt, Tryz.f5] at hb5
  have hb11 := bef_5_11
  simp [opsF, opsAt, Tryz.f5] at hb11
  have hb14 := bef_5_14
  simp [opsF, opsAt, Tryz.f5] at hb14
  cases hS : smallT k with
  | false =>
    rw [hS] at h11
    exact ⟨_, by simp [runW, Tryz.f5, prim_10, memoT, beqs, h11] <;> rfl⟩
  | true =>
    rw [hS] at h11
    obtain ⟨w, hw, h31⟩ := c31 hd s1
    let B := Blk.var false [dv, AV.int .i64 k.ty.k, AV.int .i64 k.ty.v, AV.str k.ty.nm, pv, av]
    obtain ⟨x, H1, H2, a1, a2, a3, a4, a5, T, rfl⟩ := cat5 hw s1 ht s2 ha s3 s4 B
    simp only [B] at a1 a3 a4 a5
    have e32 : ∀ h, doCall MX (callW MX) 32 [.agg [dv, AV.int .i64 k.ty.k, AV.int .i64 k.ty.v, AV.str k.ty.nm, pv, av]] h = some (.ret (.tup [.int .i64 (rCheckArms k.data k.ty k.arms).1, .int .i64 (rCheckArms k.data k.ty k.arms).2]), h) := h32
    by_cases h0 : k.arms.length = 0
    · have e0 : k.arms = [] := List.eq_nil_of_length_eq_zero h0
      cases hxn : x.noRef <;> exact ⟨_, by simp [runW, Tryz.f5, prim_10, memoT, beqs, h11, h31, hxn, hd.cells, hd.noRef, hw.noRef, hw.cells, bsA, fillE, List.replicate, noRefs, AV.noRef, hp.noRef, a1, a2, a3, a4, a5, e32, ha.len, ha.kdLen, e0, hb5] <;> rfl⟩
    · have g0 : 0 < k.arms.length := by omega
      have hlb : ((k.arms.length : Int) == 0) = false := by rw [beq_eq_false_iff_ne]; omega
      obtain ⟨pe, hpe, hpR⟩ := ha.ix g0
      have hpe0 : ixA 4 av (.int .i64 (0 : Int)) = some (.ro pe) := hpe .i64
      have hsp := s4 _ (List.getElem_mem g0)
      have h33 := c33 hw s1 ht s2 hpR hsp
      have h34 := c34 hd s1 (okF k.data) ht s2
      by_cases hz : rBoth k.data k.ty = 0
      · obtain ⟨z1, z2, z3⟩ := rBoth_sh hz
        have hdv := dataOK z1
        have h35 := c35 hd s1 hdv.dok hpR hsp ht s2 z2 z3
        simp only [hz, if_true] at h33
        rw [hz] at h34
        obtain ⟨tv, rfl, htv⟩ := hpR.dest'
        cases hxn : x.noRef <;> exact ⟨_, by simp [runW, Tryz.f5, prim_10, memoT, beqs, h11, h31, hxn, hd.cells, hd.noRef, hw.noRef, hw.cells, bsA, fillE, List.replicate, noRefs, AV.noRef, hp.noRef, htv.noRef, a1, a2, a3, a4, a5, e32, ha.len, ha.kdLen, hlb, hpe0, h33, h34, h35, hb5, hb11, hb14] <;> rfl⟩
      · simp only [hz, if_false] at h33
        have hzb : (rBoth k.data k.ty == 0) = false := by simp [hz]
        obtain ⟨tv, rfl, htv⟩ := hpR.dest'
        cases hxn : x.noRef <;> exact ⟨_, by simp [runW, Tryz.f5, prim_10, memoT, beqs, h11, h31, hxn, hd.cells, hd.noRef, hw.noRef, hw.cells, bsA, fillE, List.replicate, noRefs, AV.noRef, hp.noRef, htv.noRef, a1, a2, a3, a4, a5, e32, ha.len, ha.kdLen, hlb, hpe0, h33, h34, hzb, hb5, hb11] <;> rfl⟩
end Go.Proofs.Am12
