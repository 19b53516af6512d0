/- The abstract machine of this claim, part 11. -/
import Derived.Test.YtggemipepaajmaaGreatAm10
import Derived.Shelf.Sort.Plain
import Derived.Shelf.Slices.In.SortNone
import Derived.Shelf.Slices.CompactS
set_option linter.unusedSimpArgs false
set_option linter.unusedVariables false
set_option linter.unusedSectionVars false
set_option linter.unnecessarySimpa false
namespace Go.Am
open Go Go.Proofs Go.Sort Go.Shelf
def strs (l : List (List UInt8)) : List (List AV) := l.map fun s => [AV.str s]
def ofStrs : List (List AV) → Option (List (List UInt8))
  | [] => some []
  | [.str s] :: r => (ofStrs r).map (s :: ·)
  | _ => none
theorem ofStrs_strs : ∀ l, ofStrs (strs l) = some l
  | [] => rfl
  | s :: r => by
    have := ofStrs_strs r
    simp only [strs, List.map_cons, ofStrs] at this ⊢
    rw [this]; rfl
theorem strs_of : ∀ {es : List (List AV)} {l : List (List UInt8)}, ofStrs es = some l → es = strs l
  | [], l, h => by simp only [ofStrs, Option.some.injEq] at h; subst h; rfl
  | e :: r, l, h => by
    unfold ofStrs at h
    split at h
    · rename_i heq; cases heq
    · rename_i s r' heq
      cases heq
      rw [Option.map_eq_some_iff] at h
      obtain ⟨l', h1, rfl⟩ := h
      rw [strs_of h1]; rfl
    · cases h
theorem strs_len (l : List (List UInt8)) : (strs l).length = l.length := by simp [strs]
theorem strs_get {l : List (List UInt8)} {i : Nat} {e : List AV} (h : (strs l)[i]? = some e) : ∃ s, l[i]? = some s ∧ e = [.str s] := by
  simp only [strs, List.getElem?_map, Option.map_eq_some_iff] at h
  obtain ⟨s, h1, h2⟩ := h
  exact ⟨s, h1, h2.symm⟩
theorem strs_hold {g : G} {h : Heap} {fr : Fr} {w : World} (s : Sim g h fr w) {id B c : Nat} {lk : Bool} {ss : List (List UInt8)} (hk : h[id]? = some (.arr 1 lk (strs ss))) (hp : g.pl id ss.length = some (B, c)) :
    Holds encStr w B 0 ss.toArray ∧ B < w.heap.size ∧ ss.length ≤ c := by
  obtain ⟨B', c', vs, T, fz, h1, h2, h3, h4, h5, h6, h7, h8, h9, h10⟩ := s.blk id _ hk
  rw [strs_len] at h1 h4
  rw [hp] at h1
  simp only [Option.some.injEq, Prod.mk.injEq] at h1
  obtain ⟨rfl, rfl⟩ := h1
  refine ⟨fun j hj => ?_, s.lt _ _ _ _ hp, h4⟩
  simp only [List.size_toArray] at hj
  have hjv : j < vs.size := by omega
  have he : (strs ss)[j]? = some [.str ss[j]] := by simp [strs, hj]
  have hr := h8 j _ he 0 _ vs[j] rfl (by simp [hjv])
  have e0 : ss.toArray[j]! = ss[j] := by simp [hj]
  rw [Nat.zero_add, e0]
  constructor
  · rw [cell_of h2, Array.getElem?_eq_getElem hjv]
    generalize vs[j] = v at hr
    cases hr
    rfl
  · unfold World.frozen?
    simp only [h2]
    have := h5 j hjv
    by_cases ha : fz.1 ≤ j
    · simp [ha]; omega
    · simp [ha]
theorem strs_turn {g : G} {h : Heap} {fr : Fr} {w : World} (s : Sim g h fr w) {id B c : Nat} {ss ss' : List (List UInt8)} (hk : h[id]? = some (.arr 1 false (strs ss))) (hp : g.pl id ss.length = some (B, c)) (hl : ss'.length = ss.length) (n : Nat) (os : Array Obj) :
    Sim g (h.set id (.arr 1 false (strs ss'))) fr (grow (putRow encStr (Sort.ahead w n) B 0 ss'.toArray) os) := by
  obtain ⟨B', c', vs, T, fz, h1, h2, h3, h4, h5, h6, h7, h8, h9, h10⟩ := s.blk id _ hk
  rw [strs_len] at h1 h4 h10
  rw [hp] at h1
  simp only [Option.some.injEq, Prod.mk.injEq] at h1
  obtain ⟨rfl, rfl⟩ := h1
  have hB : B < w.heap.size := s.lt _ _ _ _ hp
  have hid : id < h.length := (List.getElem?_eq_some_iff.1 hk).1
  have hheap : ∀ b, b < w.heap.size → (grow (putRow encStr (Sort.ahead w n) B 0 ss'.toArray) os).heap[b]? = if B = b then w.heap[b]?.map (onCells (putCells encStr 0 ss'.toArray)) else w.heap[b]? := by
    intro b hb
    simp only [grow, putRow, mapBlock, Sort.ahead]
    rw [Array.getElem?_append_left (by simpa using hb), Array.getElem?_modify]
  refine s.upd id _ hid g rfl (fun _ _ _ => rfl) (Le.refl g) (by simp [grow]) (fun b hb hne => ?_) (fun b o u hm => ?_) (fun gen b c hp => .inl ⟨gen, c, hp⟩) ?_ rfl rfl rfl
  · rw [hheap b hb, if_neg (fun e => hne ss.length c (by rw [hp, e]))]
  · have hbB : B ≠ b := fun e => by
      have := h9 o (fun hh => by cases hh)
      rw [e, hm] at this; cases this
    have h0 := s.mem b o u hm
    have hb := s.mu_lt hm
    unfold World.cell? at h0 ⊢
    rw [hheap b hb, if_neg hbB]
    exact h0
  · refine ⟨B, c, putCells encStr 0 ss'.toArray vs, T, fz, by rw [strs_len, hl]; exact hp, ?_, by simpa [putCells] using h3, by rw [strs_len, hl]; exact h4, by simpa [putCells] using h5, fun i e he => ?_, fun i v hv => ?_, fun i e he k x v hx hv => ?_, fun o _ => h9 o (fun hh => by cases hh), fun gen hgen => h10 gen (by rw [strs_len, hl] at hgen; exact hgen)⟩
    · rw [hheap B hB, if_pos rfl, h2]; rfl
    · obtain ⟨t, _, rfl⟩ := strs_get he
      rfl
    · simp only [putCells, Array.getElem?_mapIdx, Option.map_eq_some_iff] at hv
      obtain ⟨a, ha, rfl⟩ := hv
      split
      · rfl
      · exact h7 i a ha
    · obtain ⟨t, ht, rfl⟩ := strs_get he
      cases k with
      | succ k => simp at hx
      | zero =>
        simp only [List.getElem?_cons_zero, Option.some.injEq] at hx
        subst hx
        have hi : i < ss'.length := (List.getElem?_eq_some_iff.1 ht).1
        simp only [putCells, Array.getElem?_mapIdx, Option.map_eq_some_iff, Nat.mul_one, Nat.add_zero] at hv
        obtain ⟨a, ha, rfl⟩ := hv
        rw [if_pos ⟨Nat.zero_le _, by simpa using hi⟩]
        have : ss'.toArray[i - 0]! = t := by
          rw [Nat.sub_zero]
          have := (List.getElem?_eq_some_iff.1 ht)
          simp [hi, this.2]
        rw [this]
        exact .str _ _
def sortA : List AV → Heap → Option (CR × Heap)
  | [.hs id gen 1 0 len _], h => match h[id]? with
    | some (.arr 1 false es) => match ofStrs es with
      | some ss => match Nat.beq es.length gen && Nat.beq len gen && Nat.blt 0 len && Nat.blt len 4611686018427387904 with
        | true => some (.ret (.tup []), h.set id (.arr 1 false (strs (ss.mergeSort fun x y => decide (x ≤ y)))))
        | false => none
      | none => none
    | _ => none
  | [.nils], h => some (.ret (.tup []), h)
  | _, _ => none
def compactA : List AV → Heap → Option (CR × Heap)
  | [.hs id gen 1 0 len false], h => match h[id]? with
    | some (.arr 1 false es) => match ofStrs es with
      | some ss => match Nat.beq es.length gen && Nat.beq len gen && Nat.blt 0 len && Nat.blt len 4611686018427387904 with
        | true => some (.ret (.hs id gen 1 0 (Lib.compact ss).length false), h.set id (.arr 1 false (strs (Lib.compact ss ++ List.replicate (ss.length - (Lib.compact ss).length) []))))
        | false => none
      | none => none
    | _ => none
  | [.nils], h => some (.ret .nils, h)
  | _, _ => none
def bitLenA : List AV → Heap → Option (CR × Heap)
  | [.int .u64 n], h => match decide (0 ≤ n ∧ n ≤ 18446744073709551615) with
    | true => some (.ret (.int .i64 (Lib.bitLen n.toNat)), h)
    | false => none
  | _, _ => none
theorem hs_addr {g : G} {id gen sz off len : Nat} {ex : Bool} {x : Value} (hr : Rel g true (.hs id gen sz off len ex) x) (h0 : 0 < len) :
    ∃ B c c', g.pl id gen = some (B, c) ∧ off + len ≤ c ∧ x = .slice (some ⟨B, off * sz, none⟩) len c' ∧ c' = (if ex then len else c - off) ∧ len ≤ c' := by
  cases hr with
  | hs _ _ _ _ _ _ B c o c' h h1 hc ho =>
    have hle : len ≤ c' := by rw [hc]; split <;> omega
    have := ho (by omega)
    subst this
    exact ⟨B, c, c', h, h1, rfl, hc, hle⟩
theorem relL_one {g : G} {a : AV} {cargs : Array Value} (h : RelL g true [a] cargs) : ∃ x, cargs = #[x] ∧ Rel g true a x := by
  obtain ⟨h1, h2⟩ := h
  match cargs, h1 with
  | ⟨[x]⟩, _ => exact ⟨x, rfl, h2 0 a x rfl rfl⟩
section
variable {P : Program} {ρ : Ren}
theorem sort_ok (Ly : Lays.n190 P ρ) {args : List AV} {h h' : Heap} {r : CR} (he : sortA args h = some (r, h')) {g : G} {fr : Fr} {w : World} {cargs : Array Value} (sim : Sim g h fr w) (hr : RelL g true args cargs) :
    Calls P (ρ.f 190) cargs w fun e w' => ∃ g', Le g g' ∧ Sim g' h' fr w' ∧ RetOK g' r e := by
  unfold sortA at he
  split at he
  · rename_i id gen len ex
    split at he
    · rename_i es hk
      split at he
      · rename_i ss hss
        split at he
        · rename_i hc
          simp only [Bool.and_eq_true, nbeq, nblt] at hc
          simp only [Option.some.injEq, Prod.mk.injEq] at he
          obtain ⟨rfl, rfl⟩ := he
          have hes := strs_of hss
          subst hes
          rw [strs_len] at hc
          obtain ⟨⟨⟨hg, hl⟩, h0⟩, hb⟩ := hc
          subst hg; subst hl
          obtain ⟨x, rfl, hx⟩ := relL_one hr
          obtain ⟨B, c, c', hp, h1, rfl, h2, h3⟩ := hs_addr hx h0
          obtain ⟨hH, hB, hc⟩ := strs_hold sim hk hp
          refine (Any.slices_Sort_string Ly B 0 c' ss w hH hB hb).mono fun e w' he => ?_
          obtain ⟨rfl, n, os, rfl⟩ := he
          exact ⟨g, Le.refl g, strs_turn sim hk hp (by rw [List.length_mergeSort]) n os, .tup true [] #[] rfl (fun i c v h => by simp at h)⟩
        · cases he
      · cases he
    · cases he
  · simp only [Option.some.injEq, Prod.mk.injEq] at he
    obtain ⟨rfl, rfl⟩ := he
    obtain ⟨x, rfl, hx⟩ := relL_one hr
    cases hx
    refine (Any.slices_Sort_string_none Ly none 0 w).mono fun e w' he => ?_
    obtain ⟨rfl, rfl⟩ := he
    exact ⟨g, Le.refl g, sim, .tup true [] #[] rfl (fun i c v h => by simp at h)⟩
  · cases he
theorem compact_len {α : Type} [Inhabited α] [DecidableEq α] (zs : List α) : (Lib.compact zs).length ≤ zs.length := by
  unfold Lib.compact Lib.compactUpTo
  simp only [List.length_map]
  exact Nat.le_trans (List.length_filter_le _ _) (by simp)
theorem compact_ok (Ly : Lays.n194 P ρ) {args : List AV} {h h' : Heap} {r : CR} (he : compactA args h = some (r, h')) {g : G} {fr : Fr} {w : World} {cargs : Array Value} (sim : Sim g h fr w) (hr : RelL g true args cargs) :
    Calls P (ρ.f 194) cargs w fun e w' => ∃ g', Le g g' ∧ Sim g' h' fr w' ∧ RetOK g' r e := by
  unfold compactA at he
  split at he
  · rename_i id gen len
    split at he
    · rename_i es hk
      split at he
      · rename_i ss hss
        split at he
        · rename_i hc
          simp only [Bool.and_eq_true, nbeq, nblt] at hc
          simp only [Option.some.injEq, Prod.mk.injEq] at he
          obtain ⟨rfl, rfl⟩ := he
          have hes := strs_of hss
          subst hes
          rw [strs_len] at hc
          obtain ⟨⟨⟨hg, hl⟩, h0⟩, hb⟩ := hc
          subst hg; subst hl
          obtain ⟨x, rfl, hx⟩ := relL_one hr
          obtain ⟨B, c, c', hp, h1, rfl, h2, h3⟩ := hs_addr hx h0
          obtain ⟨hH, hB, hc⟩ := strs_hold sim hk hp
          refine (Any.slices_Compact_string Ly B 0 c' ss w hH (by omega) h3).mono fun e w' he => ?_
          obtain ⟨rfl, q, rfl⟩ := he
          have hcl := compact_len ss
          have ht := strs_turn sim hk hp (ss' := Lib.compact ss ++ List.replicate (ss.length - (Lib.compact ss).length) []) (by simp; omega) q #[]
          rw [grow_empty] at ht
          refine ⟨g, Le.refl g, ht, ?_⟩
          have := Rel.hs (g := g) id ss.length 1 0 (Lib.compact ss).length false B c 0 c' hp (by omega) (by simpa using h2) (fun _ => rfl)
          exact this
        · cases he
      · cases he
    · cases he
  · simp only [Option.some.injEq, Prod.mk.injEq] at he
    obtain ⟨rfl, rfl⟩ := he
    obtain ⟨x, rfl, hx⟩ := relL_one hr
    cases hx
    refine (Any.slices_Compact_string_empty Ly none 0 w).mono fun e w' he => ?_
    obtain ⟨rfl, rfl⟩ := he
    exact ⟨g, Le.refl g, sim, .nils _⟩
  · cases he
theorem bitLen_ok (Ly : Lays.n125 P ρ) {args : List AV} {h h' : Heap} {r : CR} (he : bitLenA args h = some (r, h')) {g : G} {fr : Fr} {w : World} {cargs : Array Value} (sim : Sim g h fr w) (hr : RelL g true args cargs) :
    Calls P (ρ.f 125) cargs w fun e w' => ∃ g', Le g g' ∧ Sim g' h' fr w' ∧ RetOK g' r e := by
  unfold bitLenA at he
  split at he
  · split at he
    · rename_i hd
      have hd := of_decide_eq_true hd
      simp only [Option.some.injEq, Prod.mk.injEq] at he
      obtain ⟨rfl, rfl⟩ := he
      obtain ⟨x, rfl, hx⟩ := relL_one hr
      cases hx
      have hcall := calls_of_every_depth fun D => AnyS.bits_LenInS Ly D _ w hd.1 hd.2
      refine hcall.mono fun e w' he => ?_
      obtain ⟨rfl, rfl⟩ := he
      exact ⟨g, Le.refl g, sim, .int _ _ _⟩
    · cases he
  · cases he
end
end Go.Am
namespace Go.Proofs.Am12
open Go Go.Am
def effX (f : FuncId) : Option (List AV → Heap → Option (CR × Heap)) := match Nat.beq f 149 with
  | true => some sortA
  | false => match Nat.beq f 150 with
    | true => some compactA
    | false => match Nat.beq f 184 with
      | true => some bitLenA
      | false => none
def openFns : FuncId → Bool := fun f => Nat.beq f 174 || (Nat.beq f 197 || (Nat.beq f 216 || (Nat.beq f 238 || (Nat.beq f 239 || (Nat.beq f 265 || (Nat.beq f 79 || (Nat.beq f 82 || (Nat.beq f 83 || (Nat.beq f 116 || (Nat.beq f 147 || (Nat.beq f 182 || (Nat.beq f 199 || (Nat.beq f 63 || (Nat.beq f 159 || (Nat.beq f 189 || (Nat.beq f 218 || (Nat.beq f 246 || (Nat.beq f 76))))))))))))))))))
noncomputable def MX : Par := { MW with eff := effX, mode := fun f => match openFns f with
  | true => {}
  | false => MW.mode f }
theorem fitsX : Fits MX Tryz.prog := ⟨fitsW.ty, fitsW.fn, fitsW.mixed, fitsW.fld, fitsW.elm⟩
theorem primX : PrimOK MX Tryz.prog := fun f p hp => primW f p hp
theorem effOKX : EffOK MX Tryz.prog := by
  intro f e he args h r h' hr
  change effX f = some e at he
  unfold effX at he
  split at he
  · rename_i hf
    have := nbeq.1 hf; subst this
    simp only [Option.some.injEq] at he; subst he
    exact ⟨⟨Tryz.f149, _, by kernel_rfl, rfl⟩, fun g fr w cargs sim ha => sort_ok Tryz.lays190 hr sim ha⟩
  · split at he
    · rename_i hf
      have := nbeq.1 hf; subst this
      simp only [Option.some.injEq] at he; subst he
      exact ⟨⟨Tryz.f150, _, by kernel_rfl, rfl⟩, fun g fr w cargs sim ha => compact_ok Tryz.lays194 hr sim ha⟩
    · split at he
      · rename_i hf
        have := nbeq.1 hf; subst this
        simp only [Option.some.injEq] at he; subst he
        exact ⟨⟨Tryz.f184, _, by kernel_rfl, rfl⟩, fun g fr w cargs sim ha => bitLen_ok Tryz.lays125 hr sim ha⟩
      · cases he
end Go.Proofs.Am12
namespace Go.Am
open Go
def CLe (C C' : CH) : Prop := ∀ f a h r, C f a h = some r → C' f a h = some r
section
variable {M : Par} {C C' : CH} (hC : CLe C C')
include hC
theorem doCall_mono : CLe (doCall M C) (doCall M C') := by
  intro f a h r hr
  unfold doCall at hr ⊢
  split at hr
  · exact hC _ _ _ _ hr
  · split at hr
    · cases hr
    · split at hr
      · cases hr
      · cases hc : C f _ [] with
        | none => rw [hc] at hr; cases hr
        | some x => rw [hc] at hr; rw [hC _ _ _ _ hc]; exact hr
theorem opEx_mono {fid : Nat} {t : Tm} {op : Op} {h : Heap} {r : OR} (hr : opEx M fid C t op h = some r) : opEx M fid C' t op h = some r := by
  cases op with
  | makeFunc f _ _ => cases f <;> exact hr
  | makeMap _ r0 => cases r0 <;> exact hr
  | call c =>
    obtain ⟨callee, args, ats⟩ := c
    cases callee with
    | value f =>
      simp only [opEx, xCall] at hr ⊢
      split at hr
      · split at hr
        · exact hr
        · rename_i g fs cap vs _ _ _ _
          cases hd : doCall M C g (fs ++ vs ++ cap) h with
          | none => rw [hd] at hr; cases hr
          | some x => rw [hd] at hr; rw [doCall_mono hC _ _ _ _ hd]; exact hr
      · cases hr
    | builtin b => exact hr
    | invoke => exact hr
  | _ => exact hr
theorem runOps_mono {fid N : Nat} {ops : Array Oper} : ∀ {l : List Oper} {t : Tm} {h : Heap} {ks : List Kd} {r : RO}, runOps M fid N C ops l t h ks = some r → runOps M fid N C' ops l t h ks = some r
  | [], _, _, _, _, hr => hr
  | o :: l, t, h, ks, r, hr => by
    simp only [runOps] at hr ⊢
    split at hr
    · cases hr
    · split at hr
      · rename_i hp
        exact runOps_mono hr
      · cases hr
    · cases ho : opEx M fid C t o.op h with
      | none => rw [ho] at hr; cases hr
      | some x =>
        rw [ho] at hr
        rw [opEx_mono hC ho]
        cases x with
        | val v h' =>
          simp only at hr ⊢
          split at hr
          · exact runOps_mono hr
          · cases hr
        | pan v h' => exact hr
theorem regionA_mono {fid N id : Nat} {ops : Array Oper} {d : Bool} {s : St} {r : Ex × St} (hr : regionA M fid N C id ops d s = some r) : regionA M fid N C' id ops d s = some r := by
  unfold regionA at hr ⊢
  cases ho : runOps M fid N C ops ops.toList s.1 s.2 [] with
  | none => rw [ho] at hr; cases hr
  | some x => rw [ho] at hr; rw [runOps_mono hC ho]; exact hr
end
theorem iter_mono {f g : St → Option (Ex × St)} (hf : ∀ s r, f s = some r → g s = some r) : ∀ {n m : Nat} {s : St} {r : Ex × St}, n ≤ m → iter n f s = some r → iter m g s = some r
  | 0, _, _, _, _, h => by cases h
  | n + 1, 0, _, _, hle, _ => by omega
  | n + 1, m + 1, s, r, hle, h => by
    simp only [iter] at h ⊢
    cases hs : f s with
    | none => rw [hs] at h; cases h
    | some x =>
      rw [hs] at h
      rw [hf _ _ hs]
      obtain ⟨e, s'⟩ := x
      cases e with
      | nrm => exact iter_mono hf (by omega) h
      | ext => exact h
      | ret => exact h
      | pan => exact h
theorem codeF_mono {M : Par} {C C' : CH} (hC : CLe C C') {fid N L L' : Nat} (hL : L ≤ L') : ∀ {c : Code} {s : St} {r : Ex × St}, codeF M fid N C L c s = some r → codeF M fid N C' L' c s = some r
  | .skip, _, _, h => h
  | .region id ops d, s, r, h => by simp only [codeF] at h ⊢; exact regionA_mono hC h
  | .seq a b, s, r, h => by
    simp only [codeF] at h ⊢
    cases ha : codeF M fid N C L a s with
    | none => rw [ha] at h; cases h
    | some x =>
      rw [ha] at h
      rw [codeF_mono hC hL ha]
      obtain ⟨e, s'⟩ := x
      cases e with
      | nrm => exact codeF_mono hC hL h
      | ext => exact h
      | ret => exact h
      | pan => exact h
  | .cond c a b, s, r, h => by
    simp only [codeF] at h ⊢
    split at h
    · exact codeF_mono hC hL h
    · exact codeF_mono hC hL h
    · cases h
  | .block id c, s, r, h => by
    simp only [codeF] at h ⊢
    cases ha : codeF M fid N C L c s with
    | none => rw [ha] at h; cases h
    | some x => rw [ha] at h; rw [codeF_mono hC hL ha]; exact h
  | .loop c, s, r, h => by
    simp only [codeF] at h ⊢
    exact iter_mono (fun s r h => codeF_mono hC hL h) hL h
  | .exit _, _, _, h => h
  | .ret, _, _, h => h
  | .scope _, _, _, h => by simp [codeF] at h
  | .rangeFunc .., _, _, h => by simp [codeF] at h
  | .label _, _, _, h => by simp [codeF] at h
  | .goto _, _, _, h => by simp [codeF] at h
  | .refuse _, _, _, h => by simp [codeF] at h
theorem runF_mono {M : Par} {C C' : CH} (hC : CLe C C') {L L' : Nat} (hL : L ≤ L') : CLe (runF M C L) (runF M C' L') := by
  intro f a h r hr
  unfold runF at hr ⊢
  split at hr
  · cases hr
  · rename_i fn hfn
    split at hr
    · cases hr
    · rename_i c hc
      split at hr
      · rename_i hle
        cases hx : codeF M f fn.ntmps C L c (Tm.init 0 a, h) with
        | none => rw [hx] at hr; cases hr
        | some x => rw [hx] at hr; rw [codeF_mono hC hL hx]; exact hr
      · cases hr
theorem callF_step (M : Par) : ∀ n, CLe (callF M n) (callF M (n + 1))
  | 0 => fun f a h r hr => by cases hr
  | n + 1 => fun f a h r hr => by
    simp only [callF] at hr ⊢
    split at hr
    · exact hr
    · exact runF_mono (callF_step M n) (Nat.le_succ n) f a h r hr
theorem callF_mono (M : Par) {n m : Nat} (h : n ≤ m) : CLe (callF M n) (callF M m) := by
  induction m with
  | zero => rw [Nat.le_zero.1 h]; exact fun _ _ _ _ h => h
  | succ m ih =>
    by_cases he : n = m + 1
    · rw [he]; exact fun _ _ _ _ h => h
    · exact fun f a hh r hr => callF_step M m f a hh r (ih (by omega) f a hh r hr)
def Comes (M : Par) (f : FuncId) (args : List AV) (h : Heap) (r : CR × Heap) : Prop := ∃ n, callF M n f args h = some r
theorem Comes.at {M : Par} {f : FuncId} {args : List AV} {h : Heap} {r : CR × Heap} (hc : Comes M f args h r) : ∃ n, ∀ m, n ≤ m → callF M m f args h = some r := by
  obtain ⟨n, hn⟩ := hc
  exact ⟨n, fun m hm => callF_mono M hm _ _ _ _ hn⟩
end Go.Am
namespace Go.Am
open Go
open Classical in
noncomputable def lim {α β : Type} (F : Nat → α → Option β) (x : α) : Option β := if h : ∃ r, ∃ n, F n x = some r then some (Classical.choose h) else none
theorem lim_some {α β : Type} {F : Nat → α → Option β} (hm : ∀ n m x r, n ≤ m → F n x = some r → F m x = some r) {x : α} {r : β} : lim F x = some r ↔ ∃ n, F n x = some r := by
  unfold lim
  constructor
  · intro h
    split at h
    · rename_i hx
      simp only [Option.some.injEq] at h
      rw [← h]
      exact Classical.choose_spec hx
    · cases h
  · rintro ⟨n, hn⟩
    have hx : ∃ r, ∃ n, F n x = some r := ⟨r, n, hn⟩
    rw [dif_pos hx]
    obtain ⟨m, hm'⟩ := Classical.choose_spec hx
    have h1 := hm _ (max n m) _ _ (Nat.le_max_left n m) hn
    have h2 := hm _ (max n m) _ _ (Nat.le_max_right n m) hm'
    rw [h1] at h2
    exact h2.symm
noncomputable def loopW (f : St → Option (Ex × St)) (s : St) : Option (Ex × St) := lim (fun n s => iter n f s) s
theorem loopW_some {f : St → Option (Ex × St)} {s : St} {r : Ex × St} : loopW f s = some r ↔ ∃ n, iter n f s = some r :=
  lim_some (F := fun n s => iter n f s) fun n m x r h hr => iter_mono (fun _ _ h => h) h hr
theorem loopW_next {f : St → Option (Ex × St)} {s s' : St} {r : Ex × St} (h : f s = some (.nrm, s')) (hl : loopW f s' = some r) : loopW f s = some r := by
  obtain ⟨n, hn⟩ := loopW_some.1 hl
  exact loopW_some.2 ⟨n + 1, by simp only [iter, h]; exact hn⟩
theorem loopW_end {f : St → Option (Ex × St)} {s s' : St} {e : Ex} (h : f s = some (e, s')) (he : e ≠ .nrm) : loopW f s = some (e, s') := by
  refine loopW_some.2 ⟨1, ?_⟩
  simp only [iter, h]
  cases e <;> first | rfl | exact absurd rfl he
noncomputable def codeW (M : Par) (fid N : Nat) (C : CH) : Code → St → Option (Ex × St)
  | .skip, s => some (.nrm, s)
  | .region id ops d, s => regionA M fid N C id ops d s
  | .seq a b, s => match codeW M fid N C a s with
    | some (.nrm, s') => codeW M fid N C b s'
    | r => r
  | .cond c a b, s => match ev s.1 c with
    | some (.bool true) => codeW M fid N C a s
    | some (.bool false) => codeW M fid N C b s
    | _ => none
  | .block id c, s => match codeW M fid N C c s with
    | some (.ext j, s') => match Nat.beq j id with
      | true => some (.nrm, s')
      | false => some (.ext j, s')
    | r => r
  | .loop c, s => loopW (codeW M fid N C c) s
  | .exit id, s => some (.ext id, s)
  | .ret, s => some (.ret, s)
  | _, _ => none
noncomputable def callW (M : Par) : CH := fun f a h => lim (fun n (x : FuncId × List AV × Heap) => callF M n x.1 x.2.1 x.2.2) (f, a, h)
theorem callW_some {M : Par} {f : FuncId} {a : List AV} {h : Heap} {r : CR × Heap} : callW M f a h = some r ↔ ∃ n, callF M n f a h = some r :=
  lim_some (F := fun n (x : FuncId × List AV × Heap) => callF M n x.1 x.2.1 x.2.2) fun n m x r h hr => callF_mono M h _ _ _ _ hr
noncomputable def runW (M : Par) (f : FuncId) (args : List AV) (h : Heap) : Option (CR × Heap) :=
  match M.fn f with
  | none => none
  | some fn => match fn.body with
    | none => none
    | some c => match Nat.ble args.length fn.ntmps with
      | true => finish M.ty fn (codeW M f fn.ntmps (callW M) c (Tm.init 0 args, h))
      | false => none
section
variable {M : Par}
theorem doCall_lim {f : FuncId} {a : List AV} {h : Heap} {r : CR × Heap} (hr : doCall M (callW M) f a h = some r) : ∃ n, doCall M (callF M n) f a h = some r := by
  unfold doCall at hr
  split at hr
  · rename_i hf
    obtain ⟨n, hn⟩ := callW_some.1 hr
    exact ⟨n, by unfold doCall; rw [hf]; exact hn⟩
  · rename_i hf
    split at hr
    · cases hr
    · rename_i args' h' hs
      split at hr
      · cases hr
      · rename_i hn
        cases hc : callW M f args' [] with
        | none => rw [hc] at hr; cases hr
        | some x =>
          obtain ⟨n, hn'⟩ := callW_some.1 hc
          refine ⟨n, ?_⟩
          rw [hc] at hr
          unfold doCall
          simp only [hf, hs, hn, hn']
          exact hr
theorem opEx_lim {fid : Nat} {t : Tm} {op : Op} {h : Heap} {r : OR} (hr : opEx M fid (callW M) t op h = some r) : ∃ n, opEx M fid (callF M n) t op h = some r := by
  cases op with
  | makeFunc f _ _ => cases f <;> exact ⟨0, hr⟩
  | makeMap _ r0 => cases r0 <;> exact ⟨0, hr⟩
  | call c =>
    obtain ⟨callee, args, ats⟩ := c
    cases callee with
    | value f =>
      simp only [opEx, xCall] at hr ⊢
      split at hr
      · split at hr
        · exact ⟨0, hr⟩
        · rename_i g fs cap vs _ _ _ _
          cases hd : doCall M (callW M) g (fs ++ vs ++ cap) h with
          | none => rw [hd] at hr; cases hr
          | some x =>
            rw [hd] at hr
            obtain ⟨n, hn⟩ := doCall_lim hd
            exact ⟨n, by rw [hn]; exact hr⟩
      · cases hr
    | builtin b => exact ⟨0, hr⟩
    | invoke => exact ⟨0, hr⟩
  | _ => exact ⟨0, hr⟩
theorem runOps_lim {fid N : Nat} {ops : Array Oper} : ∀ {l : List Oper} {t : Tm} {h : Heap} {ks : List Kd} {r : RO}, runOps M fid N (callW M) ops l t h ks = some r → ∃ n, runOps M fid N (callF M n) ops l t h ks = some r
  | [], _, _, _, _, hr => ⟨0, hr⟩
  | o :: l, t, h, ks, r, hr => by
    simp only [runOps] at hr ⊢
    split at hr
    · cases hr
    · split at hr
      · exact runOps_lim hr
      · cases hr
    · cases ho : opEx M fid (callW M) t o.op h with
      | none => rw [ho] at hr; cases hr
      | some x =>
        obtain ⟨n, hn⟩ := opEx_lim ho
        rw [ho] at hr
        cases x with
        | val v h' =>
          simp only at hr
          split at hr
          · rename_i t' hp
            obtain ⟨m, hm⟩ := runOps_lim hr
            refine ⟨max n m, ?_⟩
            rw [opEx_mono (callF_mono M (Nat.le_max_left n m)) hn]
            simp only [hp]
            exact runOps_mono (callF_mono M (Nat.le_max_right n m)) hm
          · cases hr
        | pan v h' => exact ⟨n, by rw [hn]; exact hr⟩
theorem codeW_lim {fid N : Nat} : ∀ {c : Code} {s : St} {r : Ex × St}, codeW M fid N (callW M) c s = some r → ∃ n, codeF M fid N (callF M n) n c s = some r
  | .skip, _, _, h => ⟨0, h⟩
  | .region id ops d, s, r, h => by
    simp only [codeW] at h
    simp only [codeF]
    unfold regionA at h ⊢
    cases ho : runOps M fid N (callW M) ops ops.toList s.1 s.2 [] with
    | none => rw [ho] at h; cases h
    | some x =>
      obtain ⟨n, hn⟩ := runOps_lim ho
      rw [ho] at h
      exact ⟨n, by rw [hn]; exact h⟩
  | .seq a b, s, r, h => by
    simp only [codeW] at h
    simp only [codeF]
    cases ha : codeW M fid N (callW M) a s with
    | none => rw [ha] at h; cases h
    | some x =>
      obtain ⟨n, hn⟩ := codeW_lim ha
      rw [ha] at h
      obtain ⟨e, s'⟩ := x
      cases e with
      | nrm =>
        obtain ⟨m, hm⟩ := codeW_lim (c := b) h
        refine ⟨max n m, ?_⟩
        rw [codeF_mono (callF_mono M (Nat.le_max_left n m)) (Nat.le_max_left n m) hn]
        exact codeF_mono (callF_mono M (Nat.le_max_right n m)) (Nat.le_max_right n m) hm
      | ext => exact ⟨n, by rw [hn]; exact h⟩
      | ret => exact ⟨n, by rw [hn]; exact h⟩
      | pan => exact ⟨n, by rw [hn]; exact h⟩
  | .cond c a b, s, r, h => by
    simp only [codeW] at h
    simp only [codeF]
    split at h
    · rename_i hc
      obtain ⟨n, hn⟩ := codeW_lim h
      exact ⟨n, by rw [hc]; exact hn⟩
    · rename_i hc
      obtain ⟨n, hn⟩ := codeW_lim h
      exact ⟨n, by rw [hc]; exact hn⟩
    · cases h
  | .block id c, s, r, h => by
    simp only [codeW] at h
    simp only [codeF]
    cases ha : codeW M fid N (callW M) c s with
    | none => rw [ha] at h; cases h
    | some x =>
      obtain ⟨n, hn⟩ := codeW_lim ha
      rw [ha] at h
      exact ⟨n, by rw [hn]; exact h⟩
  | .loop c, s, r, h => by
    simp only [codeW] at h
    simp only [codeF]
    obtain ⟨k, hk⟩ := loopW_some.1 h
    have key : ∀ (k : Nat) (s : St), iter k (codeW M fid N (callW M) c) s = some r → ∃ n, iter n (codeF M fid N (callF M n) n c) s = some r := by
      intro k
      induction k with
      | zero => intro s h; cases h
      | succ k ih =>
        intro s h
        simp only [iter] at h
        cases ha : codeW M fid N (callW M) c s with
        | none => rw [ha] at h; cases h
        | some x =>
          obtain ⟨n, hn⟩ := codeW_lim ha
          rw [ha] at h
          obtain ⟨e, s'⟩ := x
          cases e with
          | nrm =>
            obtain ⟨m, hm⟩ := ih s' h
            refine ⟨max n m + 1, ?_⟩
            simp only [iter]
            rw [codeF_mono (callF_mono M (by omega)) (by omega : n ≤ max n m + 1) hn]
            exact iter_mono (fun s r h => codeF_mono (callF_mono M (by omega)) (by omega : m ≤ max n m + 1) h) (Nat.le_max_right n m) hm
          | ext => exact ⟨n + 1, by simp only [iter]; rw [codeF_mono (callF_mono M (by omega)) (by omega : n ≤ n + 1) hn]; exact h⟩
          | ret => exact ⟨n + 1, by simp only [iter]; rw [codeF_mono (callF_mono M (by omega)) (by omega : n ≤ n + 1) hn]; exact h⟩
          | pan => exact ⟨n + 1, by simp only [iter]; rw [codeF_mono (callF_mono M (by omega)) (by omega : n ≤ n + 1) hn]; exact h⟩
    exact key k s hk
  | .exit _, _, _, h => ⟨0, h⟩
  | .ret, _, _, h => ⟨0, h⟩
  | .scope _, _, _, h => by simp [codeW] at h
  | .rangeFunc .., _, _, h => by simp [codeW] at h
  | .label _, _, _, h => by simp [codeW] at h
  | .goto _, _, _, h => by simp [codeW] at h
  | .refuse _, _, _, h => by simp [codeW] at h
theorem callW_run {f : FuncId} {a : List AV} {h : Heap} {r : CR × Heap} (he : M.eff f = none) (hr : runW M f a h = some r) : callW M f a h = some r := by
  unfold runW at hr
  split at hr
  · cases hr
  · rename_i fn hfn
    split at hr
    · cases hr
    · rename_i c hc
      split at hr
      · rename_i hle
        cases hx : codeW M f fn.ntmps (callW M) c (Tm.init 0 a, h) with
        | none => rw [hx] at hr; cases hr
        | some x =>
          obtain ⟨n, hn⟩ := codeW_lim hx
          rw [hx] at hr
          refine callW_some.2 ⟨n + 1, ?_⟩
          simp only [callF, he]
          unfold runF
          simp only [hfn, hc, hle, hn]
          exact hr
      · cases hr
theorem callW_eff {f : FuncId} {a : List AV} {h : Heap} {r : CR × Heap} {e : List AV → Heap → Option (CR × Heap)} (he : M.eff f = some e) (hr : e a h = some r) : callW M f a h = some r :=
  callW_some.2 ⟨1, by simp only [callF, he]; exact hr⟩
end
def loopsIn : Code → List Code
  | .seq a b => loopsIn a ++ loopsIn b
  | .cond _ a b => loopsIn a ++ loopsIn b
  | .block _ c => loopsIn c
  | .loop c => c :: loopsIn c
  | _ => []
def loopC (fn : Func) (k : Nat) : Code := match fn.body with
  | some c => (loopsIn c).getD k .skip
  | none => .skip
theorem inRange_nat {i n : Nat} (h : i < n) : inRange (i : Int) n = some i := by
  have h2 : ((i : Int) < (n : Int)) := by omega
  simp [inRange, h]
theorem wr_i64 {n : Int} (h : 0 ≤ n) (h2 : n < 9223372036854775808) : wr .i64 n = n := by
  simp [wr, khalf, h, h2]
section
variable (M : Par) (fid N : Nat) (C : CH)
noncomputable def loopH (c : Code) (s : St) : Option (Ex × St) := loopW (codeW M fid N C c) s
theorem cw_skip (s : St) : codeW M fid N C .skip s = some (.nrm, s) := rfl
theorem cw_region (id : Nat) (ops : Array Oper) (d : Bool) (s : St) : codeW M fid N C (.region id ops d) s = regionA M fid N C id ops d s := rfl
theorem cw_seq (a b : Code) (s : St) : codeW M fid N C (.seq a b) s = (match codeW M fid N C a s with
    | some (.nrm, s') => codeW M fid N C b s'
    | r => r) := rfl
theorem cw_cond (c : Operand) (a b : Code) (s : St) : codeW M fid N C (.cond c a b) s = (match ev s.1 c with
    | some (.bool true) => codeW M fid N C a s
    | some (.bool false) => codeW M fid N C b s
    | _ => none) := rfl
theorem cw_block (id : Nat) (c : Code) (s : St) : codeW M fid N C (.block id c) s = (match codeW M fid N C c s with
    | some (.ext j, s') => (match Nat.beq j id with
      | true => some (.nrm, s')
      | false => some (.ext j, s'))
    | r => r) := rfl
theorem cw_loop (c : Code) (s : St) : codeW M fid N C (.loop c) s = loopH M fid N C c s := rfl
theorem cw_exit (id : Nat) (s : St) : codeW M fid N C (.exit id) s = some (.ext id, s) := rfl
theorem cw_ret (s : St) : codeW M fid N C .ret s = some (.ret, s) := rfl
variable {M fid N C}
theorem loopH_next {c : Code} {s s' : St} {r : Ex × St} (h : codeW M fid N C c s = some (.nrm, s')) (hl : loopH M fid N C c s' = some r) : loopH M fid N C c s = some r := loopW_next h hl
theorem loopH_end {c : Code} {s s' : St} {e : Ex} (h : codeW M fid N C c s = some (e, s')) (he : e ≠ .nrm) : loopH M fid N C c s = some (e, s') := loopW_end h he
end
end Go.Am
namespace Go.Am
open Go
def ld1 (h : Heap) (p : AV) : Option AV := (rdCells h p).bind List.head?
def takeA (n : Nat) (cs : List AV) : Option AV := match Nat.ble n cs.length with
  | true => some (.agg (cs.take n))
  | false => none
def ldN (n : Nat) (h : Heap) (p : AV) : Option AV := (rdCells h p).bind (takeA n)
def faA (off : Nat) (p : AV) : Option AV := match p with
  | .ro cs => some (.ro (cs.drop off))
  | .hp id o => some (.hp id (o + off))
  | .ep id gen sz i k => some (.ep id gen sz i (k + off))
  | _ => none
def stA (n : Nat) (h : Heap) (p v : AV) : Option Heap :=
  match v.cells with
  | some cs =>
    match Nat.beq cs.length n with
    | true => match p with
      | .hp id off => match h[id]? with
        | some (.var false old) => match Nat.ble (off + cs.length) old.length with
          | true => some (h.set id (.var false (spliceAt old off cs)))
          | false => none
        | _ => none
      | .ep id gen sz' i k => match h[id]? with
        | some (.arr sz false es) => match Nat.beq es.length gen && Nat.beq sz sz', es[i]? with
          | true, some e => match Nat.ble (k + cs.length) e.length with
            | true => some (h.set id (.arr sz false (es.set i (spliceAt e k cs))))
            | false => none
          | _, _ => none
        | _ => none
      | _ => none
    | false => none
  | none => none
def ixA (sz : Nat) (x ix : AV) : Option AV :=
  match x, intOf ix with
  | .sl s _ es, some i => match Nat.beq s sz && true, inRange i es.length with
    | true, some j => (es[j]?).map .ro
    | _, _ => none
  | .hs id gen s off len _, some i => match Nat.beq s sz && true, inRange i len with
    | true, some j => some (.ep id gen s (off + j) 0)
    | _, _ => none
  | _, _ => none
def ixS (x ix : AV) : Option AV :=
  match x, intOf ix with
  | .str s, some i => match inRange i s.length with
    | some j => (s[j]?).map fun b => .int .u8 b.toNat
    | none => none
  | _, _ => none
def lenSl (x : AV) (h : Heap) : Option OR := match x with
  | .nils => some (.val (.int .i64 0) h)
  | .sl _ _ es => some (.val (.int .i64 es.length) h)
  | .hs _ _ _ _ l _ => some (.val (.int .i64 l) h)
  | _ => none
def lenSt (x : AV) (h : Heap) : Option OR := match x with
  | .str s => some (.val (.int .i64 s.length) h)
  | _ => none
def apX (sz byt : Nat) (s : AV) (xs : List (List AV)) (n : Nat) (h : Heap) : Option (AV × Heap) :=
  match szOk sz s && Nat.blt 0 sz && Nat.ble ((n + xs.length) * byt) 17592186044416 && Nat.ble (n + xs.length) 17592186044416 && true with
  | false => none
  | true => match xs with
    | [] => match s with
      | .nils => some (s, h)
      | .sl .. => some (s, h)
      | .hs .. => some (s, h)
      | _ => none
    | _ :: _ => match s with
      | .nils => some (newArr h sz xs)
      | .sl _ true es => some (newArr h sz (es ++ xs))
      | .hs id gen sz0 off len ex => match h[id]? with
        | some (.arr sz' lk es) => match Nat.beq es.length gen && Nat.beq sz' sz0 && Nat.ble (off + len) es.length with
          | false => none
          | true => match ex with
            | true => some (newArr h sz ((es.drop off).take len ++ xs))
            | false => match Nat.beq off 0 && (Nat.beq len es.length || (!lk && Nat.blt es.length (len + xs.length))) with
              | true => some (.hs id (len + xs.length) sz0 0 (len + xs.length) false, h.set id (.arr sz0 lk (es.take len ++ xs)))
              | false => match !lk && Nat.ble (off + len + xs.length) es.length with
                | true => some (.hs id gen sz0 off (len + xs.length) false, h.set id (.arr sz0 lk (es.take (off + len) ++ xs ++ es.drop (off + len + xs.length))))
                | false => none
        | _ => none
      | _ => none
def apA (sz byt : Nat) (s x : AV) (h : Heap) : Option (AV × Heap) :=
  match (match x with
    | .str b => match Nat.beq sz 1 with
      | true => some (bytesA b)
      | false => none
    | _ => match szOk sz x with
      | true => rdElems h x
      | false => none), lenA s with
  | some xs, some n => apX sz byt s xs n h
  | _, _ => none
def fillC (cells : List AV) : List (Nat × Nat × AV) → Option (List AV)
  | [] => some cells
  | (off, size, v) :: rest => match v.cells with
    | some cs => match Nat.beq cs.length size && Nat.ble (off + cs.length) cells.length with
      | true => fillC (spliceAt cells off cs) rest
      | false => none
    | none => none
def placeT (T : Ty) (t : TypeId) (i : Nat) : Option (Nat × Nat) := match und T t with
  | some (.struct fs) => (fs[i]?).map fun f => (f.offset, siz T f.type)
  | _ => none
def isStr (d : Option TypeDesc) : Bool := match d with
  | some (.struct _) => true
  | _ => false
theorem bd_of {T : Ty} {t : TypeId} {zero : List AV} (tr : List (Nat × Nat × Nat)) (vs : List AV) (hz : zeroC T t = some zero) (hs : isStr (und T t) = true) (hp : tr.all (fun q => match placeT T t q.1 with
    | some (a, b) => Nat.beq a q.2.1 && Nat.beq b q.2.2
    | none => false) = true) : buildA T t (List.zipWith (fun q v => (q.1, v)) tr vs) = (fillC zero (List.zipWith (fun q v => (q.2.1, q.2.2, v)) tr vs)).map .agg := by
  unfold buildA
  cases hu : und T t with
  | none => rw [hu] at hs; cases hs
  | some d =>
    cases d with
    | struct fs =>
      simp only [hz]
      congr 1
      have key : ∀ (tr : List (Nat × Nat × Nat)) (vs cells : List AV), tr.all (fun q => match placeT T t q.1 with
          | some (a, b) => Nat.beq a q.2.1 && Nat.beq b q.2.2
          | none => false) = true → fillA (fun i => (fs[i]?).map fun f => (f.offset, siz T f.type)) cells (List.zipWith (fun q v => (q.1, v)) tr vs) = fillC cells (List.zipWith (fun q v => (q.2.1, q.2.2, v)) tr vs) := by
        intro tr
        induction tr with
        | nil => intro vs cells _; rfl
        | cons q tr ih =>
          intro vs cells hp
          cases vs with
          | nil => rfl
          | cons v vs =>
            rw [List.all_cons, Bool.and_eq_true] at hp
            obtain ⟨h1, h2⟩ := hp
            have hpl : (fs[q.1]?).map (fun f => (f.offset, siz T f.type)) = some (q.2.1, q.2.2) := by
              unfold placeT at h1
              rw [hu] at h1
              simp only at h1
              cases hm : (fs[q.1]?).map (fun f => (f.offset, siz T f.type)) with
              | none => rw [hm] at h1; cases h1
              | some x =>
                rw [hm] at h1
                obtain ⟨a, b⟩ := x
                simp only [Bool.and_eq_true] at h1
                rw [Nat.eq_of_beq_eq_true h1.1, Nat.eq_of_beq_eq_true h1.2]
            simp only [List.zipWith_cons_cons, fillA, fillC, hpl]
            cases v.cells with
            | none => rfl
            | some cs =>
              show (match cs.length.beq q.2.2 && (q.2.1 + cs.length).ble cells.length with
                | true => fillA _ (spliceAt cells q.2.1 cs) _
                | false => none) = (match cs.length.beq q.2.2 && (q.2.1 + cs.length).ble cells.length with
                | true => fillC (spliceAt cells q.2.1 cs) _
                | false => none)
              cases cs.length.beq q.2.2 && (q.2.1 + cs.length).ble cells.length with
              | true => exact ih _ _ h2
              | false => rfl
      exact key tr vs zero hp
    | _ => rw [hu] at hs; cases hs
def bsA (sz : Nat) (zero : List AV) (ml : Bool) (len : Nat) (parts : List (Nat × AV)) (h : Heap) : Option (AV × Heap) :=
  match fillE sz (List.replicate len zero) parts with
  | some es => match !ml && es.all noRefs with
    | true => some (.sl sz true es, h)
    | false => some (newArr h sz es)
  | none => none
def lkA (d : Option TypeDesc) (z m k : AV) (ok : Bool) (h : Heap) : Option AV :=
  match (match m with | .nilm => some [] | .hm id => (match h[id]? with | some (.mp es) => some es | _ => none) | _ => none) with
  | none => none
  | some es => match (match keyEq d k k with | some _ => findA d k es | none => none) with
    | some r => match ok with
      | true => some (.tup [r.getD z, .bool r.isSome])
      | false => some (r.getD z)
    | none => none
def upA (d : Option TypeDesc) (m k v : AV) (h : Heap) : Option Heap :=
  match m with
  | .hm id => match h[id]? with
    | some (.mp es) => match (match keyEq d k k with | some _ => findA d k es | none => none) with
      | some _ => some (h.set id (.mp (setA d k v es)))
      | none => none
    | _ => none
  | _ => none
def slA (sz : Nat) (x : AV) (lo hi mx : Option AV) : Option AV :=
  match mx.isSome && hi.isNone with
  | true => none
  | false => match x with
    | .nils => match optInt 0 lo, optInt 0 hi, optInt 0 mx with
      | some 0, some 0, some 0 => some .nils
      | _, _, _ => none
    | .sl s ex es => match Nat.beq s sz && true, (optInt es.length hi).bind (upTo · es.length), optInt 0 lo with
      | true, some b, some l => match upTo l b, mxOk b mx with
        | some a, true => some (.sl s (mx.isSome || (ex && Nat.beq b es.length)) ((es.drop a).take (b - a)))
        | _, _ => none
      | _, _, _ => none
    | .hs id gen s off len ex => match Nat.beq s sz && true, (optInt len hi).bind (upTo · len), optInt 0 lo with
      | true, some b, some l => match upTo l b, mxOk b mx && (mx.isSome || !ex || Nat.beq b len) with
        | some a, true => some (.hs id gen s (off + a) (b - a) (mx.isSome || ex))
        | _, _ => none
      | _, _, _ => none
    | _ => none
def cvI (k : IntKind) (x : AV) (h : Heap) : Option (AV × Heap) := match x with
  | .int _ n => some (.int k (wr k n), h)
  | _ => none
def cvB (x : AV) (h : Heap) : Option (AV × Heap) := match x with
  | .str s => some (newArr h 1 (bytesA s))
  | _ => none
theorem st_of {T : Ty} {t : TypeId} {n : Nat} (h1 : (T t).isSome = true) (h2 : siz T t = n) (h : Heap) (p v : AV) : storeA T h t p v = stA n h p v := by
  unfold storeA stA
  unfold siz at h2
  cases ht : T t with
  | none => rw [ht] at h1; cases h1
  | some i =>
    rw [ht] at h2
    subst h2
    cases v.cells <;> rfl
theorem lk_of {T : Ty} {t kt e : TypeId} {z : AV} (hu : und T t = some (.map kt e)) (hk : und T kt = some .string) (hz : zeroV T e = some z) (m k : AV) (ok : Bool) (h : Heap) : lookupA T t m k ok h = lkA (some .string) z m k ok h := by
  have e : ∀ (x : Option (List (AV × AV))), (match x with
      | none => none
      | some es => match (match keyEq (some .string) k k with | some _ => findA (some .string) k es | none => none), some z with
        | some r, some z => (match ok with
          | true => some (.tup [r.getD z, .bool r.isSome])
          | false => some (r.getD z))
        | _, _ => none) = (match x with
      | none => none
      | some es => match (match keyEq (some .string) k k with | some _ => findA (some .string) k es | none => none) with
        | some r => (match ok with
          | true => some (AV.tup [r.getD z, .bool r.isSome])
          | false => some (r.getD z))
        | none => none) := by
    intro x
    cases x with
    | none => rfl
    | some es =>
      show (match (match keyEq (some .string) k k with | some _ => findA (some .string) k es | none => none), some z with
        | some r, some z => (match ok with
          | true => some (.tup [r.getD z, .bool r.isSome])
          | false => some (r.getD z))
        | _, _ => none) = (match (match keyEq (some .string) k k with | some _ => findA (some .string) k es | none => none) with
        | some r => (match ok with
          | true => some (AV.tup [r.getD z, .bool r.isSome])
          | false => some (r.getD z))
        | none => none)
      cases keyEq (some .string) k k with
      | none => rfl
      | some b => cases hf : findA (some .string) k es <;> simp only [hf]
  unfold lookupA lkA
  simp only [hu, hk, hz]
  exact e _
section
variable (h : Heap) (cs : List AV) (c : AV) (n i off id gen sz k len : Nat) (ex : Bool) (es : List (List AV))
theorem rd_ro : rdCells h (.ro cs) = some cs := rfl
theorem rd_hp : rdCells h (.hp id off) = (match h[id]? with
    | some (.var _ cs) => some (cs.drop off)
    | _ => none) := rfl
theorem rd_ep : rdCells h (.ep id gen sz i k) = (match h[id]? with
    | some (.arr sz' _ es) => (match Nat.beq es.length gen && Nat.beq sz' sz with
      | true => (es[i]?).map (·.drop k)
      | false => none)
    | _ => none) := rfl
theorem ld1_def (p : AV) : ld1 h p = (rdCells h p).bind List.head? := rfl
theorem ldN_def (p : AV) : ldN n h p = (rdCells h p).bind (takeA n) := rfl
theorem faA_ro : faA off (.ro cs) = some (.ro (cs.drop off)) := rfl
theorem faA_hp : faA off (.hp id n) = some (.hp id (n + off)) := rfl
theorem faA_ep : faA off (.ep id gen sz i k) = some (.ep id gen sz i (k + off)) := rfl
theorem lenSl_nils : lenSl .nils h = some (.val (.int .i64 0) h) := rfl
theorem lenSl_sl : lenSl (.sl sz ex es) h = some (.val (.int .i64 es.length) h) := rfl
theorem lenSl_hs : lenSl (.hs id gen sz off len ex) h = some (.val (.int .i64 len) h) := rfl
theorem lenSt_str (s : List UInt8) : lenSt (.str s) h = some (.val (.int .i64 s.length) h) := rfl
theorem ixA_sl (kd : IntKind) (hi : i < es.length) : ixA sz (.sl sz ex es) (.int kd i) = some (.ro es[i]) := by
  simp [ixA, intOf, inRange_nat hi, nbeq.2 rfl, hi]
theorem ixA_hs (kd : IntKind) (hi : i < len) : ixA sz (.hs id gen sz off len ex) (.int kd i) = some (.ep id gen sz (off + i) 0) := by
  simp [ixA, intOf, inRange_nat hi, nbeq.2 rfl]
theorem ixS_str (kd : IntKind) (s : List UInt8) (hi : i < s.length) : ixS (.str s) (.int kd i) = some (.int .u8 s[i].toNat) := by
  simp [ixS, intOf, inRange_nat hi, hi]
end
section
variable (cs : List AV) (k : IntKind) (n : Int) (id off gen sz i j len f : Nat) (ex b : Bool) (es : List (List AV)) (s : List UInt8) (fs : List AV) (v : AV)
theorem cells_int : AV.cells (.int k n) = some [.int k n] := rfl
theorem cells_bool : AV.cells (.bool b) = some [.bool b] := rfl
theorem cells_str : AV.cells (.str s) = some [.str s] := rfl
theorem cells_nilp : AV.cells .nilp = some [.nilp] := rfl
theorem cells_ro : AV.cells (.ro cs) = some [.ro cs] := rfl
theorem cells_hp : AV.cells (.hp id off) = some [.hp id off] := rfl
theorem cells_ep : AV.cells (.ep id gen sz i j) = some [.ep id gen sz i j] := rfl
theorem cells_nils : AV.cells .nils = some [.nils] := rfl
theorem cells_sl : AV.cells (.sl sz ex es) = some [.sl sz ex es] := rfl
theorem cells_hs : AV.cells (.hs id gen sz off len ex) = some [.hs id gen sz off len ex] := rfl
theorem cells_nilm : AV.cells .nilm = some [.nilm] := rfl
theorem cells_hm : AV.cells (.hm id) = some [.hm id] := rfl
theorem cells_fn : AV.cells (.fn f fs cs) = some [.fn f fs cs] := rfl
theorem cells_nilf : AV.cells .nilf = some [.nilf] := rfl
theorem cells_agg : AV.cells (.agg cs) = some cs := rfl
end
def noCh : Kd → Bool
  | .ch _ => false
  | _ => true
theorem okDraw_ld {ops : Array Oper} {ks : List Kd} (h : ks.all noCh = true) : okDraw ops ks = true := by
  unfold okDraw
  have h1 : ∀ (ks : List Kd) (k : Nat), ks.all noCh = true → ∀ p ∈ loudOf k ks, noCh p.2 = true := by
    intro ks
    induction ks with
    | nil => intro k _ p hp; cases hp
    | cons a r ih =>
      intro k h p hp
      simp only [List.all_cons, Bool.and_eq_true] at h
      cases a with
      | st => exact ih (k + 1) h.2 p hp
      | ld id =>
        rcases List.mem_cons.1 hp with rfl | hp
        · rfl
        · exact ih (k + 1) h.2 p hp
      | ch m => cases h.1
  have h2 : ∀ (l : List (Nat × Kd)) (bef : Array Nat), (∀ p ∈ l, noCh p.2 = true) → okPairs bef l = true := by
    intro l
    induction l with
    | nil => intro _ _; rfl
    | cons a r ih =>
      intro bef h
      obtain ⟨i, x⟩ := a
      simp only [okPairs, Bool.and_eq_true, List.all_eq_true]
      refine ⟨fun p hp => ?_, ih bef fun p hp => h p (List.mem_cons_of_mem _ hp)⟩
      have hx := h (i, x) (List.mem_cons_self ..)
      have hy := h p (List.mem_cons_of_mem _ hp)
      obtain ⟨j, y⟩ := p
      cases x <;> cases y <;> first | rfl | (simp [noCh] at hx; done) | (simp [noCh] at hy; done)
  exact h2 _ _ (h1 ks 0 h)
section
variable {M : Par} {fid N : Nat} {C : CH} {c : Code}
theorem loop_up {β : Type} {n : Nat} (S : Nat → β → St) (I : Nat → β → Prop) (Q : Ex × St → Prop)
    (step : ∀ i b, i < n → I i b → (∃ b', codeW M fid N C c (S i b) = some (.nrm, S (i + 1) b') ∧ I (i + 1) b') ∨ (∃ e s, codeW M fid N C c (S i b) = some (e, s) ∧ e ≠ .nrm ∧ Q (e, s)))
    (fin : ∀ b, I n b → ∃ e s, codeW M fid N C c (S n b) = some (e, s) ∧ e ≠ .nrm ∧ Q (e, s)) (b : β) (h0 : I 0 b) : ∃ e s, loopH M fid N C c (S 0 b) = some (e, s) ∧ Q (e, s) := by
  have key : ∀ k i b, i + k = n → I i b → ∃ e s, loopH M fid N C c (S i b) = some (e, s) ∧ Q (e, s) := by
    intro k
    induction k with
    | zero =>
      intro i b hi hI
      have : i = n := by omega
      subst this
      obtain ⟨e, s, h1, h2, h3⟩ := fin b hI
      exact ⟨e, s, loopH_end h1 h2, h3⟩
    | succ k ih =>
      intro i b hi hI
      rcases step i b (by omega) hI with ⟨b', h1, h2⟩ | ⟨e, s, h1, h2, h3⟩
      · obtain ⟨e, s, h3, h4⟩ := ih (i + 1) b' (by omega) h2
        exact ⟨e, s, loopH_next h1 h3, h4⟩
      · exact ⟨e, s, loopH_end h1 h2, h3⟩
  exact key n 0 b (by omega) h0
theorem loop_down {β : Type} (S : β → St) (I : β → Prop) (m : β → Nat) (Q : Ex × St → Prop)
    (step : ∀ b, I b → (∃ b', codeW M fid N C c (S b) = some (.nrm, S b') ∧ I b' ∧ m b' < m b) ∨ (∃ e s, codeW M fid N C c (S b) = some (e, s) ∧ e ≠ .nrm ∧ Q (e, s)))
    (b : β) (h0 : I b) : ∃ e s, loopH M fid N C c (S b) = some (e, s) ∧ Q (e, s) := by
  have key : ∀ k b, m b ≤ k → I b → ∃ e s, loopH M fid N C c (S b) = some (e, s) ∧ Q (e, s) := by
    intro k
    induction k with
    | zero =>
      intro b hm hI
      rcases step b hI with ⟨b', h1, h2, h3⟩ | ⟨e, s, h1, h2, h3⟩
      · omega
      · exact ⟨e, s, loopH_end h1 h2, h3⟩
    | succ k ih =>
      intro b hm hI
      rcases step b hI with ⟨b', h1, h2, h3⟩ | ⟨e, s, h1, h2, h3⟩
      · obtain ⟨e, s, h4, h5⟩ := ih b' (by omega) h2
        exact ⟨e, s, loopH_next h1 h4, h5⟩
      · exact ⟨e, s, loopH_end h1 h2, h3⟩
  exact key (m b) b (Nat.le_refl _) h0
end
def SlR {α : Type} (R : α → List AV → Prop) (sz : Nat) (l : List α) (v : AV) : Prop :=
  (l = [] ∧ v = .nils) ∨ ∃ ex es, v = .sl sz ex es ∧ es.length = l.length ∧ ∀ (i : Nat) a e, l[i]? = some a → es[i]? = some e → R a e
section
variable {α : Type} {R : α → List AV → Prop} {sz : Nat} {l : List α} {v : AV}
theorem SlR.len (hv : SlR R sz l v) (h : Heap) : lenSl v h = some (.val (.int .i64 l.length) h) := by
  rcases hv with ⟨rfl, rfl⟩ | ⟨ex, es, rfl, hl, _⟩
  · rfl
  · simp [lenSl, hl]
theorem SlR.lenA (hv : SlR R sz l v) : lenA v = some l.length := by
  rcases hv with ⟨rfl, rfl⟩ | ⟨ex, es, rfl, hl, _⟩
  · rfl
  · simp [Am.lenA, hl]
theorem SlR.ix (hv : SlR R sz l v) {i : Nat} (hi : i < l.length) : ∃ e, (∀ kd, ixA sz v (.int kd i) = some (.ro e)) ∧ R l[i] e := by
  rcases hv with ⟨rfl, rfl⟩ | ⟨ex, es, rfl, hl, hr⟩
  · simp at hi
  · exact ⟨es[i]'(by omega), fun kd => ixA_sl _ _ _ _ kd (by omega), hr i _ _ (List.getElem?_eq_getElem hi) (List.getElem?_eq_getElem (by omega))⟩
theorem SlR.noRef (hv : SlR R sz l v) : v.noRef = true := by
  rcases hv with ⟨rfl, rfl⟩ | ⟨ex, es, rfl, _, _⟩ <;> rfl
theorem SlR.cells (hv : SlR R sz l v) : v.cells = some [v] := by
  rcases hv with ⟨rfl, rfl⟩ | ⟨ex, es, rfl, _, _⟩ <;> rfl
theorem SlR.rd (hv : SlR R sz l v) (h : Heap) : ∃ es, rdElems h v = some es ∧ szOk sz v = true ∧ es.length = l.length ∧ ∀ (i : Nat) a e, l[i]? = some a → es[i]? = some e → R a e := by
  rcases hv with ⟨rfl, rfl⟩ | ⟨ex, es, rfl, hl, hr⟩
  · exact ⟨[], rfl, rfl, rfl, fun i a e h => by simp at h⟩
  · exact ⟨es, rfl, by simp [szOk, elemSz, beq_d], hl, hr⟩
theorem SlR.mono {S : α → List AV → Prop} (hv : SlR R sz l v) (hs : ∀ a e, R a e → S a e) : SlR S sz l v := by
  rcases hv with ⟨rfl, rfl⟩ | ⟨ex, es, rfl, hl, hr⟩
  · exact .inl ⟨rfl, rfl⟩
  · exact .inr ⟨ex, es, rfl, hl, fun i a e h1 h2 => hs _ _ (hr i a e h1 h2)⟩
end
end Go.Am
namespace Go.Am
open Go
def AccIn (sz base : Nat) (rest : Heap) (a : AV) (es : List (List AV)) : Prop :=
  (es = [] ∧ a = .nils) ∨ ∃ j, es ≠ [] ∧ a = .hs (base + j) es.length sz 0 es.length false ∧ rest[j]? = some (.arr sz false es)
theorem AccIn.nil (sz base : Nat) (rest : Heap) : AccIn sz base rest .nils [] := .inl ⟨rfl, rfl⟩
theorem AccIn.grow {sz base : Nat} {rest : Heap} {a : AV} {es : List (List AV)} (h : AccIn sz base rest a es) (l : Heap) : AccIn sz base (rest ++ l) a es := by
  rcases h with h | ⟨j, h0, h1, h2⟩
  · exact .inl h
  · exact .inr ⟨j, h0, h1, by rw [List.getElem?_append_left (List.getElem?_eq_some_iff.1 h2).1]; exact h2⟩
theorem AccIn.shift {sz base : Nat} {rest : Heap} {a : AV} {es : List (List AV)} (h : AccIn sz (base + 1) rest a es) (b : Blk) : AccIn sz base (b :: rest) a es := by
  rcases h with h | ⟨j, h0, h1, h2⟩
  · exact .inl h
  · exact .inr ⟨j + 1, h0, by rw [h1, Nat.add_right_comm, Nat.add_assoc], by simpa using h2⟩
theorem AccIn.pushs {sz byt : Nat} {P rest : Heap} {a : AV} {es xs : List (List AV)} {x : AV} (h : AccIn sz P.length rest a es) (hx : rdElems (P ++ rest) x = some xs) (hs : szOk sz x = true) (hnx : ∀ b, x ≠ .str b) (hxs : xs ≠ []) (h0 : 0 < sz) (hb : byt ≤ 1024) (hn : es.length + xs.length < 16777216) :
    ∃ a' rest', apA sz byt a x (P ++ rest) = some (a', P ++ rest') ∧ AccIn sz P.length rest' a' (es ++ xs) := by
  have hbb : (es.length + xs.length) * byt ≤ 17592186044416 := Nat.le_trans (Nat.mul_le_mul (Nat.le_of_lt hn) hb) (by decide)
  have hap : ∀ n, lenA a = some n → apA sz byt a x (P ++ rest) = apX sz byt a xs n (P ++ rest) := fun n hl => by
    unfold apA
    cases x with
    | str b => exact absurd rfl (hnx b)
    | _ => first | simp only [hs, hx, hl] | (simp only [rdElems] at hx; cases hx)
  obtain ⟨y, ys, rfl⟩ : ∃ y ys, xs = y :: ys := by cases xs with | nil => exact absurd rfl hxs | cons y ys => exact ⟨y, ys, rfl⟩
  rcases h with ⟨rfl, rfl⟩ | ⟨j, hne, rfl, h2⟩
  · refine ⟨.hs (P.length + rest.length) (ys.length + 1) sz 0 (ys.length + 1) false, rest ++ [.arr sz false (y :: ys)], ?_, .inr ⟨rest.length, by simp, by simp, by simp⟩⟩
    rw [hap 0 rfl]
    have e1 : szOk sz AV.nils = true := rfl
    have h2 := hbb
    simp only [List.length_nil, Nat.zero_add, List.length_cons] at h2 hn
    simp [apX, e1, nblt.2 h0, nble.2 h2, nble.2 (show ys.length + 1 ≤ 17592186044416 by omega), newArr]
  · have hj := (List.getElem?_eq_some_iff.1 h2).1
    have hg : (P ++ rest)[P.length + j]? = some (.arr sz false es) := by rw [List.getElem?_append_right (by omega)]; simpa using h2
    refine ⟨.hs (P.length + j) (es.length + (ys.length + 1)) sz 0 (es.length + (ys.length + 1)) false, rest.set j (.arr sz false (es ++ y :: ys)), ?_, .inr ⟨j, by simp, by simp, by simp [hj]⟩⟩
    rw [hap es.length rfl]
    have e1 : szOk sz (.hs (P.length + j) es.length sz 0 es.length false) = true := by simp [szOk, elemSz, beq_d]
    simp only [List.length_cons] at hbb hn
    simp [apX, e1, nblt.2 h0, nble.2 hbb, nble.2 (show es.length + (ys.length + 1) ≤ 17592186044416 by omega), hg, beq_d, ble_d, List.set_append_right]
theorem AccIn.push {sz byt : Nat} {P rest : Heap} {a : AV} {es : List (List AV)} (x : List AV) (ex : Bool) (h : AccIn sz P.length rest a es) (h0 : 0 < sz) (hb : byt ≤ 1024) (hn : es.length < 16777215) :
    ∃ a' rest', apA sz byt a (.sl sz ex [x]) (P ++ rest) = some (a', P ++ rest') ∧ AccIn sz P.length rest' a' (es ++ [x]) :=
  h.pushs (xs := [x]) rfl (by simp [szOk, elemSz, beq_d]) (fun b hb => by cases hb) (by simp) h0 hb (by simp; omega)
theorem AccIn.noRef {sz base : Nat} {rest : Heap} {a : AV} {es : List (List AV)} (h : AccIn sz base rest a es) : a.noRef = es.isEmpty := by
  rcases h with ⟨rfl, rfl⟩ | ⟨j, h0, rfl, h2⟩
  · rfl
  · cases es with
    | nil => exact absurd rfl h0
    | cons => rfl
theorem AccIn.cells {sz base : Nat} {rest : Heap} {a : AV} {es : List (List AV)} (h : AccIn sz base rest a es) : a.cells = some [a] := by
  rcases h with ⟨rfl, rfl⟩ | ⟨j, h0, rfl, h2⟩ <;> rfl
theorem AccIn.snap {sz n : Nat} {P rest : Heap} {a : AV} {es : List (List AV)} (h : AccIn sz P.length rest a es) (hn : es.all noRefs = true) (h0 : es ≠ []) :
    Am.snap (n + 1) a (P ++ rest) = some (.sl sz false es, P ++ (match a with | .hs id _ _ _ _ _ => rest.set (id - P.length) (.arr sz true es) | _ => rest)) := by
  rcases h with ⟨rfl, rfl⟩ | ⟨j, _, rfl, h2⟩
  · exact absurd rfl h0
  · have hg : (P ++ rest)[P.length + j]? = some (.arr sz false es) := by rw [List.getElem?_append_right (by omega)]; simpa using h2
    have hb : (Nat.beq es.length es.length && Nat.beq sz sz && Nat.ble (0 + es.length) es.length && es.all noRefs) = true := by simp [beq_d, ble_d, hn]
    simp only [Am.snap, hg, hb]
    simp [List.set_append_right]
theorem AccIn.rep {α : Type} {R : α → List AV → Prop} {l : List α} {es : List (List AV)} {sz : Nat} (hl : es.length = l.length) (hr : ∀ (i : Nat) a e, l[i]? = some a → es[i]? = some e → R a e) (ex : Bool) : SlR R sz l (.sl sz ex es) := .inr ⟨ex, es, rfl, hl, hr⟩
theorem rep_push {α : Type} {R : α → List AV → Prop} {l : List α} {es : List (List AV)} (hl : es.length = l.length) (hr : ∀ (i : Nat) a e, l[i]? = some a → es[i]? = some e → R a e) {a : α} {e : List AV} (h : R a e) :
    (es ++ [e]).length = (l ++ [a]).length ∧ ∀ (i : Nat) a' e', (l ++ [a])[i]? = some a' → (es ++ [e])[i]? = some e' → R a' e' := by
  refine ⟨by simp [hl], fun i a' e' h1 h2 => ?_⟩
  by_cases hi : i < l.length
  · rw [List.getElem?_append_left hi] at h1
    rw [List.getElem?_append_left (by omega)] at h2
    exact hr i a' e' h1 h2
  · rw [List.getElem?_append_right (by omega)] at h1
    rw [List.getElem?_append_right (by omega)] at h2
    rw [hl] at h2
    cases hk : i - l.length with
    | zero => rw [hk] at h1 h2; simp at h1 h2; exact h1 ▸ h2 ▸ h
    | succ k => rw [hk] at h1; simp at h1
theorem reps_noRefs {α : Type} {R : α → List AV → Prop} {l : List α} {es : List (List AV)} (hl : es.length = l.length) (hr : ∀ (i : Nat) a e, l[i]? = some a → es[i]? = some e → R a e) (hR : ∀ a e, R a e → noRefs e = true) : es.all noRefs = true := by
  rw [List.all_eq_true]
  intro e he
  obtain ⟨i, hi, rfl⟩ := List.getElem_of_mem he
  exact hR _ _ (hr i l[i] es[i] (List.getElem?_eq_getElem (by omega)) (List.getElem?_eq_getElem hi))
def kdSh : Kd → Nat
  | .st => 0
  | .ld _ => 1
  | .ch _ => 2
def loudS : Nat → List Nat → List (Nat × Nat)
  | _, [] => []
  | k, 0 :: r => loudS (k + 1) r
  | k, x :: r => (k, x) :: loudS (k + 1) r
def befOf (ops : Array Oper) : List (List Nat) := (Region.before ops).toList.map fun m => (List.range ops.size).filter m.testBit
def okPairsL (L : List (List Nat)) : List (Nat × Nat) → Bool
  | [] => true
  | (i, x) :: r => (r.all fun p => decide (x + p.2 < 3) || (L.getD p.1 []).elem i) && okPairsL L r
theorem okDraw_l {ops : Array Oper} {ks : List Kd} (h : okPairsL (befOf ops) (loudS 0 (ks.map kdSh)) = true) : okDraw ops ks = true := by
  unfold okDraw
  have h1 : ∀ (ks : List Kd) (k : Nat), loudS k (ks.map kdSh) = (loudOf k ks).map fun p => (p.1, kdSh p.2) := by
    intro ks
    induction ks with
    | nil => intro k; rfl
    | cons a r ih => intro k; cases a <;> simp [loudS, loudOf, kdSh, ih]
  rw [h1] at h
  have hb : ∀ i j, ((befOf ops).getD j []).elem i = true → ((Region.before ops).getD j 0).testBit i = true := by
    intro i j h
    unfold befOf at h
    rw [List.getD_eq_getElem?_getD, List.getElem?_map] at h
    cases hm : (Region.before ops).toList[j]? with
    | none => rw [hm] at h; simp at h
    | some m =>
      rw [hm] at h
      simp only [Option.map_some, Option.getD_some, List.elem_eq_mem, decide_eq_true_eq, List.mem_filter] at h
      have hm' : (Region.before ops)[j]? = some m := by simpa using hm
      rw [Array.getD_eq_getD_getElem?, hm']
      exact h.2
  have h2 : ∀ (l : List (Nat × Kd)), okPairsL (befOf ops) (l.map fun p => (p.1, kdSh p.2)) = true → okPairs (Region.before ops) l = true := by
    intro l
    induction l with
    | nil => intro _; rfl
    | cons a r ih =>
      intro h
      obtain ⟨i, x⟩ := a
      simp only [List.map_cons, okPairsL, Bool.and_eq_true, List.all_eq_true, List.mem_map] at h
      simp only [okPairs, Bool.and_eq_true, List.all_eq_true]
      refine ⟨fun p hp => ?_, ih h.2⟩
      have := h.1 (p.1, kdSh p.2) ⟨p, hp, rfl⟩
      obtain ⟨j, y⟩ := p
      simp only [Bool.or_eq_true, Bool.not_eq_true', decide_eq_true_eq] at this ⊢
      rcases this with h3 | h3
      · left
        cases x <;> cases y <;> first | rfl | (simp [kdSh] at h3; done)
      · right; exact hb i j h3
  exact h2 _ h
def opsAt (id : Nat) : Code → Option (Array Oper)
  | .region i ops _ => match Nat.beq i id with
    | true => some ops
    | false => none
  | .seq a b => match opsAt id a with
    | some o => some o
    | none => opsAt id b
  | .cond _ a b => match opsAt id a with
    | some o => some o
    | none => opsAt id b
  | .block _ c => opsAt id c
  | .loop c => opsAt id c
  | _ => none
def opsF (fn : Func) (id : Nat) : Array Oper := match fn.body with
  | some c => (opsAt id c).getD #[]
  | none => #[]
end Go.Am
namespace Go.Am
open Go
def SnapIn (K : Nat) (c : AV) (h : Heap) (c' : AV) (h' : Heap) : Prop := ∀ n, snap (n + K) c h = some (c', h')
def SnapsIn (K : Nat) (cs : List AV) (h : Heap) (cs' : List AV) (h' : Heap) : Prop := ∀ n, snaps (n + K) cs h = some (cs', h')
def SnapssIn (K : Nat) (es : List (List AV)) (h : Heap) (es' : List (List AV)) (h' : Heap) : Prop := ∀ n, snapss (n + K) es h = some (es', h')
theorem SnapIn.mono {K K' : Nat} {c c' : AV} {h h' : Heap} (s : SnapIn K c h c' h') (hk : K ≤ K') : SnapIn K' c h c' h' := fun n => by
  have := s (n + (K' - K)); rwa [show n + (K' - K) + K = n + K' by omega] at this
theorem SnapsIn.mono {K K' : Nat} {c c' : List AV} {h h' : Heap} (s : SnapsIn K c h c' h') (hk : K ≤ K') : SnapsIn K' c h c' h' := fun n => by
  have := s (n + (K' - K)); rwa [show n + (K' - K) + K = n + K' by omega] at this
theorem SnapssIn.mono {K K' : Nat} {c c' : List (List AV)} {h h' : Heap} (s : SnapssIn K c h c' h') (hk : K ≤ K') : SnapssIn K' c h c' h' := fun n => by
  have := s (n + (K' - K)); rwa [show n + (K' - K) + K = n + K' by omega] at this
theorem SnapIn.at {K : Nat} {c c' : AV} {h h' : Heap} (s : SnapIn K c h c' h') (hk : K ≤ snapN) : snap snapN c h = some (c', h') := by
  have := s (snapN - K); rwa [show snapN - K + K = snapN by omega] at this
theorem SnapsIn.nil (h : Heap) : SnapsIn 1 [] h [] h := fun _ => rfl
theorem SnapsIn.cons {K L : Nat} {c c' : AV} {cs cs' : List AV} {h h1 h2 : Heap} (a : SnapIn K c h c' h1) (b : SnapsIn L cs h1 cs' h2) : SnapsIn (max K L + 1) (c :: cs) h (c' :: cs') h2 := fun n => by
  have e1 := a.mono (Nat.le_max_left K L) n
  have e2 := b.mono (Nat.le_max_right K L) n
  show snaps ((n + max K L) + 1) _ _ = _
  simp only [snaps, e1, e2]
theorem SnapssIn.nil (h : Heap) : SnapssIn 1 [] h [] h := fun _ => rfl
theorem SnapssIn.cons {K L : Nat} {c c' : List AV} {cs cs' : List (List AV)} {h h1 h2 : Heap} (a : SnapsIn K c h c' h1) (b : SnapssIn L cs h1 cs' h2) : SnapssIn (max K L + 1) (c :: cs) h (c' :: cs') h2 := fun n => by
  have e1 := a.mono (Nat.le_max_left K L) n
  have e2 := b.mono (Nat.le_max_right K L) n
  show snapss ((n + max K L) + 1) _ _ = _
  simp only [snapss, e1, e2]
def AV.flat : AV → Bool
  | .hp .. => false
  | .ep .. => false
  | .hs .. => false
  | .hm .. => false
  | .iface .. => false
  | .agg cs => noRefs cs
  | .tup cs => noRefs cs
  | .fn _ fs cs => noRefs fs && noRefs cs
  | _ => true
theorem SnapIn.flat {c : AV} (hc : c.flat = true) (h : Heap) : SnapIn 1 c h c h := fun n => by
  cases c <;> first | rfl | (simp only [AV.flat] at hc; simp only [snap, hc]; done) | cases hc
theorem SnapIn.agg {K : Nat} {cs cs' : List AV} {h h' : Heap} (hn : noRefs cs = false) (s : SnapsIn K cs h cs' h') : SnapIn (K + 1) (.agg cs) h (.agg cs') h' := fun n => by
  show snap ((n + K) + 1) _ _ = _
  simp only [snap, hn, s n, Option.map_some]
theorem SnapIn.tup {K : Nat} {cs cs' : List AV} {h h' : Heap} (hn : noRefs cs = false) (s : SnapsIn K cs h cs' h') : SnapIn (K + 1) (.tup cs) h (.tup cs') h' := fun n => by
  show snap ((n + K) + 1) _ _ = _
  simp only [snap, hn, s n, Option.map_some]
theorem AccIn.snapIn {sz : Nat} {P rest : Heap} {a : AV} {es : List (List AV)} (h : AccIn sz P.length rest a es) (hn : es.all noRefs = true) :
    ∃ v' rest', SnapIn 1 a (P ++ rest) v' (P ++ rest') ∧ ((es = [] ∧ v' = .nils) ∨ v' = .sl sz false es) := by
  by_cases h0 : es = []
  · rcases h with ⟨_, rfl⟩ | ⟨_, h1, _⟩
    · exact ⟨.nils, rest, fun n => rfl, .inl ⟨h0, rfl⟩⟩
    · exact absurd h0 h1
  · exact ⟨_, _, fun n => h.snap hn h0, .inr rfl⟩
end Go.Am
namespace Go.Proofs.Am12
open Go Go.Am
set_option maxRecDepth 10000
@[simp] theorem fn_5 : MX.fn 5 = some Tryz.f5 := by kernel_rfl
@[simp] theorem eff_5 : MX.eff 5 = none := by kernel_rfl
@[simp] theorem mut_5 : MX.mutLit 5 = false := by kernel_rfl
@[simp] theorem keep_5_0 : MX.keep 5 0 = some [1] := by kernel_rfl
@[simp] theorem keep_5_1 : MX.keep 5 1 = some [1, 10] := by kernel_rfl
@[simp] theorem keep_5_3 : MX.keep 5 3 = some [1, 13] := by kernel_rfl
@[simp] theorem keep_5_4 : MX.keep 5 4 = some [2] := by kernel_rfl
@[simp] theorem keep_5_5 : MX.keep 5 5 = some [1, 3, 4] := by kernel_rfl
@[simp] theorem keep_5_6 : MX.keep 5 6 = some [1, 3, 4, 5, 6] := by kernel_rfl
@[simp] theorem keep_5_7 : MX.keep 5 7 = some [1, 39] := by kernel_rfl
@[simp] theorem keep_5_9 : MX.keep 5 9 = some [1, 43] := by kernel_rfl
@[simp] theorem keep_5_10 : MX.keep 5 10 = some [2] := by kernel_rfl
@[simp] theorem keep_5_11 : MX.keep 5 11 = some [1, 7] := by kernel_rfl
@[simp] theorem keep_5_12 : MX.keep 5 12 = some [1, 7, 8] := by kernel_rfl
@[simp] theorem keep_5_13 : MX.keep 5 13 = some [1, 7, 8, 60] := by kernel_rfl
@[simp] theorem keep_5_14 : MX.keep 5 14 = some [7, 8] := by kernel_rfl
@[simp] theorem keep_5_15 : MX.keep 5 15 = some [2] := by kernel_rfl
@[simp] theorem fn_11 : MX.fn 11 = some Tryz.f11 := by kernel_rfl
@[simp] theorem eff_11 : MX.eff 11 = none := by kernel_rfl
@[simp] theorem prim_11 : MX.prim 11 = none := by kernel_rfl
@[simp] theorem mode_11 : MX.mode 11 = { fresh := true, keepTop := false } := rfl
@[simp] theorem keep_11_0 : MX.keep 11 0 = some [1] := by kernel_rfl
@[simp] theorem keep_11_1 : MX.keep 11 1 = some [1, 16] := by kernel_rfl
@[simp] theorem keep_11_2 : MX.keep 11 2 = some [2] := by kernel_rfl
@[simp] theorem keep_11_3 : MX.keep 11 3 = some [1, 3] := by kernel_rfl
@[simp] theorem keep_11_4 : MX.keep 11 4 = some [1, 3, 21] := by kernel_rfl
@[simp] theorem keep_11_5 : MX.keep 11 5 = some [1, 3] := by kernel_rfl
@[simp] theorem keep_11_6 : MX.keep 11 6 = some [1, 3, 41] := by kernel_rfl
@[simp] theorem keep_11_7 : MX.keep 11 7 = some [2] := by kernel_rfl
@[simp] theorem keep_11_8 : MX.keep 11 8 = some [1, 3, 4] := by kernel_rfl
@[simp] theorem keep_11_9 : MX.keep 11 9 = some [1, 3, 4, 50] := by kernel_rfl
@[simp] theorem keep_11_10 : MX.keep 11 10 = some [1, 3, 4] := by kernel_rfl
@[simp] theorem keep_11_11 : MX.keep 11 11 = some [1, 3, 4, 5] := by kernel_rfl
@[simp] theorem keep_11_12 : MX.keep 11 12 = some [1, 3, 4, 5, 65] := by kernel_rfl
@[simp] theorem keep_11_13 : MX.keep 11 13 = some [2] := by kernel_rfl
@[simp] theorem keep_11_14 : MX.keep 11 14 = some [1, 3, 4, 5, 6] := by kernel_rfl
@[simp] theorem keep_11_15 : MX.keep 11 15 = some [1, 3, 4, 5, 6, 69] := by kernel_rfl
@[simp] theorem keep_11_16 : MX.keep 11 16 = some [1, 3, 4, 5, 6] := by kernel_rfl
@[simp] theorem keep_11_17 : MX.keep 11 17 = some [1, 3, 4, 5, 6, 78] := by kernel_rfl
@[simp] theorem keep_11_18 : MX.keep 11 18 = some [2] := by kernel_rfl
@[simp] theorem keep_11_19 : MX.keep 11 19 = some [2] := by kernel_rfl
@[simp] theorem fn_26 : MX.fn 26 = some Tryz.f26 := by kernel_rfl
@[simp] theorem eff_26 : MX.eff 26 = none := by kernel_rfl
@[simp] theorem prim_26 : MX.prim 26 = none := by kernel_rfl
@[simp] theorem mode_26 : MX.mode 26 = { fresh := true, keepTop := false } := rfl
@[simp] theorem keep_26_0 : MX.keep 26 0 = some [0, 3] := by kernel_rfl
@[simp] theorem keep_26_1 : MX.keep 26 1 = some [0, 3, 6] := by kernel_rfl
@[simp] theorem keep_26_2 : MX.keep 26 2 = some [4] := by kernel_rfl
@[simp] theorem keep_26_3 : MX.keep 26 3 = some [4] := by kernel_rfl
@[simp] theorem fn_30 : MX.fn 30 = some Tryz.f30 := by kernel_rfl
@[simp] theorem eff_30 : MX.eff 30 = none := by kernel_rfl
@[simp] theorem prim_30 : MX.prim 30 = none := by kernel_rfl
@[simp] theorem mode_30 : MX.mode 30 = { fresh := true, keepTop := false } := rfl
@[simp] theorem keep_30_0 : MX.keep 30 0 = some [0, 2, 4] := by kernel_rfl
@[simp] theorem keep_30_1 : MX.keep 30 1 = some [9, 10] := by kernel_rfl
@[simp] theorem keep_30_2 : MX.keep 30 2 = some [6, 7] := by kernel_rfl
@[simp] theorem fn_31 : MX.fn 31 = some Tryz.f31 := by kernel_rfl
@[simp] theorem eff_31 : MX.eff 31 = none := by kernel_rfl
@[simp] theorem prim_31 : MX.prim 31 = none := by kernel_rfl
@[simp] theorem mode_31 : MX.mode 31 = { fresh := true, keepTop := false } := rfl
@[simp] theorem mut_31 : MX.mutLit 31 = false := by kernel_rfl
@[simp] theorem keep_31_0 : MX.keep 31 0 = some [0] := by kernel_rfl
@[simp] theorem keep_31_1 : MX.keep 31 1 = some [0, 3] := by kernel_rfl
@[simp] theorem keep_31_2 : MX.keep 31 2 = some [0, 3, 4] := by kernel_rfl
@[simp] theorem keep_31_3 : MX.keep 31 3 = some [0, 3, 4, 11] := by kernel_rfl
@[simp] theorem keep_31_4 : MX.keep 31 4 = some [0, 3, 4] := by kernel_rfl
@[simp] theorem keep_31_5 : MX.keep 31 5 = some [0, 3, 4, 5] := by kernel_rfl
@[simp] theorem keep_31_6 : MX.keep 31 6 = some [0, 3, 4, 5, 6] := by kernel_rfl
@[simp] theorem keep_31_7 : MX.keep 31 7 = some [0, 3, 4, 5, 6, 33] := by kernel_rfl
@[simp] theorem keep_31_8 : MX.keep 31 8 = some [0, 3, 4, 5, 6] := by kernel_rfl
@[simp] theorem keep_31_9 : MX.keep 31 9 = some [0, 3, 4, 5, 6, 7] := by kernel_rfl
@[simp] theorem keep_31_10 : MX.keep 31 10 = some [0, 3, 4, 5, 6] := by kernel_rfl
@[simp] theorem keep_31_11 : MX.keep 31 11 = some [0, 3, 4] := by kernel_rfl
@[simp] theorem keep_31_12 : MX.keep 31 12 = some [2] := by kernel_rfl
@[simp] theorem fn_32 : MX.fn 32 = some Tryz.f32 := by kernel_rfl
@[simp] theorem eff_32 : MX.eff 32 = none := by kernel_rfl
@[simp] theorem prim_32 : MX.prim 32 = none := by kernel_rfl
@[simp] theorem mode_32 : MX.mode 32 = { fresh := true, keepTop := false } := rfl
@[simp] theorem keep_32_0 : MX.keep 32 0 = some [1] := by kernel_rfl
@[simp] theorem keep_32_1 : MX.keep 32 1 = some [1, 4] := by kernel_rfl
@[simp] theorem keep_32_2 : MX.keep 32 2 = some [1, 4, 13] := by kernel_rfl
@[simp] theorem keep_32_3 : MX.keep 32 3 = some [2, 3] := by kernel_rfl
@[simp] theorem keep_32_4 : MX.keep 32 4 = some [1, 18] := by kernel_rfl
@[simp] theorem keep_32_5 : MX.keep 32 5 = some [2, 3] := by kernel_rfl
@[simp] theorem keep_32_6 : MX.keep 32 6 = some [1, 22] := by kernel_rfl
@[simp] theorem keep_32_7 : MX.keep 32 7 = some [2, 3] := by kernel_rfl
@[simp] theorem keep_32_8 : MX.keep 32 8 = some [1, 5] := by kernel_rfl
@[simp] theorem keep_32_9 : MX.keep 32 9 = some [1, 5, 27] := by kernel_rfl
@[simp] theorem keep_32_10 : MX.keep 32 10 = some [1, 5] := by kernel_rfl
@[simp] theorem keep_32_11 : MX.keep 32 11 = some [1, 5, 6] := by kernel_rfl
@[simp] theorem keep_32_12 : MX.keep 32 12 = some [1, 5, 6, 41] := by kernel_rfl
@[simp] theorem keep_32_13 : MX.keep 32 13 = some [2, 3] := by kernel_rfl
@[simp] theorem keep_32_14 : MX.keep 32 14 = some [2, 3] := by kernel_rfl
@[simp] theorem fn_33 : MX.fn 33 = some Tryz.f33 := by kernel_rfl
@[simp] theorem eff_33 : MX.eff 33 = none := by kernel_rfl
@[simp] theorem prim_33 : MX.prim 33 = none := by kernel_rfl
@[simp] theorem mode_33 : MX.mode 33 = { fresh := true, keepTop := false } := rfl
@[simp] theorem keep_33_0 : MX.keep 33 0 = some [0, 4, 5] := by kernel_rfl
@[simp] theorem keep_33_1 : MX.keep 33 1 = some [5, 7, 8] := by kernel_rfl
@[simp] theorem keep_33_2 : MX.keep 33 2 = some [5, 7, 8, 16] := by kernel_rfl
@[simp] theorem keep_33_3 : MX.keep 33 3 = some [6] := by kernel_rfl
@[simp] theorem keep_33_4 : MX.keep 33 4 = some [6] := by kernel_rfl
@[simp] theorem fn_34 : MX.fn 34 = some Tryz.f34 := by kernel_rfl
@[simp] theorem eff_34 : MX.eff 34 = none := by kernel_rfl
@[simp] theorem prim_34 : MX.prim 34 = none := by kernel_rfl
@[simp] theorem mode_34 : MX.mode 34 = { fresh := true, keepTop := false } := rfl
@[simp] theorem keep_34_0 : MX.keep 34 0 = some [0, 3] := by kernel_rfl
@[simp] theorem keep_34_1 : MX.keep 34 1 = some [0, 3, 5] := by kernel_rfl
@[simp] theorem keep_34_2 : MX.keep 34 2 = some [0, 3, 5, 9] := by kernel_rfl
@[simp] theorem keep_34_3 : MX.keep 34 3 = some [4] := by kernel_rfl
@[simp] theorem keep_34_4 : MX.keep 34 4 = some [4] := by kernel_rfl
@[simp] theorem fn_35 : MX.fn 35 = some Tryz.f35 := by kernel_rfl
@[simp] theorem eff_35 : MX.eff 35 = none := by kernel_rfl
@[simp] theorem prim_35 : MX.prim 35 = none := by kernel_rfl
@[simp] theorem mode_35 : MX.mode 35 = { fresh := true, keepTop := false } := rfl
@[simp] theorem keep_35_0 : MX.keep 35 0 = some [0, 4, 5] := by kernel_rfl
@[simp] theorem keep_35_1 : MX.keep 35 1 = some [0, 4, 5, 12] := by kernel_rfl
@[simp] theorem keep_35_2 : MX.keep 35 2 = some [6] := by kernel_rfl
@[simp] theorem keep_35_3 : MX.keep 35 3 = some [5, 7] := by kernel_rfl
@[simp] theorem keep_35_4 : MX.keep 35 4 = some [5, 7, 18] := by kernel_rfl
@[simp] theorem keep_35_5 : MX.keep 35 5 = some [6] := by kernel_rfl
@[simp] theorem keep_35_6 : MX.keep 35 6 = some [8] := by kernel_rfl
@[simp] theorem keep_35_7 : MX.keep 35 7 = some [8, 9] := by kernel_rfl
@[simp] theorem keep_35_8 : MX.keep 35 8 = some [8, 9, 25] := by kernel_rfl
@[simp] theorem keep_35_9 : MX.keep 35 9 = some [8, 9] := by kernel_rfl
@[simp] theorem keep_35_10 : MX.keep 35 10 = some [8, 9, 35] := by kernel_rfl
@[simp] theorem keep_35_11 : MX.keep 35 11 = some [6] := by kernel_rfl
@[simp] theorem keep_35_12 : MX.keep 35 12 = some [6] := by kernel_rfl
@[simp] theorem fn_59 : MX.fn 59 = some Tryz.f59 := by kernel_rfl
@[simp] theorem eff_59 : MX.eff 59 = none := by kernel_rfl
@[simp] theorem prim_59 : MX.prim 59 = none := by kernel_rfl
@[simp] theorem mode_59 : MX.mode 59 = { fresh := true, keepTop := false } := rfl
@[simp] theorem keep_59_0 : MX.keep 59 0 = some [1] := by kernel_rfl
@[simp] theorem keep_59_1 : MX.keep 59 1 = some [2] := by kernel_rfl
@[simp] theorem fn_66 : MX.fn 66 = some Tryz.f66 := by kernel_rfl
@[simp] theorem eff_66 : MX.eff 66 = none := by kernel_rfl
@[simp] theorem prim_66 : MX.prim 66 = none := by kernel_rfl
@[simp] theorem mode_66 : MX.mode 66 = { fresh := true, keepTop := false } := rfl
@[simp] theorem keep_66_0 : MX.keep 66 0 = some [1] := by kernel_rfl
@[simp] theorem keep_66_1 : MX.keep 66 1 = some [2] := by kernel_rfl
@[simp] theorem fn_67 : MX.fn 67 = some Tryz.f67 := by kernel_rfl
@[simp] theorem eff_67 : MX.eff 67 = none := by kernel_rfl
@[simp] theorem prim_67 : MX.prim 67 = none := by kernel_rfl
@[simp] theorem mode_67 : MX.mode 67 = { fresh := true, keepTop := false } := rfl
@[simp] theorem keep_67_0 : MX.keep 67 0 = some [0] := by kernel_rfl
@[simp] theorem keep_67_1 : MX.keep 67 1 = some [2] := by kernel_rfl
@[simp] theorem fn_68 : MX.fn 68 = some Tryz.f68 := by kernel_rfl
@[simp] theorem eff_68 : MX.eff 68 = none := by kernel_rfl
@[simp] theorem prim_68 : MX.prim 68 = none := by kernel_rfl
@[simp] theorem mode_68 : MX.mode 68 = { fresh := true, keepTop := false } := rfl
@[simp] theorem mut_68 : MX.mutLit 68 = false := by kernel_rfl
@[simp] theorem keep_68_0 : MX.keep 68 0 = some [0, 3] := by kernel_rfl
@[simp] theorem keep_68_1 : MX.keep 68 1 = some [0, 3, 13] := by kernel_rfl
@[simp] theorem keep_68_2 : MX.keep 68 2 = some [4] := by kernel_rfl
@[simp] theorem keep_68_3 : MX.keep 68 3 = some [3, 5] := by kernel_rfl
@[simp] theorem keep_68_4 : MX.keep 68 4 = some [3, 5, 6] := by kernel_rfl
@[simp] theorem keep_68_5 : MX.keep 68 5 = some [3, 5, 6, 7] := by kernel_rfl
@[simp] theorem keep_68_6 : MX.keep 68 6 = some [3, 5, 6, 7, 28] := by kernel_rfl
@[simp] theorem keep_68_7 : MX.keep 68 7 = some [3, 5, 6, 7] := by kernel_rfl
@[simp] theorem keep_68_8 : MX.keep 68 8 = some [3, 5, 6, 7, 8] := by kernel_rfl
@[simp] theorem keep_68_9 : MX.keep 68 9 = some [3, 5, 6, 7, 8, 9] := by kernel_rfl
@[simp] theorem keep_68_10 : MX.keep 68 10 = some [3, 5, 6, 7, 8, 9, 46] := by kernel_rfl
@[simp] theorem keep_68_11 : MX.keep 68 11 = some [3, 5, 6, 7, 8, 9] := by kernel_rfl
@[simp] theorem keep_68_12 : MX.keep 68 12 = some [3, 5, 6, 7, 8, 9, 10] := by kernel_rfl
@[simp] theorem keep_68_13 : MX.keep 68 13 = some [3, 5, 6, 7, 8, 9] := by kernel_rfl
@[simp] theorem keep_68_14 : MX.keep 68 14 = some [3, 5, 6, 7] := by kernel_rfl
@[simp] theorem keep_68_15 : MX.keep 68 15 = some [4] := by kernel_rfl
@[simp] theorem fn_72 : MX.fn 72 = some Tryz.f72 := by kernel_rfl
@[simp] theorem eff_72 : MX.eff 72 = none := by kernel_rfl
@[simp] theorem prim_72 : MX.prim 72 = none := by kernel_rfl
@[simp] theorem mode_72 : MX.mode 72 = { fresh := true, keepTop := false } := rfl
@[simp] theorem keep_72_0 : MX.keep 72 0 = some [0, 1] := by kernel_rfl
@[simp] theorem keep_72_1 : MX.keep 72 1 = some [0, 1, 5] := by kernel_rfl
@[simp] theorem keep_72_2 : MX.keep 72 2 = some [0, 1, 5, 9] := by kernel_rfl
@[simp] theorem keep_72_3 : MX.keep 72 3 = some [0, 1, 5] := by kernel_rfl
@[simp] theorem keep_72_4 : MX.keep 72 4 = some [0, 1, 5, 18] := by kernel_rfl
@[simp] theorem keep_72_5 : MX.keep 72 5 = some [4] := by kernel_rfl
@[simp] theorem keep_72_6 : MX.keep 72 6 = some [4] := by kernel_rfl
@[simp] theorem prim_73 : MX.prim 73 = none := by kernel_rfl
@[simp] theorem mode_73 : MX.mode 73 = { fresh := true, keepTop := false } := rfl
@[simp] theorem fn_74 : MX.fn 74 = some Tryz.f74 := by kernel_rfl
@[simp] theorem eff_74 : MX.eff 74 = none := by kernel_rfl
@[simp] theorem prim_74 : MX.prim 74 = none := by kernel_rfl
@[simp] theorem mode_74 : MX.mode 74 = { fresh := true, keepTop := false } := rfl
@[simp] theorem keep_74_0 : MX.keep 74 0 = some [0, 3] := by kernel_rfl
@[simp] theorem keep_74_1 : MX.keep 74 1 = some [0, 5, 6] := by kernel_rfl
@[simp] theorem keep_74_2 : MX.keep 74 2 = some [0, 5, 6, 7] := by kernel_rfl
@[simp] theorem keep_74_3 : MX.keep 74 3 = some [0, 5, 6, 7, 14] := by kernel_rfl
@[simp] theorem keep_74_4 : MX.keep 74 4 = some [0, 5, 6, 7] := by kernel_rfl
@[simp] theorem keep_74_5 : MX.keep 74 5 = some [0, 5, 6, 7] := by kernel_rfl
@[simp] theorem keep_74_6 : MX.keep 74 6 = some [4] := by kernel_rfl
@[simp] theorem fn_79 : MX.fn 79 = some Tryz.f79 := by kernel_rfl
@[simp] theorem eff_79 : MX.eff 79 = none := by kernel_rfl
@[simp] theorem prim_79 : MX.prim 79 = none := by kernel_rfl
@[simp] theorem mode_79 : MX.mode 79 = { } := rfl
@[simp] theorem mut_79 : MX.mutLit 79 = false := by kernel_rfl
@[simp] theorem keep_79_0 : MX.keep 79 0 = some [0, 2, 4] := by kernel_rfl
@[simp] theorem keep_79_1 : MX.keep 79 1 = some [2, 9, 10] := by kernel_rfl
@[simp] theorem keep_79_2 : MX.keep 79 2 = some [2, 9, 10] := by kernel_rfl
@[simp] theorem keep_79_3 : MX.keep 79 3 = some [2, 9, 10, 32] := by kernel_rfl
@[simp] theorem keep_79_4 : MX.keep 79 4 = some [6, 7, 8] := by kernel_rfl
@[simp] theorem keep_79_5 : MX.keep 79 5 = some [9, 34, 35, 36] := by kernel_rfl
@[simp] theorem keep_79_6 : MX.keep 79 6 = some [9, 34, 35, 36, 37] := by kernel_rfl
@[simp] theorem keep_79_7 : MX.keep 79 7 = some [9, 11, 12, 34, 35, 36] := by kernel_rfl
@[simp] theorem keep_79_8 : MX.keep 79 8 = some [9, 11, 13, 34, 35, 36] := by kernel_rfl
@[simp] theorem keep_79_9 : MX.keep 79 9 = some [9, 11, 13, 34, 35, 36, 45] := by kernel_rfl
@[simp] theorem keep_79_10 : MX.keep 79 10 = some [6, 7, 8] := by kernel_rfl
@[simp] theorem keep_79_11 : MX.keep 79 11 = some [9, 34, 35, 36] := by kernel_rfl
@[simp] theorem keep_79_12 : MX.keep 79 12 = some [6, 7, 8] := by kernel_rfl
@[simp] theorem fn_80 : MX.fn 80 = some Tryz.f80 := by kernel_rfl
@[simp] theorem eff_80 : MX.eff 80 = none := by kernel_rfl
@[simp] theorem prim_80 : MX.prim 80 = none := by kernel_rfl
@[simp] theorem mode_80 : MX.mode 80 = { fresh := true, keepTop := false } := rfl
@[simp] theorem mut_80 : MX.mutLit 80 = false := by kernel_rfl
@[simp] theorem keep_80_0 : MX.keep 80 0 = some [0] := by kernel_rfl
@[simp] theorem keep_80_1 : MX.keep 80 1 = some [2] := by kernel_rfl
@[simp] theorem fn_81 : MX.fn 81 = some Tryz.f81 := by kernel_rfl
@[simp] theorem eff_81 : MX.eff 81 = none := by kernel_rfl
@[simp] theorem prim_81 : MX.prim 81 = none := by kernel_rfl
@[simp] theorem mode_81 : MX.mode 81 = { fresh := true, keepTop := false } := rfl
@[simp] theorem mut_81 : MX.mutLit 81 = false := by kernel_rfl
@[simp] theorem keep_81_0 : MX.keep 81 0 = some [0] := by kernel_rfl
@[simp] theorem keep_81_1 : MX.keep 81 1 = some [0, 3] := by kernel_rfl
@[simp] theorem keep_81_2 : MX.keep 81 2 = some [0, 3, 4] := by kernel_rfl
@[simp] theorem keep_81_3 : MX.keep 81 3 = some [0, 3, 4, 8] := by kernel_rfl
@[simp] theorem keep_81_4 : MX.keep 81 4 = some [0, 3, 4] := by kernel_rfl
@[simp] theorem keep_81_5 : MX.keep 81 5 = some [0, 3, 4] := by kernel_rfl
@[simp] theorem keep_81_6 : MX.keep 81 6 = some [2] := by kernel_rfl
@[simp] theorem fn_82 : MX.fn 82 = some Tryz.f82 := by kernel_rfl
@[simp] theorem eff_82 : MX.eff 82 = none := by kernel_rfl
@[simp] theorem prim_82 : MX.prim 82 = none := by kernel_rfl
@[simp] theorem mode_82 : MX.mode 82 = { } := rfl
@[simp] theorem keep_82_0 : MX.keep 82 0 = some [0, 3] := by kernel_rfl
@[simp] theorem keep_82_1 : MX.keep 82 1 = some [0, 3, 6] := by kernel_rfl
@[simp] theorem keep_82_2 : MX.keep 82 2 = some [0, 3, 6, 11] := by kernel_rfl
@[simp] theorem keep_82_3 : MX.keep 82 3 = some [4, 5] := by kernel_rfl
@[simp] theorem keep_82_4 : MX.keep 82 4 = some [4, 5] := by kernel_rfl
@[simp] theorem fn_83 : MX.fn 83 = some Tryz.f83 := by kernel_rfl
@[simp] theorem eff_83 : MX.eff 83 = none := by kernel_rfl
@[simp] theorem prim_83 : MX.prim 83 = none := by kernel_rfl
@[simp] theorem mode_83 : MX.mode 83 = { } := rfl
@[simp] theorem keep_83_0 : MX.keep 83 0 = some [0, 3] := by kernel_rfl
@[simp] theorem keep_83_1 : MX.keep 83 1 = some [0, 3, 5] := by kernel_rfl
@[simp] theorem keep_83_2 : MX.keep 83 2 = some [0, 3, 5, 11] := by kernel_rfl
@[simp] theorem keep_83_3 : MX.keep 83 3 = some [4] := by kernel_rfl
@[simp] theorem keep_83_4 : MX.keep 83 4 = some [3, 6] := by kernel_rfl
@[simp] theorem keep_83_5 : MX.keep 83 5 = some [3, 6, 17] := by kernel_rfl
@[simp] theorem keep_83_6 : MX.keep 83 6 = some [4] := by kernel_rfl
@[simp] theorem keep_83_7 : MX.keep 83 7 = some [7] := by kernel_rfl
@[simp] theorem keep_83_8 : MX.keep 83 8 = some [7] := by kernel_rfl
@[simp] theorem keep_83_9 : MX.keep 83 9 = some [4] := by kernel_rfl
@[simp] theorem fn_84 : MX.fn 84 = some Tryz.f84 := by kernel_rfl
@[simp] theorem eff_84 : MX.eff 84 = none := by kernel_rfl
@[simp] theorem prim_84 : MX.prim 84 = none := by kernel_rfl
@[simp] theorem mode_84 : MX.mode 84 = { fresh := true, keepTop := false } := rfl
@[simp] theorem keep_84_0 : MX.keep 84 0 = some [0] := by kernel_rfl
@[simp] theorem keep_84_1 : MX.keep 84 1 = some [4] := by kernel_rfl
@[simp] theorem keep_84_2 : MX.keep 84 2 = some [2] := by kernel_rfl
@[simp] theorem fn_85 : MX.fn 85 = some Tryz.f85 := by kernel_rfl
@[simp] theorem eff_85 : MX.eff 85 = none := by kernel_rfl
@[simp] theorem prim_85 : MX.prim 85 = none := by kernel_rfl
@[simp] theorem mode_85 : MX.mode 85 = { fresh := true, keepTop := false } := rfl
@[simp] theorem keep_85_0 : MX.keep 85 0 = some [0, 3] := by kernel_rfl
@[simp] theorem keep_85_1 : MX.keep 85 1 = some [0, 3, 5] := by kernel_rfl
@[simp] theorem keep_85_2 : MX.keep 85 2 = some [0, 3, 5, 11] := by kernel_rfl
@[simp] theorem keep_85_3 : MX.keep 85 3 = some [4] := by kernel_rfl
@[simp] theorem keep_85_4 : MX.keep 85 4 = some [0, 3, 6] := by kernel_rfl
@[simp] theorem keep_85_5 : MX.keep 85 5 = some [0, 3, 6, 19] := by kernel_rfl
@[simp] theorem keep_85_6 : MX.keep 85 6 = some [4] := by kernel_rfl
@[simp] theorem keep_85_7 : MX.keep 85 7 = some [26] := by kernel_rfl
@[simp] theorem keep_85_8 : MX.keep 85 8 = some [4] := by kernel_rfl
@[simp] theorem keep_85_9 : MX.keep 85 9 = some [4] := by kernel_rfl
@[simp] theorem fn_86 : MX.fn 86 = some Tryz.f86 := by kernel_rfl
@[simp] theorem eff_86 : MX.eff 86 = none := by kernel_rfl
@[simp] theorem prim_86 : MX.prim 86 = none := by kernel_rfl
@[simp] theorem mode_86 : MX.mode 86 = { fresh := true, keepTop := false } := rfl
@[simp] theorem keep_86_0 : MX.keep 86 0 = some [1] := by kernel_rfl
@[simp] theorem keep_86_1 : MX.keep 86 1 = some [2] := by kernel_rfl
@[simp] theorem fn_87 : MX.fn 87 = some Tryz.f87 := by kernel_rfl
@[simp] theorem eff_87 : MX.eff 87 = none := by kernel_rfl
@[simp] theorem prim_87 : MX.prim 87 = none := by kernel_rfl
@[simp] theorem mode_87 : MX.mode 87 = { fresh := true, keepTop := false } := rfl
@[simp] theorem keep_87_0 : MX.keep 87 0 = some [0, 4, 5] := by kernel_rfl
@[simp] theorem keep_87_1 : MX.keep 87 1 = some [0, 4, 5, 8] := by kernel_rfl
@[simp] theorem keep_87_2 : MX.keep 87 2 = some [6] := by kernel_rfl
@[simp] theorem keep_87_3 : MX.keep 87 3 = some [0, 4, 5, 8, 9] := by kernel_rfl
@[simp] theorem keep_87_4 : MX.keep 87 4 = some [14] := by kernel_rfl
@[simp] theorem keep_87_5 : MX.keep 87 5 = some [6] := by kernel_rfl
@[simp] theorem keep_87_6 : MX.keep 87 6 = some [0, 4, 5, 8, 15] := by kernel_rfl
@[simp] theorem keep_87_7 : MX.keep 87 7 = some [5, 20] := by kernel_rfl
@[simp] theorem keep_87_8 : MX.keep 87 8 = some [6] := by kernel_rfl
@[simp] theorem keep_87_9 : MX.keep 87 9 = some [24] := by kernel_rfl
@[simp] theorem keep_87_10 : MX.keep 87 10 = some [6] := by kernel_rfl
@[simp] theorem keep_87_11 : MX.keep 87 11 = some [0, 4, 5, 8, 25] := by kernel_rfl
@[simp] theorem keep_87_12 : MX.keep 87 12 = some [4, 5, 29] := by kernel_rfl
@[simp] theorem keep_87_13 : MX.keep 87 13 = some [6] := by kernel_rfl
@[simp] theorem keep_87_14 : MX.keep 87 14 = some [4, 5, 33] := by kernel_rfl
@[simp] theorem keep_87_15 : MX.keep 87 15 = some [6] := by kernel_rfl
@[simp] theorem keep_87_16 : MX.keep 87 16 = some [42] := by kernel_rfl
@[simp] theorem keep_87_17 : MX.keep 87 17 = some [6] := by kernel_rfl
@[simp] theorem keep_87_18 : MX.keep 87 18 = some [0, 4, 5, 43] := by kernel_rfl
@[simp] theorem keep_87_19 : MX.keep 87 19 = some [6] := by kernel_rfl
@[simp] theorem keep_87_20 : MX.keep 87 20 = some [6] := by kernel_rfl
@[simp] theorem fn_88 : MX.fn 88 = some Tryz.f88 := by kernel_rfl
@[simp] theorem eff_88 : MX.eff 88 = none := by kernel_rfl
@[simp] theorem prim_88 : MX.prim 88 = none := by kernel_rfl
@[simp] theorem mode_88 : MX.mode 88 = { fresh := true, keepTop := false } := rfl
@[simp] theorem mut_88 : MX.mutLit 88 = false := by kernel_rfl
@[simp] theorem keep_88_0 : MX.keep 88 0 = some [1] := by kernel_rfl
@[simp] theorem keep_88_1 : MX.keep 88 1 = some [1, 7] := by kernel_rfl
@[simp] theorem keep_88_2 : MX.keep 88 2 = some [2] := by kernel_rfl
@[simp] theorem keep_88_3 : MX.keep 88 3 = some [1, 3] := by kernel_rfl
@[simp] theorem keep_88_4 : MX.keep 88 4 = some [1, 3, 4] := by kernel_rfl
@[simp] theorem keep_88_5 : MX.keep 88 5 = some [1, 3, 4, 15] := by kernel_rfl
@[simp] theorem keep_88_6 : MX.keep 88 6 = some [1, 3, 4] := by kernel_rfl
@[simp] theorem keep_88_7 : MX.keep 88 7 = some [1, 3, 4] := by kernel_rfl
@[simp] theorem keep_88_8 : MX.keep 88 8 = some [2] := by kernel_rfl
@[simp] theorem fn_89 : MX.fn 89 = some Tryz.f89 := by kernel_rfl
@[simp] theorem eff_89 : MX.eff 89 = none := by kernel_rfl
@[simp] theorem prim_89 : MX.prim 89 = none := by kernel_rfl
@[simp] theorem mode_89 : MX.mode 89 = { fresh := true, keepTop := false } := rfl
@[simp] theorem keep_89_0 : MX.keep 89 0 = some [0, 1] := by kernel_rfl
@[simp] theorem keep_89_1 : MX.keep 89 1 = some [0, 1, 5] := by kernel_rfl
@[simp] theorem keep_89_2 : MX.keep 89 2 = some [0, 1, 5, 9] := by kernel_rfl
@[simp] theorem keep_89_3 : MX.keep 89 3 = some [0, 1, 5] := by kernel_rfl
@[simp] theorem keep_89_4 : MX.keep 89 4 = some [0, 1, 5, 17] := by kernel_rfl
@[simp] theorem keep_89_5 : MX.keep 89 5 = some [4] := by kernel_rfl
@[simp] theorem keep_89_6 : MX.keep 89 6 = some [4] := by kernel_rfl
@[simp] theorem fn_97 : MX.fn 97 = some Tryz.f97 := by kernel_rfl
@[simp] theorem eff_97 : MX.eff 97 = none := by kernel_rfl
@[simp] theorem prim_97 : MX.prim 97 = none := by kernel_rfl
@[simp] theorem mode_97 : MX.mode 97 = { fresh := true, keepTop := false } := rfl
@[simp] theorem keep_97_0 : MX.keep 97 0 = some [0] := by kernel_rfl
@[simp] theorem keep_97_1 : MX.keep 97 1 = some [5, 6, 7] := by kernel_rfl
@[simp] theorem keep_97_2 : MX.keep 97 2 = some [5, 6, 7, 8] := by kernel_rfl
@[simp] theorem keep_97_3 : MX.keep 97 3 = some [4, 5, 6, 7] := by kernel_rfl
@[simp] theorem keep_97_4 : MX.keep 97 4 = some [4, 5, 6, 7, 12] := by kernel_rfl
@[simp] theorem keep_97_5 : MX.keep 97 5 = some [2] := by kernel_rfl
@[simp] theorem keep_97_6 : MX.keep 97 6 = some [5, 6, 7] := by kernel_rfl
@[simp] theorem keep_97_7 : MX.keep 97 7 = some [2] := by kernel_rfl
@[simp] theorem fn_104 : MX.fn 104 = some Tryz.f104 := by kernel_rfl
@[simp] theorem eff_104 : MX.eff 104 = none := by kernel_rfl
@[simp] theorem prim_104 : MX.prim 104 = none := by kernel_rfl
@[simp] theorem mode_104 : MX.mode 104 = { fresh := true, keepTop := false } := rfl
@[simp] theorem keep_104_0 : MX.keep 104 0 = some [0, 1, 2] := by kernel_rfl
@[simp] theorem keep_104_1 : MX.keep 104 1 = some [6] := by kernel_rfl
@[simp] theorem fn_110 : MX.fn 110 = some Tryz.f110 := by kernel_rfl
@[simp] theorem eff_110 : MX.eff 110 = none := by kernel_rfl
@[simp] theorem prim_110 : MX.prim 110 = none := by kernel_rfl
@[simp] theorem mode_110 : MX.mode 110 = { fresh := true, keepTop := false } := rfl
@[simp] theorem keep_110_0 : MX.keep 110 0 = some [1, 2, 3] := by kernel_rfl
@[simp] theorem keep_110_1 : MX.keep 110 1 = some [1, 2, 3] := by kernel_rfl
@[simp] theorem keep_110_2 : MX.keep 110 2 = some [1, 2, 3, 21] := by kernel_rfl
@[simp] theorem keep_110_3 : MX.keep 110 3 = some [6] := by kernel_rfl
@[simp] theorem keep_110_4 : MX.keep 110 4 = some [1, 2, 3, 7] := by kernel_rfl
@[simp] theorem keep_110_5 : MX.keep 110 5 = some [1, 2, 3, 7, 30] := by kernel_rfl
@[simp] theorem keep_110_6 : MX.keep 110 6 = some [1, 2, 3, 7] := by kernel_rfl
@[simp] theorem keep_110_7 : MX.keep 110 7 = some [1, 2, 3, 7] := by kernel_rfl
@[simp] theorem keep_110_8 : MX.keep 110 8 = some [6] := by kernel_rfl
@[simp] theorem fn_111 : MX.fn 111 = some Tryz.f111 := by kernel_rfl
@[simp] theorem eff_111 : MX.eff 111 = none := by kernel_rfl
@[simp] theorem prim_111 : MX.prim 111 = none := by kernel_rfl
@[simp] theorem mode_111 : MX.mode 111 = { fresh := true, keepTop := false } := rfl
@[simp] theorem keep_111_0 : MX.keep 111 0 = some [0, 1] := by kernel_rfl
@[simp] theorem keep_111_1 : MX.keep 111 1 = some [1, 5] := by kernel_rfl
@[simp] theorem keep_111_2 : MX.keep 111 2 = some [4] := by kernel_rfl
@[simp] theorem keep_111_3 : MX.keep 111 3 = some [4] := by kernel_rfl
@[simp] theorem fn_116 : MX.fn 116 = some Tryz.f116 := by kernel_rfl
@[simp] theorem eff_116 : MX.eff 116 = none := by kernel_rfl
@[simp] theorem prim_116 : MX.prim 116 = none := by kernel_rfl
@[simp] theorem mode_116 : MX.mode 116 = { } := rfl
@[simp] theorem keep_116_0 : MX.keep 116 0 = some [0] := by kernel_rfl
@[simp] theorem keep_116_1 : MX.keep 116 1 = some [2] := by kernel_rfl
@[simp] theorem fn_118 : MX.fn 118 = some Tryz.f118 := by kernel_rfl
@[simp] theorem eff_118 : MX.eff 118 = none := by kernel_rfl
@[simp] theorem prim_118 : MX.prim 118 = none := by kernel_rfl
@[simp] theorem mode_118 : MX.mode 118 = { fresh := true, keepTop := false } := rfl
@[simp] theorem keep_118_0 : MX.keep 118 0 = some [0, 1] := by kernel_rfl
@[simp] theorem keep_118_1 : MX.keep 118 1 = some [0, 1, 5] := by kernel_rfl
@[simp] theorem keep_118_2 : MX.keep 118 2 = some [0, 1, 5, 9] := by kernel_rfl
@[simp] theorem keep_118_3 : MX.keep 118 3 = some [0, 1, 5] := by kernel_rfl
@[simp] theorem keep_118_4 : MX.keep 118 4 = some [0, 1, 5, 18] := by kernel_rfl
@[simp] theorem keep_118_5 : MX.keep 118 5 = some [4] := by kernel_rfl
@[simp] theorem keep_118_6 : MX.keep 118 6 = some [4] := by kernel_rfl
@[simp] theorem fn_119 : MX.fn 119 = some Tryz.f119 := by kernel_rfl
@[simp] theorem eff_119 : MX.eff 119 = none := by kernel_rfl
@[simp] theorem prim_119 : MX.prim 119 = none := by kernel_rfl
@[simp] theorem mode_119 : MX.mode 119 = { fresh := true, keepTop := false } := rfl
@[simp] theorem mut_119 : MX.mutLit 119 = false := by kernel_rfl
@[simp] theorem keep_119_0 : MX.keep 119 0 = some [1, 2, 3, 6] := by kernel_rfl
@[simp] theorem keep_119_1 : MX.keep 119 1 = some [1, 2, 3, 6, 12] := by kernel_rfl
@[simp] theorem keep_119_2 : MX.keep 119 2 = some [1, 2, 3, 6, 7] := by kernel_rfl
@[simp] theorem keep_119_3 : MX.keep 119 3 = some [1, 2, 3, 6, 7, 16] := by kernel_rfl
@[simp] theorem keep_119_4 : MX.keep 119 4 = some [1, 2, 3, 6, 7] := by kernel_rfl
@[simp] theorem keep_119_5 : MX.keep 119 5 = some [1, 2, 3, 6, 7, 25] := by kernel_rfl
@[simp] theorem keep_119_6 : MX.keep 119 6 = some [6] := by kernel_rfl
@[simp] theorem keep_119_7 : MX.keep 119 7 = some [1, 2, 3, 6, 8] := by kernel_rfl
@[simp] theorem keep_119_8 : MX.keep 119 8 = some [1, 2, 3, 6, 8] := by kernel_rfl
@[simp] theorem keep_119_9 : MX.keep 119 9 = some [1, 2, 3, 6, 8, 9] := by kernel_rfl
@[simp] theorem keep_119_10 : MX.keep 119 10 = some [1, 2, 3, 6, 8, 9, 37] := by kernel_rfl
@[simp] theorem keep_119_11 : MX.keep 119 11 = some [1, 2, 3, 6, 8, 9] := by kernel_rfl
@[simp] theorem keep_119_12 : MX.keep 119 12 = some [1, 2, 3, 6, 8, 9] := by kernel_rfl
@[simp] theorem keep_119_13 : MX.keep 119 13 = some [6] := by kernel_rfl
@[simp] theorem fn_121 : MX.fn 121 = some Tryz.f121 := by kernel_rfl
@[simp] theorem eff_121 : MX.eff 121 = none := by kernel_rfl
@[simp] theorem prim_121 : MX.prim 121 = none := by kernel_rfl
@[simp] theorem mode_121 : MX.mode 121 = { fresh := true, keepTop := false } := rfl
@[simp] theorem keep_121_0 : MX.keep 121 0 = some [0, 1] := by kernel_rfl
@[simp] theorem keep_121_1 : MX.keep 121 1 = some [4] := by kernel_rfl
@[simp] theorem fn_122 : MX.fn 122 = some Tryz.f122 := by kernel_rfl
@[simp] theorem eff_122 : MX.eff 122 = none := by kernel_rfl
@[simp] theorem prim_122 : MX.prim 122 = none := by kernel_rfl
@[simp] theorem mode_122 : MX.mode 122 = { fresh := true, keepTop := false } := rfl
@[simp] theorem keep_122_0 : MX.keep 122 0 = some [0, 3] := by kernel_rfl
@[simp] theorem keep_122_1 : MX.keep 122 1 = some [0, 3, 5] := by kernel_rfl
@[simp] theorem keep_122_2 : MX.keep 122 2 = some [0, 3, 5, 6] := by kernel_rfl
@[simp] theorem keep_122_3 : MX.keep 122 3 = some [0, 3, 5, 6, 11] := by kernel_rfl
@[simp] theorem keep_122_4 : MX.keep 122 4 = some [0, 3, 5, 6] := by kernel_rfl
@[simp] theorem keep_122_5 : MX.keep 122 5 = some [0, 3, 5, 6] := by kernel_rfl
@[simp] theorem keep_122_6 : MX.keep 122 6 = some [4] := by kernel_rfl
@[simp] theorem fn_142 : MX.fn 142 = some Tryz.f142 := by kernel_rfl
@[simp] theorem eff_142 : MX.eff 142 = none := by kernel_rfl
@[simp] theorem prim_142 : MX.prim 142 = none := by kernel_rfl
@[simp] theorem mode_142 : MX.mode 142 = { fresh := true, keepTop := false } := rfl
@[simp] theorem mut_142 : MX.mutLit 142 = false := by kernel_rfl
@[simp] theorem keep_142_0 : MX.keep 142 0 = some [1, 2] := by kernel_rfl
@[simp] theorem keep_142_1 : MX.keep 142 1 = some [1, 2, 3] := by kernel_rfl
@[simp] theorem keep_142_2 : MX.keep 142 2 = some [1, 2, 3] := by kernel_rfl
@[simp] theorem keep_142_3 : MX.keep 142 3 = some [1, 2, 3, 4] := by kernel_rfl
@[simp] theorem keep_142_4 : MX.keep 142 4 = some [1, 2, 3, 4, 11] := by kernel_rfl
@[simp] theorem keep_142_5 : MX.keep 142 5 = some [1, 2, 3, 4] := by kernel_rfl
@[simp] theorem keep_142_6 : MX.keep 142 6 = some [1, 2, 3, 4] := by kernel_rfl
@[simp] theorem keep_142_7 : MX.keep 142 7 = some [2] := by kernel_rfl
@[simp] theorem fn_143 : MX.fn 143 = some Tryz.f143 := by kernel_rfl
@[simp] theorem eff_143 : MX.eff 143 = none := by kernel_rfl
@[simp] theorem prim_143 : MX.prim 143 = none := by kernel_rfl
@[simp] theorem mode_143 : MX.mode 143 = { fresh := true, keepTop := false } := rfl
@[simp] theorem keep_143_0 : MX.keep 143 0 = some [0, 3] := by kernel_rfl
@[simp] theorem keep_143_1 : MX.keep 143 1 = some [7] := by kernel_rfl
@[simp] theorem keep_143_2 : MX.keep 143 2 = some [4] := by kernel_rfl
@[simp] theorem fn_144 : MX.fn 144 = some Tryz.f144 := by kernel_rfl
@[simp] theorem eff_144 : MX.eff 144 = none := by kernel_rfl
@[simp] theorem prim_144 : MX.prim 144 = none := by kernel_rfl
@[simp] theorem mode_144 : MX.mode 144 = { fresh := false, keepTop := false } := rfl
@[simp] theorem mut_144 : MX.mutLit 144 = false := by kernel_rfl
@[simp] theorem keep_144_0 : MX.keep 144 0 = some [3, 4, 5] := by kernel_rfl
@[simp] theorem keep_144_1 : MX.keep 144 1 = some [3, 4, 5, 19] := by kernel_rfl
@[simp] theorem keep_144_2 : MX.keep 144 2 = some [6] := by kernel_rfl
@[simp] theorem keep_144_3 : MX.keep 144 3 = some [3, 4, 5, 7] := by kernel_rfl
@[simp] theorem keep_144_4 : MX.keep 144 4 = some [3, 4, 5, 7, 28] := by kernel_rfl
@[simp] theorem keep_144_5 : MX.keep 144 5 = some [6] := by kernel_rfl
@[simp] theorem keep_144_6 : MX.keep 144 6 = some [3, 4, 5, 7, 40] := by kernel_rfl
@[simp] theorem keep_144_7 : MX.keep 144 7 = some [6] := by kernel_rfl
@[simp] theorem keep_144_8 : MX.keep 144 8 = some [3, 4, 5, 7, 8] := by kernel_rfl
@[simp] theorem keep_144_9 : MX.keep 144 9 = some [3, 4, 5, 7, 8, 53, 54, 55] := by kernel_rfl
@[simp] theorem keep_144_10 : MX.keep 144 10 = some [3, 4, 5, 7, 8, 53, 54, 55, 56] := by kernel_rfl
@[simp] theorem keep_144_11 : MX.keep 144 11 = some [3, 4, 5, 7, 8, 9, 10, 53, 54, 55] := by kernel_rfl
@[simp] theorem keep_144_12 : MX.keep 144 12 = some [3, 4, 5, 7, 8, 9, 10, 53, 54, 55] := by kernel_rfl
@[simp] theorem keep_144_13 : MX.keep 144 13 = some [3, 4, 5, 7, 8, 53, 54, 55] := by kernel_rfl
@[simp] theorem keep_144_14 : MX.keep 144 14 = some [3, 4, 5, 7, 8, 53, 54, 55] := by kernel_rfl
@[simp] theorem keep_144_15 : MX.keep 144 15 = some [3, 7, 8, 11] := by kernel_rfl
@[simp] theorem keep_144_16 : MX.keep 144 16 = some [3, 8, 11, 79, 80, 81] := by kernel_rfl
@[simp] theorem keep_144_17 : MX.keep 144 17 = some [3, 8, 11, 79, 80, 81, 82] := by kernel_rfl
@[simp] theorem keep_144_18 : MX.keep 144 18 = some [3, 8, 11, 13, 79, 80, 81] := by kernel_rfl
@[simp] theorem keep_144_19 : MX.keep 144 19 = some [3, 8, 11, 13, 14, 79, 80, 81] := by kernel_rfl
@[simp] theorem keep_144_20 : MX.keep 144 20 = some [3, 8, 11, 14, 79, 80, 81, 89, 90, 91] := by kernel_rfl
@[simp] theorem keep_144_21 : MX.keep 144 21 = some [3, 8, 11, 14, 79, 80, 81, 89, 90, 91, 92] := by kernel_rfl
@[simp] theorem keep_144_22 : MX.keep 144 22 = some [3, 8, 11, 14, 16, 79, 80, 81, 89, 90, 91] := by kernel_rfl
@[simp] theorem keep_144_23 : MX.keep 144 23 = some [3, 8, 11, 14, 79, 80, 81, 89, 90, 91] := by kernel_rfl
@[simp] theorem keep_144_24 : MX.keep 144 24 = some [3, 8, 11, 14, 79, 80, 81, 89, 90, 91] := by kernel_rfl
@[simp] theorem keep_144_25 : MX.keep 144 25 = some [3, 8, 11, 79, 80, 81] := by kernel_rfl
@[simp] theorem keep_144_26 : MX.keep 144 26 = some [3, 8, 11, 79, 80, 81] := by kernel_rfl
@[simp] theorem keep_144_27 : MX.keep 144 27 = some [6] := by kernel_rfl
@[simp] theorem fn_145 : MX.fn 145 = some Tryz.f145 := by kernel_rfl
@[simp] theorem eff_145 : MX.eff 145 = none := by kernel_rfl
@[simp] theorem prim_145 : MX.prim 145 = none := by kernel_rfl
@[simp] theorem mode_145 : MX.mode 145 = { fresh := true, keepTop := false } := rfl
@[simp] theorem mut_145 : MX.mutLit 145 = true := by kernel_rfl
@[simp] theorem keep_145_0 : MX.keep 145 0 = some [1, 2] := by kernel_rfl
@[simp] theorem keep_145_1 : MX.keep 145 1 = some [1, 2, 5] := by kernel_rfl
@[simp] theorem keep_145_2 : MX.keep 145 2 = some [1, 5, 6] := by kernel_rfl
@[simp] theorem keep_145_3 : MX.keep 145 3 = some [1, 5, 6, 15] := by kernel_rfl
@[simp] theorem keep_145_4 : MX.keep 145 4 = some [1, 5, 6, 7] := by kernel_rfl
@[simp] theorem keep_145_5 : MX.keep 145 5 = some [1, 5, 6, 7] := by kernel_rfl
@[simp] theorem keep_145_6 : MX.keep 145 6 = some [1, 5, 6, 7] := by kernel_rfl
@[simp] theorem keep_145_7 : MX.keep 145 7 = some [1, 5, 6, 7, 35] := by kernel_rfl
@[simp] theorem keep_145_8 : MX.keep 145 8 = some [4] := by kernel_rfl
@[simp] theorem keep_145_9 : MX.keep 145 9 = some [1, 5, 6, 7, 39, 40, 41] := by kernel_rfl
@[simp] theorem keep_145_10 : MX.keep 145 10 = some [1, 5, 6, 7, 39, 40, 41, 42] := by kernel_rfl
@[simp] theorem keep_145_11 : MX.keep 145 11 = some [1, 5, 6, 7, 9, 39, 40, 41] := by kernel_rfl
@[simp] theorem keep_145_12 : MX.keep 145 12 = some [1, 5, 6, 7, 39, 40, 41] := by kernel_rfl
@[simp] theorem keep_145_13 : MX.keep 145 13 = some [1, 5, 6, 7, 39, 40, 41] := by kernel_rfl
@[simp] theorem keep_145_14 : MX.keep 145 14 = some [4] := by kernel_rfl
@[simp] theorem fn_146 : MX.fn 146 = some Tryz.f146 := by kernel_rfl
@[simp] theorem eff_146 : MX.eff 146 = none := by kernel_rfl
@[simp] theorem prim_146 : MX.prim 146 = none := by kernel_rfl
@[simp] theorem mode_146 : MX.mode 146 = { fresh := false, keepTop := false } := rfl
@[simp] theorem keep_146_0 : MX.keep 146 0 = some [1] := by kernel_rfl
@[simp] theorem keep_146_1 : MX.keep 146 1 = some [2] := by kernel_rfl
@[simp] theorem fn_147 : MX.fn 147 = some Tryz.f147 := by kernel_rfl
@[simp] theorem eff_147 : MX.eff 147 = none := by kernel_rfl
@[simp] theorem prim_147 : MX.prim 147 = none := by kernel_rfl
@[simp] theorem mode_147 : MX.mode 147 = { } := rfl
@[simp] theorem mut_147 : MX.mutLit 147 = false := by kernel_rfl
@[simp] theorem keep_147_0 : MX.keep 147 0 = some [0, 3] := by kernel_rfl
@[simp] theorem keep_147_1 : MX.keep 147 1 = some [0, 3, 5] := by kernel_rfl
@[simp] theorem keep_147_2 : MX.keep 147 2 = some [0, 3, 5, 16] := by kernel_rfl
@[simp] theorem keep_147_3 : MX.keep 147 3 = some [0, 3, 5, 16, 17] := by kernel_rfl
@[simp] theorem keep_147_4 : MX.keep 147 4 = some [4] := by kernel_rfl
@[simp] theorem keep_147_5 : MX.keep 147 5 = some [0, 3, 5, 16, 20] := by kernel_rfl
@[simp] theorem keep_147_6 : MX.keep 147 6 = some [4] := by kernel_rfl
@[simp] theorem keep_147_7 : MX.keep 147 7 = some [0, 3, 5, 16, 29] := by kernel_rfl
@[simp] theorem keep_147_8 : MX.keep 147 8 = some [4] := by kernel_rfl
@[simp] theorem keep_147_9 : MX.keep 147 9 = some [0, 3, 52] := by kernel_rfl
@[simp] theorem keep_147_10 : MX.keep 147 10 = some [0, 3, 6] := by kernel_rfl
@[simp] theorem keep_147_11 : MX.keep 147 11 = some [0, 3, 6, 59] := by kernel_rfl
@[simp] theorem keep_147_12 : MX.keep 147 12 = some [4] := by kernel_rfl
@[simp] theorem keep_147_13 : MX.keep 147 13 = some [0, 3, 6, 72] := by kernel_rfl
@[simp] theorem keep_147_14 : MX.keep 147 14 = some [4] := by kernel_rfl
@[simp] theorem keep_147_15 : MX.keep 147 15 = some [0, 6, 74, 75, 76] := by kernel_rfl
@[simp] theorem keep_147_16 : MX.keep 147 16 = some [0, 6, 74, 75, 76, 77] := by kernel_rfl
@[simp] theorem keep_147_17 : MX.keep 147 17 = some [0, 6, 7, 8, 74, 75, 76] := by kernel_rfl
@[simp] theorem keep_147_18 : MX.keep 147 18 = some [0, 6, 9, 74, 75, 76] := by kernel_rfl
@[simp] theorem keep_147_19 : MX.keep 147 19 = some [0, 6, 9, 74, 75, 76, 95] := by kernel_rfl
@[simp] theorem keep_147_20 : MX.keep 147 20 = some [4] := by kernel_rfl
@[simp] theorem keep_147_21 : MX.keep 147 21 = some [0, 6, 74, 75, 76] := by kernel_rfl
@[simp] theorem keep_147_22 : MX.keep 147 22 = some [4] := by kernel_rfl
@[simp] theorem keep_147_23 : MX.keep 147 23 = some [4] := by kernel_rfl
@[simp] theorem fn_148 : MX.fn 148 = some Tryz.f148 := by kernel_rfl
@[simp] theorem eff_148 : MX.eff 148 = none := by kernel_rfl
@[simp] theorem prim_148 : MX.prim 148 = none := by kernel_rfl
@[simp] theorem mode_148 : MX.mode 148 = { fresh := true, keepTop := true } := rfl
@[simp] theorem mut_148 : MX.mutLit 148 = true := by kernel_rfl
@[simp] theorem keep_148_0 : MX.keep 148 0 = some [1] := by kernel_rfl
@[simp] theorem keep_148_1 : MX.keep 148 1 = some [1, 8] := by kernel_rfl
@[simp] theorem keep_148_2 : MX.keep 148 2 = some [2] := by kernel_rfl
@[simp] theorem keep_148_3 : MX.keep 148 3 = some [1, 3] := by kernel_rfl
@[simp] theorem keep_148_4 : MX.keep 148 4 = some [3, 13, 14, 15] := by kernel_rfl
@[simp] theorem keep_148_5 : MX.keep 148 5 = some [3, 13, 14, 15, 16] := by kernel_rfl
@[simp] theorem keep_148_6 : MX.keep 148 6 = some [3, 5, 13, 14, 15] := by kernel_rfl
@[simp] theorem keep_148_7 : MX.keep 148 7 = some [3, 13, 14, 15] := by kernel_rfl
@[simp] theorem keep_148_8 : MX.keep 148 8 = some [3, 13, 14, 15] := by kernel_rfl
@[simp] theorem keep_148_9 : MX.keep 148 9 = some [2] := by kernel_rfl
@[simp] theorem eff_149 : MX.eff 149 = some sortA := by kernel_rfl
@[simp] theorem prim_149 : MX.prim 149 = none := by kernel_rfl
@[simp] theorem mode_149 : MX.mode 149 = { fresh := false, keepTop := false } := rfl
@[simp] theorem eff_150 : MX.eff 150 = some compactA := by kernel_rfl
@[simp] theorem prim_150 : MX.prim 150 = none := by kernel_rfl
@[simp] theorem mode_150 : MX.mode 150 = { fresh := false, keepTop := false } := rfl
@[simp] theorem fn_151 : MX.fn 151 = some Tryz.f151 := by kernel_rfl
@[simp] theorem eff_151 : MX.eff 151 = none := by kernel_rfl
@[simp] theorem prim_151 : MX.prim 151 = none := by kernel_rfl
@[simp] theorem mode_151 : MX.mode 151 = { fresh := true, keepTop := true } := rfl
@[simp] theorem mut_151 : MX.mutLit 151 = false := by kernel_rfl
@[simp] theorem keep_151_0 : MX.keep 151 0 = some [0] := by kernel_rfl
@[simp] theorem keep_151_1 : MX.keep 151 1 = some [0, 4] := by kernel_rfl
@[simp] theorem keep_151_2 : MX.keep 151 2 = some [2] := by kernel_rfl
@[simp] theorem keep_151_3 : MX.keep 151 3 = some [2] := by kernel_rfl
@[simp] theorem fn_152 : MX.fn 152 = some Tryz.f152 := by kernel_rfl
@[simp] theorem eff_152 : MX.eff 152 = none := by kernel_rfl
@[simp] theorem prim_152 : MX.prim 152 = none := by kernel_rfl
@[simp] theorem mode_152 : MX.mode 152 = { fresh := true, keepTop := false } := rfl
@[simp] theorem keep_152_0 : MX.keep 152 0 = some [0] := by kernel_rfl
@[simp] theorem keep_152_1 : MX.keep 152 1 = some [0, 8] := by kernel_rfl
@[simp] theorem keep_152_2 : MX.keep 152 2 = some [2, 3] := by kernel_rfl
@[simp] theorem keep_152_3 : MX.keep 152 3 = some [0, 4] := by kernel_rfl
@[simp] theorem keep_152_4 : MX.keep 152 4 = some [0, 4, 12] := by kernel_rfl
@[simp] theorem keep_152_5 : MX.keep 152 5 = some [0, 4] := by kernel_rfl
@[simp] theorem keep_152_6 : MX.keep 152 6 = some [0, 4, 5] := by kernel_rfl
@[simp] theorem keep_152_7 : MX.keep 152 7 = some [0, 4, 5, 24] := by kernel_rfl
@[simp] theorem keep_152_8 : MX.keep 152 8 = some [2, 3] := by kernel_rfl
@[simp] theorem keep_152_9 : MX.keep 152 9 = some [2, 3] := by kernel_rfl
@[simp] theorem fn_153 : MX.fn 153 = some Tryz.f153 := by kernel_rfl
@[simp] theorem eff_153 : MX.eff 153 = none := by kernel_rfl
@[simp] theorem prim_153 : MX.prim 153 = none := by kernel_rfl
@[simp] theorem mode_153 : MX.mode 153 = { fresh := true, keepTop := false } := rfl
@[simp] theorem keep_153_0 : MX.keep 153 0 = some [0, 1, 5] := by kernel_rfl
@[simp] theorem keep_153_1 : MX.keep 153 1 = some [0, 1, 5, 9] := by kernel_rfl
@[simp] theorem keep_153_2 : MX.keep 153 2 = some [6] := by kernel_rfl
@[simp] theorem keep_153_3 : MX.keep 153 3 = some [6] := by kernel_rfl
@[simp] theorem fn_154 : MX.fn 154 = some Tryz.f154 := by kernel_rfl
@[simp] theorem eff_154 : MX.eff 154 = none := by kernel_rfl
@[simp] theorem prim_154 : MX.prim 154 = none := by kernel_rfl
@[simp] theorem mode_154 : MX.mode 154 = { fresh := true, keepTop := false } := rfl
@[simp] theorem keep_154_0 : MX.keep 154 0 = some [0, 4, 5, 6] := by kernel_rfl
@[simp] theorem keep_154_1 : MX.keep 154 1 = some [0, 4, 6, 7] := by kernel_rfl
@[simp] theorem keep_154_2 : MX.keep 154 2 = some [0, 4, 6, 7, 20] := by kernel_rfl
@[simp] theorem keep_154_3 : MX.keep 154 3 = some [6, 7] := by kernel_rfl
@[simp] theorem keep_154_4 : MX.keep 154 4 = some [6] := by kernel_rfl
@[simp] theorem keep_154_5 : MX.keep 154 5 = some [0, 4, 6, 7, 37] := by kernel_rfl
@[simp] theorem keep_154_6 : MX.keep 154 6 = some [6, 7] := by kernel_rfl
@[simp] theorem keep_154_7 : MX.keep 154 7 = some [6] := by kernel_rfl
@[simp] theorem keep_154_8 : MX.keep 154 8 = some [0, 4, 6, 7, 50] := by kernel_rfl
@[simp] theorem keep_154_9 : MX.keep 154 9 = some [6, 7] := by kernel_rfl
@[simp] theorem keep_154_10 : MX.keep 154 10 = some [6] := by kernel_rfl
@[simp] theorem keep_154_11 : MX.keep 154 11 = some [0, 4, 6, 7, 60] := by kernel_rfl
@[simp] theorem keep_154_12 : MX.keep 154 12 = some [6, 7] := by kernel_rfl
@[simp] theorem keep_154_13 : MX.keep 154 13 = some [6] := by kernel_rfl
@[simp] theorem keep_154_14 : MX.keep 154 14 = some [0, 4, 6, 7, 64] := by kernel_rfl
@[simp] theorem keep_154_15 : MX.keep 154 15 = some [6] := by kernel_rfl
@[simp] theorem keep_154_16 : MX.keep 154 16 = some [0, 6, 7, 8] := by kernel_rfl
@[simp] theorem keep_154_17 : MX.keep 154 17 = some [0, 6, 7, 8, 9] := by kernel_rfl
@[simp] theorem keep_154_18 : MX.keep 154 18 = some [0, 6, 7, 8, 9, 72] := by kernel_rfl
@[simp] theorem keep_154_19 : MX.keep 154 19 = some [0, 6, 7, 8, 9] := by kernel_rfl
@[simp] theorem keep_154_20 : MX.keep 154 20 = some [0, 6, 7, 8, 9, 10] := by kernel_rfl
@[simp] theorem keep_154_21 : MX.keep 154 21 = some [0, 6, 7, 8, 9, 10, 82] := by kernel_rfl
@[simp] theorem keep_154_22 : MX.keep 154 22 = some [0, 6, 7, 8, 9, 10] := by kernel_rfl
@[simp] theorem keep_154_23 : MX.keep 154 23 = some [0, 6, 7, 8, 9, 10, 11] := by kernel_rfl
@[simp] theorem keep_154_24 : MX.keep 154 24 = some [0, 6, 7, 8, 9, 10] := by kernel_rfl
@[simp] theorem keep_154_25 : MX.keep 154 25 = some [0, 6, 7, 8, 9, 10, 110] := by kernel_rfl
@[simp] theorem keep_154_26 : MX.keep 154 26 = some [6] := by kernel_rfl
@[simp] theorem keep_154_27 : MX.keep 154 27 = some [6] := by kernel_rfl
@[simp] theorem fn_155 : MX.fn 155 = some Tryz.f155 := by kernel_rfl
@[simp] theorem eff_155 : MX.eff 155 = none := by kernel_rfl
@[simp] theorem prim_155 : MX.prim 155 = none := by kernel_rfl
@[simp] theorem mode_155 : MX.mode 155 = { fresh := true, keepTop := false } := rfl
@[simp] theorem keep_155_0 : MX.keep 155 0 = some [0] := by kernel_rfl
@[simp] theorem keep_155_1 : MX.keep 155 1 = some [2] := by kernel_rfl
@[simp] theorem fn_156 : MX.fn 156 = some Tryz.f156 := by kernel_rfl
@[simp] theorem eff_156 : MX.eff 156 = none := by kernel_rfl
@[simp] theorem prim_156 : MX.prim 156 = none := by kernel_rfl
@[simp] theorem mode_156 : MX.mode 156 = { fresh := true, keepTop := false } := rfl
@[simp] theorem keep_156_0 : MX.keep 156 0 = some [1, 2, 3] := by kernel_rfl
@[simp] theorem keep_156_1 : MX.keep 156 1 = some [1, 2, 3] := by kernel_rfl
@[simp] theorem keep_156_2 : MX.keep 156 2 = some [1, 2, 3, 21] := by kernel_rfl
@[simp] theorem keep_156_3 : MX.keep 156 3 = some [6] := by kernel_rfl
@[simp] theorem keep_156_4 : MX.keep 156 4 = some [1, 2, 3, 7] := by kernel_rfl
@[simp] theorem keep_156_5 : MX.keep 156 5 = some [1, 2, 3, 7, 30] := by kernel_rfl
@[simp] theorem keep_156_6 : MX.keep 156 6 = some [1, 2, 3, 7] := by kernel_rfl
@[simp] theorem keep_156_7 : MX.keep 156 7 = some [1, 2, 3, 7] := by kernel_rfl
@[simp] theorem keep_156_8 : MX.keep 156 8 = some [6] := by kernel_rfl
@[simp] theorem fn_157 : MX.fn 157 = some Tryz.f157 := by kernel_rfl
@[simp] theorem eff_157 : MX.eff 157 = none := by kernel_rfl
@[simp] theorem prim_157 : MX.prim 157 = none := by kernel_rfl
@[simp] theorem mode_157 : MX.mode 157 = { fresh := true, keepTop := false } := rfl
@[simp] theorem keep_157_0 : MX.keep 157 0 = some [0] := by kernel_rfl
@[simp] theorem keep_157_1 : MX.keep 157 1 = some [0, 13] := by kernel_rfl
@[simp] theorem keep_157_2 : MX.keep 157 2 = some [2] := by kernel_rfl
@[simp] theorem keep_157_3 : MX.keep 157 3 = some [0, 3] := by kernel_rfl
@[simp] theorem keep_157_4 : MX.keep 157 4 = some [0, 3, 17] := by kernel_rfl
@[simp] theorem keep_157_5 : MX.keep 157 5 = some [0, 3] := by kernel_rfl
@[simp] theorem keep_157_6 : MX.keep 157 6 = some [0, 3, 4] := by kernel_rfl
@[simp] theorem keep_157_7 : MX.keep 157 7 = some [0, 3, 4, 5] := by kernel_rfl
@[simp] theorem keep_157_8 : MX.keep 157 8 = some [0, 3, 54] := by kernel_rfl
@[simp] theorem keep_157_9 : MX.keep 157 9 = some [2] := by kernel_rfl
@[simp] theorem keep_157_10 : MX.keep 157 10 = some [2] := by kernel_rfl
@[simp] theorem fn_158 : MX.fn 158 = some Tryz.f158 := by kernel_rfl
@[simp] theorem eff_158 : MX.eff 158 = none := by kernel_rfl
@[simp] theorem prim_158 : MX.prim 158 = none := by kernel_rfl
@[simp] theorem mode_158 : MX.mode 158 = { fresh := true, keepTop := false } := rfl
@[simp] theorem keep_158_0 : MX.keep 158 0 = some [0, 4, 5] := by kernel_rfl
@[simp] theorem keep_158_1 : MX.keep 158 1 = some [0, 4, 5, 12] := by kernel_rfl
@[simp] theorem keep_158_2 : MX.keep 158 2 = some [6] := by kernel_rfl
@[simp] theorem keep_158_3 : MX.keep 158 3 = some [0, 5, 7] := by kernel_rfl
@[simp] theorem keep_158_4 : MX.keep 158 4 = some [0, 5, 7, 8] := by kernel_rfl
@[simp] theorem keep_158_5 : MX.keep 158 5 = some [0, 5, 7, 8, 21] := by kernel_rfl
@[simp] theorem keep_158_6 : MX.keep 158 6 = some [6] := by kernel_rfl
@[simp] theorem keep_158_7 : MX.keep 158 7 = some [0, 5, 7, 8, 31] := by kernel_rfl
@[simp] theorem keep_158_8 : MX.keep 158 8 = some [6] := by kernel_rfl
@[simp] theorem keep_158_9 : MX.keep 158 9 = some [0, 5, 7, 8, 9] := by kernel_rfl
@[simp] theorem keep_158_10 : MX.keep 158 10 = some [0, 5, 7, 8, 9, 36] := by kernel_rfl
@[simp] theorem keep_158_11 : MX.keep 158 11 = some [0, 5, 7, 8, 9] := by kernel_rfl
@[simp] theorem keep_158_12 : MX.keep 158 12 = some [0, 5, 7, 8, 9, 10] := by kernel_rfl
@[simp] theorem keep_158_13 : MX.keep 158 13 = some [0, 5, 7, 8, 9, 10, 56] := by kernel_rfl
@[simp] theorem keep_158_14 : MX.keep 158 14 = some [6] := by kernel_rfl
@[simp] theorem keep_158_15 : MX.keep 158 15 = some [6] := by kernel_rfl
@[simp] theorem fn_174 : MX.fn 174 = some Tryz.f174 := by kernel_rfl
@[simp] theorem eff_174 : MX.eff 174 = none := by kernel_rfl
@[simp] theorem prim_174 : MX.prim 174 = none := by kernel_rfl
@[simp] theorem mode_174 : MX.mode 174 = { } := rfl
@[simp] theorem keep_174_0 : MX.keep 174 0 = some [0, 3, 5] := by kernel_rfl
@[simp] theorem keep_174_1 : MX.keep 174 1 = some [0, 3, 5, 7] := by kernel_rfl
@[simp] theorem keep_174_2 : MX.keep 174 2 = some [3, 5, 7, 9] := by kernel_rfl
@[simp] theorem keep_174_3 : MX.keep 174 3 = some [3, 5, 7, 9, 22] := by kernel_rfl
@[simp] theorem keep_174_4 : MX.keep 174 4 = some [4, 5, 6] := by kernel_rfl
@[simp] theorem keep_174_5 : MX.keep 174 5 = some [3, 5, 7, 10] := by kernel_rfl
@[simp] theorem keep_174_6 : MX.keep 174 6 = some [3, 5, 7, 10, 29] := by kernel_rfl
@[simp] theorem keep_174_7 : MX.keep 174 7 = some [4, 5, 6] := by kernel_rfl
@[simp] theorem keep_174_8 : MX.keep 174 8 = some [3, 5, 7, 11] := by kernel_rfl
@[simp] theorem keep_174_9 : MX.keep 174 9 = some [5, 7, 12, 13] := by kernel_rfl
@[simp] theorem keep_174_10 : MX.keep 174 10 = some [5, 7, 12, 13, 45] := by kernel_rfl
@[simp] theorem keep_174_11 : MX.keep 174 11 = some [5, 7, 12, 13] := by kernel_rfl
@[simp] theorem keep_174_12 : MX.keep 174 12 = some [4, 5, 6] := by kernel_rfl
@[simp] theorem fn_175 : MX.fn 175 = some Tryz.f175 := by kernel_rfl
@[simp] theorem eff_175 : MX.eff 175 = none := by kernel_rfl
@[simp] theorem prim_175 : MX.prim 175 = none := by kernel_rfl
@[simp] theorem mode_175 : MX.mode 175 = { fresh := true, keepTop := false } := rfl
@[simp] theorem keep_175_0 : MX.keep 175 0 = some [0, 1] := by kernel_rfl
@[simp] theorem keep_175_1 : MX.keep 175 1 = some [0, 1, 7, 8] := by kernel_rfl
@[simp] theorem keep_175_2 : MX.keep 175 2 = some [0, 1, 7, 8, 9] := by kernel_rfl
@[simp] theorem keep_175_3 : MX.keep 175 3 = some [0, 1, 5, 7, 8] := by kernel_rfl
@[simp] theorem keep_175_4 : MX.keep 175 4 = some [0, 1, 5, 7, 8, 16] := by kernel_rfl
@[simp] theorem keep_175_5 : MX.keep 175 5 = some [4] := by kernel_rfl
@[simp] theorem keep_175_6 : MX.keep 175 6 = some [0, 1, 7, 8] := by kernel_rfl
@[simp] theorem keep_175_7 : MX.keep 175 7 = some [4] := by kernel_rfl
@[simp] theorem fn_176 : MX.fn 176 = some Tryz.f176 := by kernel_rfl
@[simp] theorem eff_176 : MX.eff 176 = none := by kernel_rfl
@[simp] theorem prim_176 : MX.prim 176 = none := by kernel_rfl
@[simp] theorem mode_176 : MX.mode 176 = { fresh := false, keepTop := false } := rfl
@[simp] theorem keep_176_0 : MX.keep 176 0 = some [1, 2] := by kernel_rfl
@[simp] theorem keep_176_1 : MX.keep 176 1 = some [3] := by kernel_rfl
@[simp] theorem fn_177 : MX.fn 177 = some Tryz.f177 := by kernel_rfl
@[simp] theorem eff_177 : MX.eff 177 = none := by kernel_rfl
@[simp] theorem prim_177 : MX.prim 177 = none := by kernel_rfl
@[simp] theorem mode_177 : MX.mode 177 = { fresh := false, keepTop := false } := rfl
@[simp] theorem keep_177_0 : MX.keep 177 0 = some [1, 2] := by kernel_rfl
@[simp] theorem keep_177_1 : MX.keep 177 1 = some [1, 2, 7] := by kernel_rfl
@[simp] theorem keep_177_2 : MX.keep 177 2 = some [4] := by kernel_rfl
@[simp] theorem keep_177_3 : MX.keep 177 3 = some [4] := by kernel_rfl
@[simp] theorem fn_178 : MX.fn 178 = some Tryz.f178 := by kernel_rfl
@[simp] theorem eff_178 : MX.eff 178 = none := by kernel_rfl
@[simp] theorem prim_178 : MX.prim 178 = none := by kernel_rfl
@[simp] theorem mode_178 : MX.mode 178 = { fresh := false, keepTop := false } := rfl
@[simp] theorem keep_178_0 : MX.keep 178 0 = some [0, 1, 2, 3] := by kernel_rfl
@[simp] theorem keep_178_1 : MX.keep 178 1 = some [4] := by kernel_rfl
@[simp] theorem fn_179 : MX.fn 179 = some Tryz.f179 := by kernel_rfl
@[simp] theorem eff_179 : MX.eff 179 = none := by kernel_rfl
@[simp] theorem prim_179 : MX.prim 179 = none := by kernel_rfl
@[simp] theorem mode_179 : MX.mode 179 = { fresh := false, keepTop := false } := rfl
@[simp] theorem keep_179_0 : MX.keep 179 0 = some [0, 1, 3, 6] := by kernel_rfl
@[simp] theorem keep_179_1 : MX.keep 179 1 = some [0, 1, 3, 6, 8] := by kernel_rfl
@[simp] theorem keep_179_2 : MX.keep 179 2 = some [] := by kernel_rfl
@[simp] theorem keep_179_3 : MX.keep 179 3 = some [0, 1, 3, 6, 15] := by kernel_rfl
@[simp] theorem keep_179_4 : MX.keep 179 4 = some [] := by kernel_rfl
@[simp] theorem fn_180 : MX.fn 180 = some Tryz.f180 := by kernel_rfl
@[simp] theorem eff_180 : MX.eff 180 = none := by kernel_rfl
@[simp] theorem prim_180 : MX.prim 180 = none := by kernel_rfl
@[simp] theorem mode_180 : MX.mode 180 = { fresh := true, keepTop := false } := rfl
@[simp] theorem keep_180_0 : MX.keep 180 0 = some [0] := by kernel_rfl
@[simp] theorem keep_180_1 : MX.keep 180 1 = some [0, 7, 8, 9] := by kernel_rfl
@[simp] theorem keep_180_2 : MX.keep 180 2 = some [0, 7, 8, 9, 10] := by kernel_rfl
@[simp] theorem keep_180_3 : MX.keep 180 3 = some [0, 3, 4, 7, 8, 9] := by kernel_rfl
@[simp] theorem keep_180_4 : MX.keep 180 4 = some [0, 3, 4, 5, 7, 8, 9] := by kernel_rfl
@[simp] theorem keep_180_5 : MX.keep 180 5 = some [0, 7, 8, 9, 45] := by kernel_rfl
@[simp] theorem keep_180_6 : MX.keep 180 6 = some [2] := by kernel_rfl
@[simp] theorem keep_180_7 : MX.keep 180 7 = some [0, 7, 8, 9] := by kernel_rfl
@[simp] theorem keep_180_8 : MX.keep 180 8 = some [2] := by kernel_rfl
@[simp] theorem fn_181 : MX.fn 181 = some Tryz.f181 := by kernel_rfl
@[simp] theorem eff_181 : MX.eff 181 = none := by kernel_rfl
@[simp] theorem prim_181 : MX.prim 181 = none := by kernel_rfl
@[simp] theorem mode_181 : MX.mode 181 = { fresh := true, keepTop := false } := rfl
@[simp] theorem keep_181_0 : MX.keep 181 0 = some [0, 1, 2] := by kernel_rfl
@[simp] theorem keep_181_1 : MX.keep 181 1 = some [6] := by kernel_rfl
@[simp] theorem fn_182 : MX.fn 182 = some Tryz.f182 := by kernel_rfl
@[simp] theorem eff_182 : MX.eff 182 = none := by kernel_rfl
@[simp] theorem prim_182 : MX.prim 182 = none := by kernel_rfl
@[simp] theorem mode_182 : MX.mode 182 = { } := rfl
@[simp] theorem keep_182_0 : MX.keep 182 0 = some [0, 3] := by kernel_rfl
@[simp] theorem keep_182_1 : MX.keep 182 1 = some [4] := by kernel_rfl
@[simp] theorem eff_184 : MX.eff 184 = some bitLenA := by kernel_rfl
@[simp] theorem prim_184 : MX.prim 184 = none := by kernel_rfl
@[simp] theorem mode_184 : MX.mode 184 = { fresh := true, keepTop := false } := rfl
@[simp] theorem fn_185 : MX.fn 185 = some Tryz.f185 := by kernel_rfl
@[simp] theorem eff_185 : MX.eff 185 = none := by kernel_rfl
@[simp] theorem prim_185 : MX.prim 185 = none := by kernel_rfl
@[simp] theorem mode_185 : MX.mode 185 = { fresh := true, keepTop := false } := rfl
@[simp] theorem mut_185 : MX.mutLit 185 = false := by kernel_rfl
@[simp] theorem keep_185_0 : MX.keep 185 0 = some [1, 2] := by kernel_rfl
@[simp] theorem keep_185_1 : MX.keep 185 1 = some [1, 2, 12] := by kernel_rfl
@[simp] theorem keep_185_2 : MX.keep 185 2 = some [4] := by kernel_rfl
@[simp] theorem keep_185_3 : MX.keep 185 3 = some [1, 2, 32] := by kernel_rfl
@[simp] theorem keep_185_4 : MX.keep 185 4 = some [4] := by kernel_rfl
@[simp] theorem keep_185_5 : MX.keep 185 5 = some [1, 2, 42] := by kernel_rfl
@[simp] theorem keep_185_6 : MX.keep 185 6 = some [4] := by kernel_rfl
@[simp] theorem keep_185_7 : MX.keep 185 7 = some [1, 2, 46] := by kernel_rfl
@[simp] theorem keep_185_8 : MX.keep 185 8 = some [4] := by kernel_rfl
@[simp] theorem keep_185_9 : MX.keep 185 9 = some [1, 2, 5] := by kernel_rfl
@[simp] theorem keep_185_10 : MX.keep 185 10 = some [1, 2, 5, 51] := by kernel_rfl
@[simp] theorem keep_185_11 : MX.keep 185 11 = some [1, 2, 5] := by kernel_rfl
@[simp] theorem keep_185_12 : MX.keep 185 12 = some [1, 2, 5, 60] := by kernel_rfl
@[simp] theorem keep_185_13 : MX.keep 185 13 = some [4] := by kernel_rfl
@[simp] theorem keep_185_14 : MX.keep 185 14 = some [1, 2, 5, 70] := by kernel_rfl
@[simp] theorem keep_185_15 : MX.keep 185 15 = some [4] := by kernel_rfl
@[simp] theorem keep_185_16 : MX.keep 185 16 = some [1, 2, 6] := by kernel_rfl
@[simp] theorem keep_185_17 : MX.keep 185 17 = some [1, 2, 6, 75] := by kernel_rfl
@[simp] theorem keep_185_18 : MX.keep 185 18 = some [1, 2, 6] := by kernel_rfl
@[simp] theorem keep_185_19 : MX.keep 185 19 = some [1, 2, 6, 7] := by kernel_rfl
@[simp] theorem keep_185_20 : MX.keep 185 20 = some [1, 2, 6, 7, 86] := by kernel_rfl
@[simp] theorem keep_185_21 : MX.keep 185 21 = some [4] := by kernel_rfl
@[simp] theorem keep_185_22 : MX.keep 185 22 = some [1, 2, 6, 7, 111] := by kernel_rfl
@[simp] theorem keep_185_23 : MX.keep 185 23 = some [4] := by kernel_rfl
@[simp] theorem keep_185_24 : MX.keep 185 24 = some [1, 2, 6, 8] := by kernel_rfl
@[simp] theorem keep_185_25 : MX.keep 185 25 = some [1, 2, 6, 8, 117] := by kernel_rfl
@[simp] theorem keep_185_26 : MX.keep 185 26 = some [4] := by kernel_rfl
@[simp] theorem keep_185_27 : MX.keep 185 27 = some [4] := by kernel_rfl
@[simp] theorem fn_186 : MX.fn 186 = some Tryz.f186 := by kernel_rfl
@[simp] theorem eff_186 : MX.eff 186 = none := by kernel_rfl
@[simp] theorem prim_186 : MX.prim 186 = none := by kernel_rfl
@[simp] theorem mode_186 : MX.mode 186 = { fresh := true, keepTop := false } := rfl
@[simp] theorem keep_186_0 : MX.keep 186 0 = some [0, 1, 5] := by kernel_rfl
@[simp] theorem keep_186_1 : MX.keep 186 1 = some [0, 1, 5, 14] := by kernel_rfl
@[simp] theorem keep_186_2 : MX.keep 186 2 = some [6] := by kernel_rfl
@[simp] theorem keep_186_3 : MX.keep 186 3 = some [0, 1, 5, 7] := by kernel_rfl
@[simp] theorem keep_186_4 : MX.keep 186 4 = some [0, 1, 5, 7, 24] := by kernel_rfl
@[simp] theorem keep_186_5 : MX.keep 186 5 = some [6] := by kernel_rfl
@[simp] theorem keep_186_6 : MX.keep 186 6 = some [0, 1, 5, 7, 27] := by kernel_rfl
@[simp] theorem keep_186_7 : MX.keep 186 7 = some [0, 1, 5, 7, 8] := by kernel_rfl
@[simp] theorem keep_186_8 : MX.keep 186 8 = some [6] := by kernel_rfl
@[simp] theorem keep_186_9 : MX.keep 186 9 = some [0, 1, 5, 7, 8, 32] := by kernel_rfl
@[simp] theorem keep_186_10 : MX.keep 186 10 = some [0, 1, 5, 7] := by kernel_rfl
@[simp] theorem keep_186_11 : MX.keep 186 11 = some [0, 1, 5, 7, 8, 36] := by kernel_rfl
@[simp] theorem keep_186_12 : MX.keep 186 12 = some [0, 1, 5, 8, 40] := by kernel_rfl
@[simp] theorem keep_186_13 : MX.keep 186 13 = some [0, 1, 5, 7] := by kernel_rfl
@[simp] theorem keep_186_14 : MX.keep 186 14 = some [0, 1, 5, 53] := by kernel_rfl
@[simp] theorem keep_186_15 : MX.keep 186 15 = some [6] := by kernel_rfl
@[simp] theorem keep_186_16 : MX.keep 186 16 = some [0, 1, 5, 62] := by kernel_rfl
@[simp] theorem keep_186_17 : MX.keep 186 17 = some [6] := by kernel_rfl
@[simp] theorem keep_186_18 : MX.keep 186 18 = some [0, 1, 5, 9] := by kernel_rfl
@[simp] theorem keep_186_19 : MX.keep 186 19 = some [0, 1, 5, 9, 67] := by kernel_rfl
@[simp] theorem keep_186_20 : MX.keep 186 20 = some [0, 1, 5, 9] := by kernel_rfl
@[simp] theorem keep_186_21 : MX.keep 186 21 = some [0, 1, 5, 9, 10] := by kernel_rfl
@[simp] theorem keep_186_22 : MX.keep 186 22 = some [0, 1, 5, 9, 10, 79] := by kernel_rfl
@[simp] theorem keep_186_23 : MX.keep 186 23 = some [6] := by kernel_rfl
@[simp] theorem keep_186_24 : MX.keep 186 24 = some [6] := by kernel_rfl
@[simp] theorem fn_193 : MX.fn 193 = some Tryz.f193 := by kernel_rfl
@[simp] theorem eff_193 : MX.eff 193 = none := by kernel_rfl
@[simp] theorem prim_193 : MX.prim 193 = none := by kernel_rfl
@[simp] theorem mode_193 : MX.mode 193 = { fresh := true, keepTop := false } := rfl
@[simp] theorem keep_193_0 : MX.keep 193 0 = some [1] := by kernel_rfl
@[simp] theorem keep_193_1 : MX.keep 193 1 = some [1, 8] := by kernel_rfl
@[simp] theorem keep_193_2 : MX.keep 193 2 = some [2, 3] := by kernel_rfl
@[simp] theorem keep_193_3 : MX.keep 193 3 = some [1, 4, 5] := by kernel_rfl
@[simp] theorem keep_193_4 : MX.keep 193 4 = some [2, 3] := by kernel_rfl
@[simp] theorem fn_194 : MX.fn 194 = some Tryz.f194 := by kernel_rfl
@[simp] theorem eff_194 : MX.eff 194 = none := by kernel_rfl
@[simp] theorem prim_194 : MX.prim 194 = none := by kernel_rfl
@[simp] theorem mode_194 : MX.mode 194 = { fresh := true, keepTop := false } := rfl
@[simp] theorem keep_194_0 : MX.keep 194 0 = some [2, 3] := by kernel_rfl
@[simp] theorem keep_194_1 : MX.keep 194 1 = some [2, 3, 5] := by kernel_rfl
@[simp] theorem keep_194_2 : MX.keep 194 2 = some [2, 3, 5, 9] := by kernel_rfl
@[simp] theorem keep_194_3 : MX.keep 194 3 = some [4] := by kernel_rfl
@[simp] theorem keep_194_4 : MX.keep 194 4 = some [4] := by kernel_rfl
@[simp] theorem fn_195 : MX.fn 195 = some Tryz.f195 := by kernel_rfl
@[simp] theorem eff_195 : MX.eff 195 = none := by kernel_rfl
@[simp] theorem prim_195 : MX.prim 195 = none := by kernel_rfl
@[simp] theorem mode_195 : MX.mode 195 = { fresh := false, keepTop := false } := rfl
@[simp] theorem mut_195 : MX.mutLit 195 = false := by kernel_rfl
@[simp] theorem keep_195_0 : MX.keep 195 0 = some [2, 3, 4, 5] := by kernel_rfl
@[simp] theorem keep_195_1 : MX.keep 195 1 = some [2, 3, 4, 5, 10] := by kernel_rfl
@[simp] theorem keep_195_2 : MX.keep 195 2 = some [2, 3, 4, 5, 10, 23] := by kernel_rfl
@[simp] theorem keep_195_3 : MX.keep 195 3 = some [8, 9] := by kernel_rfl
@[simp] theorem keep_195_4 : MX.keep 195 4 = some [2, 3, 4, 5] := by kernel_rfl
@[simp] theorem keep_195_5 : MX.keep 195 5 = some [2, 3, 4, 5, 11] := by kernel_rfl
@[simp] theorem keep_195_6 : MX.keep 195 6 = some [2, 3, 4, 5, 11, 41] := by kernel_rfl
@[simp] theorem keep_195_7 : MX.keep 195 7 = some [8, 9] := by kernel_rfl
@[simp] theorem keep_195_8 : MX.keep 195 8 = some [2, 3, 4, 5, 11, 44] := by kernel_rfl
@[simp] theorem keep_195_9 : MX.keep 195 9 = some [11, 12] := by kernel_rfl
@[simp] theorem keep_195_10 : MX.keep 195 10 = some [8, 9] := by kernel_rfl
@[simp] theorem keep_195_11 : MX.keep 195 11 = some [2, 3, 4, 5, 11, 65] := by kernel_rfl
@[simp] theorem keep_195_12 : MX.keep 195 12 = some [8, 9] := by kernel_rfl
@[simp] theorem keep_195_13 : MX.keep 195 13 = some [2, 3, 4, 13] := by kernel_rfl
@[simp] theorem keep_195_14 : MX.keep 195 14 = some [2, 3, 4, 13, 76, 77] := by kernel_rfl
@[simp] theorem keep_195_15 : MX.keep 195 15 = some [2, 3, 4, 13, 76, 77, 78] := by kernel_rfl
@[simp] theorem keep_195_16 : MX.keep 195 16 = some [2, 3, 4, 13, 14, 76, 77] := by kernel_rfl
@[simp] theorem keep_195_17 : MX.keep 195 17 = some [2, 3, 4, 13, 15, 76, 77] := by kernel_rfl
@[simp] theorem keep_195_18 : MX.keep 195 18 = some [2, 3, 4, 13, 15, 76, 77, 89, 90, 91] := by kernel_rfl
@[simp] theorem keep_195_19 : MX.keep 195 19 = some [2, 3, 4, 13, 15, 76, 77, 89, 90, 91, 92] := by kernel_rfl
@[simp] theorem keep_195_20 : MX.keep 195 20 = some [2, 3, 4, 13, 15, 17, 76, 77, 89, 90, 91] := by kernel_rfl
@[simp] theorem keep_195_21 : MX.keep 195 21 = some [2, 3, 4, 13, 15, 18, 19, 76, 77, 89, 90, 91] := by kernel_rfl
@[simp] theorem keep_195_22 : MX.keep 195 22 = some [2, 3, 4, 13, 15, 18, 19, 76, 77, 89, 90, 91, 106] := by kernel_rfl
@[simp] theorem keep_195_23 : MX.keep 195 23 = some [8, 9] := by kernel_rfl
@[simp] theorem keep_195_24 : MX.keep 195 24 = some [2, 3, 4, 13, 15, 76, 77, 89, 90, 91] := by kernel_rfl
@[simp] theorem keep_195_25 : MX.keep 195 25 = some [2, 3, 4, 13, 15, 76, 77, 89, 90, 91] := by kernel_rfl
@[simp] theorem keep_195_26 : MX.keep 195 26 = some [2, 3, 4, 13, 76, 77] := by kernel_rfl
@[simp] theorem keep_195_27 : MX.keep 195 27 = some [8, 9] := by kernel_rfl
@[simp] theorem fn_196 : MX.fn 196 = some Tryz.f196 := by kernel_rfl
@[simp] theorem eff_196 : MX.eff 196 = none := by kernel_rfl
@[simp] theorem prim_196 : MX.prim 196 = none := by kernel_rfl
@[simp] theorem mode_196 : MX.mode 196 = { fresh := true, keepTop := false } := rfl
@[simp] theorem keep_196_0 : MX.keep 196 0 = some [0, 1, 2] := by kernel_rfl
@[simp] theorem keep_196_1 : MX.keep 196 1 = some [6] := by kernel_rfl
@[simp] theorem fn_197 : MX.fn 197 = some Tryz.f197 := by kernel_rfl
@[simp] theorem eff_197 : MX.eff 197 = none := by kernel_rfl
@[simp] theorem prim_197 : MX.prim 197 = none := by kernel_rfl
@[simp] theorem mode_197 : MX.mode 197 = { } := rfl
@[simp] theorem keep_197_0 : MX.keep 197 0 = some [0] := by kernel_rfl
@[simp] theorem keep_197_1 : MX.keep 197 1 = some [0, 4] := by kernel_rfl
@[simp] theorem keep_197_2 : MX.keep 197 2 = some [2] := by kernel_rfl
@[simp] theorem keep_197_3 : MX.keep 197 3 = some [2] := by kernel_rfl
@[simp] theorem fn_198 : MX.fn 198 = some Tryz.f198 := by kernel_rfl
@[simp] theorem eff_198 : MX.eff 198 = none := by kernel_rfl
@[simp] theorem prim_198 : MX.prim 198 = none := by kernel_rfl
@[simp] theorem mode_198 : MX.mode 198 = { fresh := false, keepTop := false } := rfl
@[simp] theorem keep_198_0 : MX.keep 198 0 = some [0] := by kernel_rfl
@[simp] theorem keep_198_1 : MX.keep 198 1 = some [1] := by kernel_rfl
@[simp] theorem fn_199 : MX.fn 199 = some Tryz.f199 := by kernel_rfl
@[simp] theorem eff_199 : MX.eff 199 = none := by kernel_rfl
@[simp] theorem prim_199 : MX.prim 199 = none := by kernel_rfl
@[simp] theorem mode_199 : MX.mode 199 = { } := rfl
@[simp] theorem keep_199_0 : MX.keep 199 0 = some [0, 1] := by kernel_rfl
@[simp] theorem keep_199_1 : MX.keep 199 1 = some [0, 1, 7, 8] := by kernel_rfl
@[simp] theorem keep_199_2 : MX.keep 199 2 = some [0, 1, 7, 8, 9] := by kernel_rfl
@[simp] theorem keep_199_3 : MX.keep 199 3 = some [0, 1, 5, 7, 8] := by kernel_rfl
@[simp] theorem keep_199_4 : MX.keep 199 4 = some [0, 1, 5, 7, 8, 16] := by kernel_rfl
@[simp] theorem keep_199_5 : MX.keep 199 5 = some [4] := by kernel_rfl
@[simp] theorem keep_199_6 : MX.keep 199 6 = some [0, 1, 7, 8] := by kernel_rfl
@[simp] theorem keep_199_7 : MX.keep 199 7 = some [4] := by kernel_rfl
@[simp] theorem fn_200 : MX.fn 200 = some Tryz.f200 := by kernel_rfl
@[simp] theorem eff_200 : MX.eff 200 = none := by kernel_rfl
@[simp] theorem prim_200 : MX.prim 200 = none := by kernel_rfl
@[simp] theorem mode_200 : MX.mode 200 = { fresh := false, keepTop := false } := rfl
@[simp] theorem keep_200_0 : MX.keep 200 0 = some [1, 2] := by kernel_rfl
@[simp] theorem keep_200_1 : MX.keep 200 1 = some [3] := by kernel_rfl
@[simp] theorem fn_212 : MX.fn 212 = some Tryz.f212 := by kernel_rfl
@[simp] theorem eff_212 : MX.eff 212 = none := by kernel_rfl
@[simp] theorem prim_212 : MX.prim 212 = none := by kernel_rfl
@[simp] theorem mode_212 : MX.mode 212 = { fresh := true, keepTop := false } := rfl
@[simp] theorem keep_212_0 : MX.keep 212 0 = some [0, 1] := by kernel_rfl
@[simp] theorem keep_212_1 : MX.keep 212 1 = some [0, 1, 5] := by kernel_rfl
@[simp] theorem keep_212_2 : MX.keep 212 2 = some [0, 1, 5, 10] := by kernel_rfl
@[simp] theorem keep_212_3 : MX.keep 212 3 = some [0, 1, 5] := by kernel_rfl
@[simp] theorem keep_212_4 : MX.keep 212 4 = some [0, 1, 5, 6] := by kernel_rfl
@[simp] theorem keep_212_5 : MX.keep 212 5 = some [0, 1, 5, 6, 20] := by kernel_rfl
@[simp] theorem keep_212_6 : MX.keep 212 6 = some [0, 1, 5, 6] := by kernel_rfl
@[simp] theorem keep_212_7 : MX.keep 212 7 = some [0, 1, 5, 6, 33] := by kernel_rfl
@[simp] theorem keep_212_8 : MX.keep 212 8 = some [4] := by kernel_rfl
@[simp] theorem keep_212_9 : MX.keep 212 9 = some [4] := by kernel_rfl
@[simp] theorem fn_213 : MX.fn 213 = some Tryz.f213 := by kernel_rfl
@[simp] theorem eff_213 : MX.eff 213 = none := by kernel_rfl
@[simp] theorem prim_213 : MX.prim 213 = none := by kernel_rfl
@[simp] theorem mode_213 : MX.mode 213 = { fresh := true, keepTop := false } := rfl
@[simp] theorem keep_213_0 : MX.keep 213 0 = some [2, 3, 4] := by kernel_rfl
@[simp] theorem keep_213_1 : MX.keep 213 1 = some [2, 3, 4, 14] := by kernel_rfl
@[simp] theorem keep_213_2 : MX.keep 213 2 = some [6] := by kernel_rfl
@[simp] theorem keep_213_3 : MX.keep 213 3 = some [2, 3, 4, 7] := by kernel_rfl
@[simp] theorem keep_213_4 : MX.keep 213 4 = some [2, 3, 4, 7, 19] := by kernel_rfl
@[simp] theorem keep_213_5 : MX.keep 213 5 = some [2, 3, 4, 7] := by kernel_rfl
@[simp] theorem keep_213_6 : MX.keep 213 6 = some [2, 3, 4, 7, 8] := by kernel_rfl
@[simp] theorem keep_213_7 : MX.keep 213 7 = some [2, 3, 4, 7, 8, 30] := by kernel_rfl
@[simp] theorem keep_213_8 : MX.keep 213 8 = some [6] := by kernel_rfl
@[simp] theorem keep_213_9 : MX.keep 213 9 = some [2, 3, 4, 7, 8, 9] := by kernel_rfl
@[simp] theorem keep_213_10 : MX.keep 213 10 = some [2, 3, 4, 7, 8, 9, 33] := by kernel_rfl
@[simp] theorem keep_213_11 : MX.keep 213 11 = some [2, 3, 4, 7, 8, 9] := by kernel_rfl
@[simp] theorem keep_213_12 : MX.keep 213 12 = some [2, 3, 4, 7, 8, 9, 44] := by kernel_rfl
@[simp] theorem keep_213_13 : MX.keep 213 13 = some [6] := by kernel_rfl
@[simp] theorem keep_213_14 : MX.keep 213 14 = some [2, 3, 4, 7, 10] := by kernel_rfl
@[simp] theorem keep_213_15 : MX.keep 213 15 = some [2, 3, 4, 7, 10, 52] := by kernel_rfl
@[simp] theorem keep_213_16 : MX.keep 213 16 = some [6] := by kernel_rfl
@[simp] theorem keep_213_17 : MX.keep 213 17 = some [6] := by kernel_rfl
@[simp] theorem fn_215 : MX.fn 215 = some Tryz.f215 := by kernel_rfl
@[simp] theorem eff_215 : MX.eff 215 = none := by kernel_rfl
@[simp] theorem prim_215 : MX.prim 215 = none := by kernel_rfl
@[simp] theorem mode_215 : MX.mode 215 = { fresh := true, keepTop := false } := rfl
@[simp] theorem keep_215_0 : MX.keep 215 0 = some [0, 1] := by kernel_rfl
@[simp] theorem keep_215_1 : MX.keep 215 1 = some [1, 5] := by kernel_rfl
@[simp] theorem keep_215_2 : MX.keep 215 2 = some [4] := by kernel_rfl
@[simp] theorem keep_215_3 : MX.keep 215 3 = some [4] := by kernel_rfl
@[simp] theorem fn_216 : MX.fn 216 = some Tryz.f216 := by kernel_rfl
@[simp] theorem eff_216 : MX.eff 216 = none := by kernel_rfl
@[simp] theorem prim_216 : MX.prim 216 = none := by kernel_rfl
@[simp] theorem mode_216 : MX.mode 216 = { } := rfl
@[simp] theorem keep_216_0 : MX.keep 216 0 = some [0] := by kernel_rfl
@[simp] theorem keep_216_1 : MX.keep 216 1 = some [2] := by kernel_rfl
@[simp] theorem fn_217 : MX.fn 217 = some Tryz.f217 := by kernel_rfl
@[simp] theorem eff_217 : MX.eff 217 = none := by kernel_rfl
@[simp] theorem prim_217 : MX.prim 217 = none := by kernel_rfl
@[simp] theorem mode_217 : MX.mode 217 = { fresh := true, keepTop := false } := rfl
@[simp] theorem keep_217_0 : MX.keep 217 0 = some [0] := by kernel_rfl
@[simp] theorem keep_217_1 : MX.keep 217 1 = some [5, 6, 7] := by kernel_rfl
@[simp] theorem keep_217_2 : MX.keep 217 2 = some [5, 6, 7, 8] := by kernel_rfl
@[simp] theorem keep_217_3 : MX.keep 217 3 = some [4, 5, 6, 7] := by kernel_rfl
@[simp] theorem keep_217_4 : MX.keep 217 4 = some [4, 5, 6, 7, 12] := by kernel_rfl
@[simp] theorem keep_217_5 : MX.keep 217 5 = some [2] := by kernel_rfl
@[simp] theorem keep_217_6 : MX.keep 217 6 = some [5, 6, 7] := by kernel_rfl
@[simp] theorem keep_217_7 : MX.keep 217 7 = some [2] := by kernel_rfl
@[simp] theorem fn_230 : MX.fn 230 = some Tryz.f230 := by kernel_rfl
@[simp] theorem eff_230 : MX.eff 230 = none := by kernel_rfl
@[simp] theorem prim_230 : MX.prim 230 = none := by kernel_rfl
@[simp] theorem mode_230 : MX.mode 230 = { fresh := false, keepTop := false } := rfl
@[simp] theorem keep_230_0 : MX.keep 230 0 = some [0, 1] := by kernel_rfl
@[simp] theorem keep_230_1 : MX.keep 230 1 = some [1, 9, 10, 11] := by kernel_rfl
@[simp] theorem keep_230_2 : MX.keep 230 2 = some [1, 9, 10, 11, 12] := by kernel_rfl
@[simp] theorem keep_230_3 : MX.keep 230 3 = some [1, 6, 7, 9, 10, 11] := by kernel_rfl
@[simp] theorem keep_230_4 : MX.keep 230 4 = some [1, 6, 8, 9, 10, 11] := by kernel_rfl
@[simp] theorem keep_230_5 : MX.keep 230 5 = some [1, 6, 8, 9, 10, 11, 21] := by kernel_rfl
@[simp] theorem keep_230_6 : MX.keep 230 6 = some [4, 5] := by kernel_rfl
@[simp] theorem keep_230_7 : MX.keep 230 7 = some [1, 9, 10, 11] := by kernel_rfl
@[simp] theorem keep_230_8 : MX.keep 230 8 = some [4, 5] := by kernel_rfl
@[simp] theorem fn_231 : MX.fn 231 = some Tryz.f231 := by kernel_rfl
@[simp] theorem eff_231 : MX.eff 231 = none := by kernel_rfl
@[simp] theorem prim_231 : MX.prim 231 = none := by kernel_rfl
@[simp] theorem mode_231 : MX.mode 231 = { fresh := false, keepTop := false } := rfl
@[simp] theorem mut_231 : MX.mutLit 231 = false := by kernel_rfl
@[simp] theorem keep_231_0 : MX.keep 231 0 = some [0, 2, 3, 4, 6] := by kernel_rfl
@[simp] theorem keep_231_1 : MX.keep 231 1 = some [3, 4, 6, 8] := by kernel_rfl
@[simp] theorem keep_231_2 : MX.keep 231 2 = some [4, 6, 8] := by kernel_rfl
@[simp] theorem keep_231_3 : MX.keep 231 3 = some [4, 8, 27, 28, 29] := by kernel_rfl
@[simp] theorem keep_231_4 : MX.keep 231 4 = some [4, 8, 27, 28, 29, 30] := by kernel_rfl
@[simp] theorem keep_231_5 : MX.keep 231 5 = some [4, 8, 10, 27, 28, 29] := by kernel_rfl
@[simp] theorem keep_231_6 : MX.keep 231 6 = some [4, 8, 27, 28, 29] := by kernel_rfl
@[simp] theorem keep_231_7 : MX.keep 231 7 = some [4, 8, 27, 28, 29] := by kernel_rfl
@[simp] theorem keep_231_8 : MX.keep 231 8 = some [7] := by kernel_rfl
@[simp] theorem fn_232 : MX.fn 232 = some Tryz.f232 := by kernel_rfl
@[simp] theorem eff_232 : MX.eff 232 = none := by kernel_rfl
@[simp] theorem prim_232 : MX.prim 232 = none := by kernel_rfl
@[simp] theorem mode_232 : MX.mode 232 = { fresh := true, keepTop := false } := rfl
@[simp] theorem mut_232 : MX.mutLit 232 = false := by kernel_rfl
@[simp] theorem keep_232_0 : MX.keep 232 0 = some [2, 3, 4, 5] := by kernel_rfl
@[simp] theorem keep_232_1 : MX.keep 232 1 = some [3, 4, 5, 9] := by kernel_rfl
@[simp] theorem keep_232_2 : MX.keep 232 2 = some [3, 4, 5, 9, 38] := by kernel_rfl
@[simp] theorem keep_232_3 : MX.keep 232 3 = some [8] := by kernel_rfl
@[simp] theorem keep_232_4 : MX.keep 232 4 = some [3, 4, 5, 11] := by kernel_rfl
@[simp] theorem keep_232_5 : MX.keep 232 5 = some [3, 4, 5, 11, 48] := by kernel_rfl
@[simp] theorem keep_232_6 : MX.keep 232 6 = some [8] := by kernel_rfl
@[simp] theorem keep_232_7 : MX.keep 232 7 = some [3, 4, 5] := by kernel_rfl
@[simp] theorem keep_232_8 : MX.keep 232 8 = some [4, 5, 12] := by kernel_rfl
@[simp] theorem keep_232_9 : MX.keep 232 9 = some [9] := by kernel_rfl
@[simp] theorem keep_232_10 : MX.keep 232 10 = some [8] := by kernel_rfl
@[simp] theorem fn_234 : MX.fn 234 = some Tryz.f234 := by kernel_rfl
@[simp] theorem eff_234 : MX.eff 234 = none := by kernel_rfl
@[simp] theorem prim_234 : MX.prim 234 = none := by kernel_rfl
@[simp] theorem mode_234 : MX.mode 234 = { fresh := true, keepTop := false } := rfl
@[simp] theorem keep_234_0 : MX.keep 234 0 = some [2, 3] := by kernel_rfl
@[simp] theorem keep_234_1 : MX.keep 234 1 = some [2, 3, 5] := by kernel_rfl
@[simp] theorem keep_234_2 : MX.keep 234 2 = some [2, 3, 5, 6] := by kernel_rfl
@[simp] theorem keep_234_3 : MX.keep 234 3 = some [2, 6] := by kernel_rfl
@[simp] theorem keep_234_4 : MX.keep 234 4 = some [4] := by kernel_rfl
@[simp] theorem fn_235 : MX.fn 235 = some Tryz.f235 := by kernel_rfl
@[simp] theorem eff_235 : MX.eff 235 = none := by kernel_rfl
@[simp] theorem prim_235 : MX.prim 235 = none := by kernel_rfl
@[simp] theorem mode_235 : MX.mode 235 = { fresh := true, keepTop := false } := rfl
@[simp] theorem keep_235_0 : MX.keep 235 0 = some [1] := by kernel_rfl
@[simp] theorem keep_235_1 : MX.keep 235 1 = some [2] := by kernel_rfl
@[simp] theorem fn_236 : MX.fn 236 = some Tryz.f236 := by kernel_rfl
@[simp] theorem eff_236 : MX.eff 236 = none := by kernel_rfl
@[simp] theorem prim_236 : MX.prim 236 = none := by kernel_rfl
@[simp] theorem mode_236 : MX.mode 236 = { fresh := true, keepTop := false } := rfl
@[simp] theorem keep_236_0 : MX.keep 236 0 = some [2, 3] := by kernel_rfl
@[simp] theorem keep_236_1 : MX.keep 236 1 = some [2, 3, 5] := by kernel_rfl
@[simp] theorem keep_236_2 : MX.keep 236 2 = some [2, 3, 5, 11] := by kernel_rfl
@[simp] theorem keep_236_3 : MX.keep 236 3 = some [4] := by kernel_rfl
@[simp] theorem keep_236_4 : MX.keep 236 4 = some [2, 3, 5, 11, 12] := by kernel_rfl
@[simp] theorem keep_236_5 : MX.keep 236 5 = some [2, 3, 5, 19] := by kernel_rfl
@[simp] theorem keep_236_6 : MX.keep 236 6 = some [4] := by kernel_rfl
@[simp] theorem keep_236_7 : MX.keep 236 7 = some [2, 3, 5, 11, 20] := by kernel_rfl
@[simp] theorem keep_236_8 : MX.keep 236 8 = some [2, 3, 5, 6, 7] := by kernel_rfl
@[simp] theorem keep_236_9 : MX.keep 236 9 = some [2, 3, 5, 6, 29] := by kernel_rfl
@[simp] theorem keep_236_10 : MX.keep 236 10 = some [2, 3, 5] := by kernel_rfl
@[simp] theorem keep_236_11 : MX.keep 236 11 = some [2, 3, 5, 34] := by kernel_rfl
@[simp] theorem keep_236_12 : MX.keep 236 12 = some [2, 3, 5] := by kernel_rfl
@[simp] theorem keep_236_13 : MX.keep 236 13 = some [2, 3, 5, 38] := by kernel_rfl
@[simp] theorem keep_236_14 : MX.keep 236 14 = some [4] := by kernel_rfl
@[simp] theorem keep_236_15 : MX.keep 236 15 = some [2, 3, 5, 42] := by kernel_rfl
@[simp] theorem keep_236_16 : MX.keep 236 16 = some [2, 3, 48] := by kernel_rfl
@[simp] theorem keep_236_17 : MX.keep 236 17 = some [4] := by kernel_rfl
@[simp] theorem keep_236_18 : MX.keep 236 18 = some [2, 3, 57] := by kernel_rfl
@[simp] theorem keep_236_19 : MX.keep 236 19 = some [4] := by kernel_rfl
@[simp] theorem keep_236_20 : MX.keep 236 20 = some [9] := by kernel_rfl
@[simp] theorem keep_236_21 : MX.keep 236 21 = some [4] := by kernel_rfl
@[simp] theorem fn_237 : MX.fn 237 = some Tryz.f237 := by kernel_rfl
@[simp] theorem eff_237 : MX.eff 237 = none := by kernel_rfl
@[simp] theorem prim_237 : MX.prim 237 = none := by kernel_rfl
@[simp] theorem mode_237 : MX.mode 237 = { fresh := true, keepTop := true } := rfl
@[simp] theorem mut_237 : MX.mutLit 237 = false := by kernel_rfl
@[simp] theorem keep_237_0 : MX.keep 237 0 = some [2, 3] := by kernel_rfl
@[simp] theorem keep_237_1 : MX.keep 237 1 = some [3, 5, 6] := by kernel_rfl
@[simp] theorem keep_237_2 : MX.keep 237 2 = some [3, 5, 21] := by kernel_rfl
@[simp] theorem keep_237_3 : MX.keep 237 3 = some [4] := by kernel_rfl
@[simp] theorem keep_237_4 : MX.keep 237 4 = some [3, 5, 7] := by kernel_rfl
@[simp] theorem keep_237_5 : MX.keep 237 5 = some [3, 5, 7, 26, 27, 28] := by kernel_rfl
@[simp] theorem keep_237_6 : MX.keep 237 6 = some [3, 5, 7, 26, 27, 28, 29] := by kernel_rfl
@[simp] theorem keep_237_7 : MX.keep 237 7 = some [3, 5, 7, 9, 26, 27, 28] := by kernel_rfl
@[simp] theorem keep_237_8 : MX.keep 237 8 = some [3, 5, 7, 9, 10, 26, 27, 28] := by kernel_rfl
@[simp] theorem keep_237_9 : MX.keep 237 9 = some [3, 5, 7, 10, 26, 27, 28, 36, 37, 38] := by kernel_rfl
@[simp] theorem keep_237_10 : MX.keep 237 10 = some [3, 5, 7, 10, 26, 27, 28, 36, 37, 38, 39] := by kernel_rfl
@[simp] theorem keep_237_11 : MX.keep 237 11 = some [3, 5, 7, 10, 12, 26, 27, 28, 36, 37, 38] := by kernel_rfl
@[simp] theorem keep_237_12 : MX.keep 237 12 = some [3, 5, 7, 10, 26, 27, 28, 36, 37, 38] := by kernel_rfl
@[simp] theorem keep_237_13 : MX.keep 237 13 = some [3, 5, 7, 10, 26, 27, 28, 36, 37, 38] := by kernel_rfl
@[simp] theorem keep_237_14 : MX.keep 237 14 = some [3, 5, 7, 26, 27, 28] := by kernel_rfl
@[simp] theorem keep_237_15 : MX.keep 237 15 = some [3, 5, 7, 26, 27, 28] := by kernel_rfl
@[simp] theorem keep_237_16 : MX.keep 237 16 = some [4] := by kernel_rfl
@[simp] theorem fn_238 : MX.fn 238 = some Tryz.f238 := by kernel_rfl
@[simp] theorem eff_238 : MX.eff 238 = none := by kernel_rfl
@[simp] theorem prim_238 : MX.prim 238 = none := by kernel_rfl
@[simp] theorem mode_238 : MX.mode 238 = { } := rfl
@[simp] theorem keep_238_0 : MX.keep 238 0 = some [0] := by kernel_rfl
@[simp] theorem keep_238_1 : MX.keep 238 1 = some [2] := by kernel_rfl
@[simp] theorem fn_239 : MX.fn 239 = some Tryz.f239 := by kernel_rfl
@[simp] theorem eff_239 : MX.eff 239 = none := by kernel_rfl
@[simp] theorem prim_239 : MX.prim 239 = none := by kernel_rfl
@[simp] theorem mode_239 : MX.mode 239 = { } := rfl
@[simp] theorem keep_239_0 : MX.keep 239 0 = some [0] := by kernel_rfl
@[simp] theorem keep_239_1 : MX.keep 239 1 = some [0, 3] := by kernel_rfl
@[simp] theorem keep_239_2 : MX.keep 239 2 = some [3, 9, 10, 11] := by kernel_rfl
@[simp] theorem keep_239_3 : MX.keep 239 3 = some [3, 9, 10, 11, 12] := by kernel_rfl
@[simp] theorem keep_239_4 : MX.keep 239 4 = some [3, 5, 9, 10, 11] := by kernel_rfl
@[simp] theorem keep_239_5 : MX.keep 239 5 = some [3, 9, 10, 11] := by kernel_rfl
@[simp] theorem keep_239_6 : MX.keep 239 6 = some [3, 9, 10, 11] := by kernel_rfl
@[simp] theorem keep_239_7 : MX.keep 239 7 = some [2] := by kernel_rfl
@[simp] theorem fn_252 : MX.fn 252 = some Tryz.f252 := by kernel_rfl
@[simp] theorem eff_252 : MX.eff 252 = none := by kernel_rfl
@[simp] theorem prim_252 : MX.prim 252 = none := by kernel_rfl
@[simp] theorem mode_252 : MX.mode 252 = { fresh := true, keepTop := false } := rfl
@[simp] theorem mut_252 : MX.mutLit 252 = false := by kernel_rfl
@[simp] theorem keep_252_0 : MX.keep 252 0 = some [0, 1] := by kernel_rfl
@[simp] theorem keep_252_1 : MX.keep 252 1 = some [4] := by kernel_rfl
@[simp] theorem fn_253 : MX.fn 253 = some Tryz.f253 := by kernel_rfl
@[simp] theorem eff_253 : MX.eff 253 = none := by kernel_rfl
@[simp] theorem prim_253 : MX.prim 253 = none := by kernel_rfl
@[simp] theorem mode_253 : MX.mode 253 = { fresh := false, keepTop := false } := rfl
@[simp] theorem keep_253_0 : MX.keep 253 0 = some [0, 1] := by kernel_rfl
@[simp] theorem keep_253_1 : MX.keep 253 1 = some [1, 9, 10, 11] := by kernel_rfl
@[simp] theorem keep_253_2 : MX.keep 253 2 = some [1, 9, 10, 11, 12] := by kernel_rfl
@[simp] theorem keep_253_3 : MX.keep 253 3 = some [1, 6, 7, 9, 10, 11] := by kernel_rfl
@[simp] theorem keep_253_4 : MX.keep 253 4 = some [1, 6, 8, 9, 10, 11] := by kernel_rfl
@[simp] theorem keep_253_5 : MX.keep 253 5 = some [1, 6, 8, 9, 10, 11, 21] := by kernel_rfl
@[simp] theorem keep_253_6 : MX.keep 253 6 = some [4, 5] := by kernel_rfl
@[simp] theorem keep_253_7 : MX.keep 253 7 = some [1, 9, 10, 11] := by kernel_rfl
@[simp] theorem keep_253_8 : MX.keep 253 8 = some [4, 5] := by kernel_rfl
@[simp] theorem fn_254 : MX.fn 254 = some Tryz.f254 := by kernel_rfl
@[simp] theorem eff_254 : MX.eff 254 = none := by kernel_rfl
@[simp] theorem prim_254 : MX.prim 254 = none := by kernel_rfl
@[simp] theorem mode_254 : MX.mode 254 = { fresh := false, keepTop := false } := rfl
@[simp] theorem keep_254_0 : MX.keep 254 0 = some [0, 1, 2] := by kernel_rfl
@[simp] theorem keep_254_1 : MX.keep 254 1 = some [5] := by kernel_rfl
@[simp] theorem fn_255 : MX.fn 255 = some Tryz.f255 := by kernel_rfl
@[simp] theorem eff_255 : MX.eff 255 = none := by kernel_rfl
@[simp] theorem prim_255 : MX.prim 255 = none := by kernel_rfl
@[simp] theorem mode_255 : MX.mode 255 = { fresh := false, keepTop := false } := rfl
@[simp] theorem keep_255_0 : MX.keep 255 0 = some [0, 1] := by kernel_rfl
@[simp] theorem keep_255_1 : MX.keep 255 1 = some [1, 9, 10, 11] := by kernel_rfl
@[simp] theorem keep_255_2 : MX.keep 255 2 = some [1, 9, 10, 11, 12] := by kernel_rfl
@[simp] theorem keep_255_3 : MX.keep 255 3 = some [1, 6, 7, 9, 10, 11] := by kernel_rfl
@[simp] theorem keep_255_4 : MX.keep 255 4 = some [1, 6, 8, 9, 10, 11] := by kernel_rfl
@[simp] theorem keep_255_5 : MX.keep 255 5 = some [1, 6, 8, 9, 10, 11, 21] := by kernel_rfl
@[simp] theorem keep_255_6 : MX.keep 255 6 = some [4, 5] := by kernel_rfl
@[simp] theorem keep_255_7 : MX.keep 255 7 = some [1, 9, 10, 11] := by kernel_rfl
@[simp] theorem keep_255_8 : MX.keep 255 8 = some [4, 5] := by kernel_rfl
@[simp] theorem fn_256 : MX.fn 256 = some Tryz.f256 := by kernel_rfl
@[simp] theorem eff_256 : MX.eff 256 = none := by kernel_rfl
@[simp] theorem prim_256 : MX.prim 256 = none := by kernel_rfl
@[simp] theorem mode_256 : MX.mode 256 = { fresh := false, keepTop := false } := rfl
@[simp] theorem mut_256 : MX.mutLit 256 = false := by kernel_rfl
@[simp] theorem keep_256_0 : MX.keep 256 0 = some [2, 3, 5] := by kernel_rfl
@[simp] theorem keep_256_1 : MX.keep 256 1 = some [2, 3, 5, 7] := by kernel_rfl
@[simp] theorem keep_256_2 : MX.keep 256 2 = some [2, 3, 5, 7, 23] := by kernel_rfl
@[simp] theorem keep_256_3 : MX.keep 256 3 = some [6] := by kernel_rfl
@[simp] theorem keep_256_4 : MX.keep 256 4 = some [3, 5] := by kernel_rfl
@[simp] theorem keep_256_5 : MX.keep 256 5 = some [3, 5, 8] := by kernel_rfl
@[simp] theorem keep_256_6 : MX.keep 256 6 = some [10] := by kernel_rfl
@[simp] theorem keep_256_7 : MX.keep 256 7 = some [6] := by kernel_rfl
@[simp] theorem fn_257 : MX.fn 257 = some Tryz.f257 := by kernel_rfl
@[simp] theorem eff_257 : MX.eff 257 = none := by kernel_rfl
@[simp] theorem prim_257 : MX.prim 257 = none := by kernel_rfl
@[simp] theorem mode_257 : MX.mode 257 = { fresh := false, keepTop := false } := rfl
@[simp] theorem keep_257_0 : MX.keep 257 0 = some [0, 1] := by kernel_rfl
@[simp] theorem keep_257_1 : MX.keep 257 1 = some [1, 9, 10, 11] := by kernel_rfl
@[simp] theorem keep_257_2 : MX.keep 257 2 = some [1, 9, 10, 11, 12] := by kernel_rfl
@[simp] theorem keep_257_3 : MX.keep 257 3 = some [1, 6, 7, 9, 10, 11] := by kernel_rfl
@[simp] theorem keep_257_4 : MX.keep 257 4 = some [1, 6, 8, 9, 10, 11] := by kernel_rfl
@[simp] theorem keep_257_5 : MX.keep 257 5 = some [1, 6, 8, 9, 10, 11, 21] := by kernel_rfl
@[simp] theorem keep_257_6 : MX.keep 257 6 = some [4, 5] := by kernel_rfl
@[simp] theorem keep_257_7 : MX.keep 257 7 = some [1, 9, 10, 11] := by kernel_rfl
@[simp] theorem keep_257_8 : MX.keep 257 8 = some [4, 5] := by kernel_rfl
@[simp] theorem fn_258 : MX.fn 258 = some Tryz.f258 := by kernel_rfl
@[simp] theorem eff_258 : MX.eff 258 = none := by kernel_rfl
@[simp] theorem prim_258 : MX.prim 258 = none := by kernel_rfl
@[simp] theorem mode_258 : MX.mode 258 = { fresh := false, keepTop := false } := rfl
@[simp] theorem mut_258 : MX.mutLit 258 = false := by kernel_rfl
@[simp] theorem keep_258_0 : MX.keep 258 0 = some [2, 3, 5] := by kernel_rfl
@[simp] theorem keep_258_1 : MX.keep 258 1 = some [2, 3, 5, 7] := by kernel_rfl
@[simp] theorem keep_258_2 : MX.keep 258 2 = some [2, 3, 5, 7, 13] := by kernel_rfl
@[simp] theorem keep_258_3 : MX.keep 258 3 = some [6] := by kernel_rfl
@[simp] theorem keep_258_4 : MX.keep 258 4 = some [3, 5] := by kernel_rfl
@[simp] theorem keep_258_5 : MX.keep 258 5 = some [6] := by kernel_rfl
@[simp] theorem fn_259 : MX.fn 259 = some Tryz.f259 := by kernel_rfl
@[simp] theorem eff_259 : MX.eff 259 = none := by kernel_rfl
@[simp] theorem prim_259 : MX.prim 259 = none := by kernel_rfl
@[simp] theorem mode_259 : MX.mode 259 = { fresh := false, keepTop := false } := rfl
@[simp] theorem keep_259_0 : MX.keep 259 0 = some [1, 2, 3, 4, 5] := by kernel_rfl
@[simp] theorem keep_259_1 : MX.keep 259 1 = some [1, 2, 3, 4, 5] := by kernel_rfl
@[simp] theorem keep_259_2 : MX.keep 259 2 = some [1, 3, 4, 5, 17] := by kernel_rfl
@[simp] theorem keep_259_3 : MX.keep 259 3 = some [7] := by kernel_rfl
@[simp] theorem keep_259_4 : MX.keep 259 4 = some [1, 4, 20, 21, 22] := by kernel_rfl
@[simp] theorem keep_259_5 : MX.keep 259 5 = some [1, 4, 20, 21, 22, 23] := by kernel_rfl
@[simp] theorem keep_259_6 : MX.keep 259 6 = some [1, 4, 9, 20, 21, 22] := by kernel_rfl
@[simp] theorem keep_259_7 : MX.keep 259 7 = some [1, 4, 20, 21, 22, 31] := by kernel_rfl
@[simp] theorem keep_259_8 : MX.keep 259 8 = some [7] := by kernel_rfl
@[simp] theorem keep_259_9 : MX.keep 259 9 = some [1, 4, 20, 21, 22] := by kernel_rfl
@[simp] theorem keep_259_10 : MX.keep 259 10 = some [7] := by kernel_rfl
@[simp] theorem fn_260 : MX.fn 260 = some Tryz.f260 := by kernel_rfl
@[simp] theorem eff_260 : MX.eff 260 = none := by kernel_rfl
@[simp] theorem prim_260 : MX.prim 260 = none := by kernel_rfl
@[simp] theorem mode_260 : MX.mode 260 = { fresh := true, keepTop := false } := rfl
@[simp] theorem keep_260_0 : MX.keep 260 0 = some [0, 1] := by kernel_rfl
@[simp] theorem keep_260_1 : MX.keep 260 1 = some [4] := by kernel_rfl
@[simp] theorem fn_261 : MX.fn 261 = some Tryz.f261 := by kernel_rfl
@[simp] theorem eff_261 : MX.eff 261 = none := by kernel_rfl
@[simp] theorem prim_261 : MX.prim 261 = none := by kernel_rfl
@[simp] theorem mode_261 : MX.mode 261 = { fresh := true, keepTop := false } := rfl
@[simp] theorem keep_261_0 : MX.keep 261 0 = some [2, 3, 4] := by kernel_rfl
@[simp] theorem keep_261_1 : MX.keep 261 1 = some [2, 4, 6] := by kernel_rfl
@[simp] theorem keep_261_2 : MX.keep 261 2 = some [2, 4, 6, 12] := by kernel_rfl
@[simp] theorem keep_261_3 : MX.keep 261 3 = some [4, 5] := by kernel_rfl
@[simp] theorem keep_261_4 : MX.keep 261 4 = some [4, 5] := by kernel_rfl
@[simp] theorem fn_262 : MX.fn 262 = some Tryz.f262 := by kernel_rfl
@[simp] theorem eff_262 : MX.eff 262 = none := by kernel_rfl
@[simp] theorem prim_262 : MX.prim 262 = none := by kernel_rfl
@[simp] theorem mode_262 : MX.mode 262 = { fresh := false, keepTop := false } := rfl
@[simp] theorem keep_262_0 : MX.keep 262 0 = some [0, 1] := by kernel_rfl
@[simp] theorem keep_262_1 : MX.keep 262 1 = some [1, 9, 10, 11] := by kernel_rfl
@[simp] theorem keep_262_2 : MX.keep 262 2 = some [1, 9, 10, 11, 12] := by kernel_rfl
@[simp] theorem keep_262_3 : MX.keep 262 3 = some [1, 6, 7, 9, 10, 11] := by kernel_rfl
@[simp] theorem keep_262_4 : MX.keep 262 4 = some [1, 6, 8, 9, 10, 11] := by kernel_rfl
@[simp] theorem keep_262_5 : MX.keep 262 5 = some [1, 6, 8, 9, 10, 11, 21] := by kernel_rfl
@[simp] theorem keep_262_6 : MX.keep 262 6 = some [4, 5] := by kernel_rfl
@[simp] theorem keep_262_7 : MX.keep 262 7 = some [1, 9, 10, 11] := by kernel_rfl
@[simp] theorem keep_262_8 : MX.keep 262 8 = some [4, 5] := by kernel_rfl
@[simp] theorem fn_263 : MX.fn 263 = some Tryz.f263 := by kernel_rfl
@[simp] theorem eff_263 : MX.eff 263 = none := by kernel_rfl
@[simp] theorem prim_263 : MX.prim 263 = none := by kernel_rfl
@[simp] theorem mode_263 : MX.mode 263 = { fresh := false, keepTop := false } := rfl
@[simp] theorem keep_263_0 : MX.keep 263 0 = some [2, 4] := by kernel_rfl
@[simp] theorem keep_263_1 : MX.keep 263 1 = some [5] := by kernel_rfl
@[simp] theorem fn_264 : MX.fn 264 = some Tryz.f264 := by kernel_rfl
@[simp] theorem eff_264 : MX.eff 264 = none := by kernel_rfl
@[simp] theorem prim_264 : MX.prim 264 = none := by kernel_rfl
@[simp] theorem mode_264 : MX.mode 264 = { fresh := true, keepTop := false } := rfl
@[simp] theorem mut_264 : MX.mutLit 264 = false := by kernel_rfl
@[simp] theorem keep_264_0 : MX.keep 264 0 = some [1, 2, 3, 6] := by kernel_rfl
@[simp] theorem keep_264_1 : MX.keep 264 1 = some [1, 2, 3, 6, 7] := by kernel_rfl
@[simp] theorem keep_264_2 : MX.keep 264 2 = some [1, 2, 3, 6, 7, 21] := by kernel_rfl
@[simp] theorem keep_264_3 : MX.keep 264 3 = some [6] := by kernel_rfl
@[simp] theorem keep_264_4 : MX.keep 264 4 = some [1, 2, 3, 6, 8] := by kernel_rfl
@[simp] theorem keep_264_5 : MX.keep 264 5 = some [1, 2, 3, 6, 8] := by kernel_rfl
@[simp] theorem keep_264_6 : MX.keep 264 6 = some [1, 2, 6, 8, 30, 31, 32] := by kernel_rfl
@[simp] theorem keep_264_7 : MX.keep 264 7 = some [1, 2, 6, 8, 30, 31, 32, 33] := by kernel_rfl
@[simp] theorem keep_264_8 : MX.keep 264 8 = some [1, 2, 6, 8, 10, 30, 31, 32] := by kernel_rfl
@[simp] theorem keep_264_9 : MX.keep 264 9 = some [1, 2, 6, 8, 30, 31, 32] := by kernel_rfl
@[simp] theorem keep_264_10 : MX.keep 264 10 = some [1, 2, 6, 8, 30, 31, 32] := by kernel_rfl
@[simp] theorem keep_264_11 : MX.keep 264 11 = some [6] := by kernel_rfl
@[simp] theorem fn_265 : MX.fn 265 = some Tryz.f265 := by kernel_rfl
@[simp] theorem eff_265 : MX.eff 265 = none := by kernel_rfl
@[simp] theorem prim_265 : MX.prim 265 = none := by kernel_rfl
@[simp] theorem mode_265 : MX.mode 265 = { } := rfl
@[simp] theorem keep_265_0 : MX.keep 265 0 = some [1] := by kernel_rfl
@[simp] theorem keep_265_1 : MX.keep 265 1 = some [1, 3] := by kernel_rfl
@[simp] theorem keep_265_2 : MX.keep 265 2 = some [3, 7, 8, 9] := by kernel_rfl
@[simp] theorem keep_265_3 : MX.keep 265 3 = some [3, 7, 8, 9, 10] := by kernel_rfl
@[simp] theorem keep_265_4 : MX.keep 265 4 = some [3, 5, 7, 8, 9] := by kernel_rfl
@[simp] theorem keep_265_5 : MX.keep 265 5 = some [3, 7, 8, 9] := by kernel_rfl
@[simp] theorem keep_265_6 : MX.keep 265 6 = some [3, 7, 8, 9] := by kernel_rfl
@[simp] theorem keep_265_7 : MX.keep 265 7 = some [2] := by kernel_rfl
@[simp] theorem fn_268 : MX.fn 268 = some Tryz.f268 := by kernel_rfl
@[simp] theorem eff_268 : MX.eff 268 = none := by kernel_rfl
@[simp] theorem prim_268 : MX.prim 268 = none := by kernel_rfl
@[simp] theorem mode_268 : MX.mode 268 = { fresh := true, keepTop := false } := rfl
@[simp] theorem keep_268_0 : MX.keep 268 0 = some [0] := by kernel_rfl
@[simp] theorem keep_268_1 : MX.keep 268 1 = some [0, 7, 8, 9] := by kernel_rfl
@[simp] theorem keep_268_2 : MX.keep 268 2 = some [0, 7, 8, 9, 10] := by kernel_rfl
@[simp] theorem keep_268_3 : MX.keep 268 3 = some [0, 3, 4, 7, 8, 9] := by kernel_rfl
@[simp] theorem keep_268_4 : MX.keep 268 4 = some [0, 3, 4, 5, 7, 8, 9] := by kernel_rfl
@[simp] theorem keep_268_5 : MX.keep 268 5 = some [0, 7, 8, 9, 45] := by kernel_rfl
@[simp] theorem keep_268_6 : MX.keep 268 6 = some [2] := by kernel_rfl
@[simp] theorem keep_268_7 : MX.keep 268 7 = some [0, 7, 8, 9] := by kernel_rfl
@[simp] theorem keep_268_8 : MX.keep 268 8 = some [2] := by kernel_rfl
@[simp] theorem fn_269 : MX.fn 269 = some Tryz.f269 := by kernel_rfl
@[simp] theorem eff_269 : MX.eff 269 = none := by kernel_rfl
@[simp] theorem prim_269 : MX.prim 269 = none := by kernel_rfl
@[simp] theorem mode_269 : MX.mode 269 = { fresh := true, keepTop := false } := rfl
@[simp] theorem keep_269_0 : MX.keep 269 0 = some [0, 1] := by kernel_rfl
@[simp] theorem keep_269_1 : MX.keep 269 1 = some [0, 1, 7, 8] := by kernel_rfl
@[simp] theorem keep_269_2 : MX.keep 269 2 = some [0, 1, 7, 8, 9] := by kernel_rfl
@[simp] theorem keep_269_3 : MX.keep 269 3 = some [0, 1, 5, 7, 8] := by kernel_rfl
@[simp] theorem keep_269_4 : MX.keep 269 4 = some [0, 1, 5, 7, 8, 16] := by kernel_rfl
@[simp] theorem keep_269_5 : MX.keep 269 5 = some [4] := by kernel_rfl
@[simp] theorem keep_269_6 : MX.keep 269 6 = some [0, 1, 7, 8] := by kernel_rfl
@[simp] theorem keep_269_7 : MX.keep 269 7 = some [4] := by kernel_rfl
@[simp] theorem fn_270 : MX.fn 270 = some Tryz.f270 := by kernel_rfl
@[simp] theorem eff_270 : MX.eff 270 = none := by kernel_rfl
@[simp] theorem prim_270 : MX.prim 270 = none := by kernel_rfl
@[simp] theorem mode_270 : MX.mode 270 = { fresh := false, keepTop := false } := rfl
@[simp] theorem keep_270_0 : MX.keep 270 0 = some [1, 2] := by kernel_rfl
@[simp] theorem keep_270_1 : MX.keep 270 1 = some [3] := by kernel_rfl
theorem bef_5_5 : befOf (opsF Tryz.f5 5) = [[], [0], [0, 1], [], [3], [], [], [6], [0, 1, 2, 5, 6, 7], [0, 1, 2, 3, 4, 5, 6, 7, 8], [0, 1, 2, 3, 4, 5, 6, 7, 8, 9], [0, 1, 2, 3, 4, 5, 6, 7, 8, 9, 10], [0, 1, 2, 3, 4, 5, 6, 7, 8, 9, 10], [0, 1, 2, 3, 4, 5, 6, 7, 8, 9, 10, 11], [0, 1, 2, 3, 4, 5, 6, 7, 8, 9, 10, 11, 12, 13]] := by kernel_rfl
theorem bef_5_11 : befOf (opsF Tryz.f5 11) = [[], [0], [0, 1], [], [3], [], [5], [5, 6], [5, 6, 7], [0, 1, 2, 3, 4, 5, 6, 7, 8], [0, 1, 2, 3, 4, 5, 6, 7, 8, 9]] := by kernel_rfl
theorem bef_5_14 : befOf (opsF Tryz.f5 14) = [[], [0], [], [2], [], [4], [4, 5], [4, 5, 6], [0, 1, 2, 3, 4, 5, 6, 7], [0, 1, 2, 3, 4, 5, 6, 7, 8]] := by kernel_rfl
theorem bef_31_5 : befOf (opsF Tryz.f31 5) = [[], [], [0, 1], [0, 1, 2], [0, 1, 2, 3], [], [], [5, 6], [5, 6, 7], [5, 6, 7, 8], [5, 6, 7, 8, 9], [0, 1, 2, 3, 4, 5, 6, 7, 8, 9, 10], [], [0, 1, 2, 3, 4, 5, 6, 7, 8, 9, 10, 11, 12]] := by kernel_rfl
theorem bef_31_10 : befOf (opsF Tryz.f31 10) = [[], [0], [], [2], [], [4], [4, 5], [2, 3, 4, 5, 6], [2, 3, 4, 5, 6, 7], [0, 1, 2, 3, 4, 5, 6, 7, 8], [0, 1, 2, 3, 4, 5, 6, 7, 8, 9], [0, 1, 2, 3, 4, 5, 6, 7, 8, 9, 10]] := by kernel_rfl
theorem bef_32_11 : befOf (opsF Tryz.f32 11) = [[], [0], [], [2], [], [4], [], [4, 5, 6], [4, 5, 6, 7], [0, 1, 2, 3, 4, 5, 6, 7, 8], [0, 1, 2, 3, 4, 5, 6, 7, 8, 9]] := by kernel_rfl
theorem bef_35_10 : befOf (opsF Tryz.f35 10) = [[], [], [0, 1], [], [], [3, 4], [3, 4, 5], [0, 1, 2, 3, 4, 5, 6]] := by kernel_rfl
theorem bef_68_13 : befOf (opsF Tryz.f68 13) = [[], [0], [], [2], [], [4], [], [6], [], [8], [4, 5, 6, 7, 8, 9], [2, 3, 4, 5, 6, 7, 8, 9, 10], [2, 3, 4, 5, 6, 7, 8, 9, 10, 11], [0, 1, 2, 3, 4, 5, 6, 7, 8, 9, 10, 11, 12], [0, 1, 2, 3, 4, 5, 6, 7, 8, 9, 10, 11, 12, 13], [0, 1, 2, 3, 4, 5, 6, 7, 8, 9, 10, 11, 12, 13, 14]] := by kernel_rfl
theorem bef_81_5 : befOf (opsF Tryz.f81 5) = [[], [], [], [1, 2], [1, 2, 3], [1, 2, 3, 4], [], [], [6, 7], [6, 7, 8], [6, 7, 8, 9], [6, 7, 8, 9, 10], [1, 2, 3, 4, 5, 6, 7, 8, 9, 10, 11], [1, 2, 3, 4, 5, 6, 7, 8, 9, 10, 11, 12], [0, 1, 2, 3, 4, 5, 6, 7, 8, 9, 10, 11, 12, 13], [0, 1, 2, 3, 4, 5, 6, 7, 8, 9, 10, 11, 12, 13, 14]] := by kernel_rfl
theorem bef_87_16 : befOf (opsF Tryz.f87 16) = [[], [0], [], [2], [2, 3], [2, 3, 4], [2, 3, 4, 5], [0, 1, 2, 3, 4, 5, 6], [0, 1, 2, 3, 4, 5, 6, 7]] := by kernel_rfl
theorem bef_119_5 : befOf (opsF Tryz.f119 5) = [[], [], [0, 1], [0, 1, 2], [], [4], [0, 1, 2, 3, 4, 5]] := by kernel_rfl
theorem bef_119_12 : befOf (opsF Tryz.f119 12) = [[], [0], [], [2], [], [2, 3, 4], [2, 3, 4, 5], [], [], [2, 3, 4, 5, 6, 7, 8], [2, 3, 4, 5, 6, 7, 8, 9], [0, 1, 2, 3, 4, 5, 6, 7, 8, 9, 10], [0, 1, 2, 3, 4, 5, 6, 7, 8, 9, 10, 11], [0, 1, 2, 3, 4, 5, 6, 7, 8, 9, 10, 11, 12]] := by kernel_rfl
theorem bef_142_6 : befOf (opsF Tryz.f142 6) = [[], [0], [], [2], [], [2, 3, 4], [2, 3, 4, 5], [2, 3, 4, 5, 6], [2, 3, 4, 5, 6, 7], [0, 1, 2, 3, 4, 5, 6, 7, 8], [0, 1, 2, 3, 4, 5, 6, 7, 8, 9], [0, 1, 2, 3, 4, 5, 6, 7, 8, 9, 10]] := by kernel_rfl
theorem bef_144_5 : befOf (opsF Tryz.f144 5) = [[], [0], [0, 1], [0, 1, 2], [], [0, 1, 2, 3, 4], [0, 1, 2, 3, 4, 5], [0, 1, 2, 3, 4, 5, 6], [0, 1, 2, 3, 4, 5, 6, 7]] := by kernel_rfl
theorem bef_144_13 : befOf (opsF Tryz.f144 13) = [[], [], [], [2], [], [2, 3, 4], [2, 3, 4, 5], [], [0, 1, 2, 3, 4, 5, 6, 7]] := by kernel_rfl
theorem bef_144_23 : befOf (opsF Tryz.f144 23) = [[], [0], [], [], [3], [], [2, 3, 4, 5], [2, 3, 4, 5, 6], [0, 1, 2, 3, 4, 5, 6, 7], [0, 1, 2, 3, 4, 5, 6, 7, 8], [0, 1, 2, 3, 4, 5, 6, 7, 8, 9]] := by kernel_rfl
theorem bef_144_25 : befOf (opsF Tryz.f144 25) = [[], [], [1], [1, 2], [1, 2, 3], [], [5], [1, 2, 3, 4, 5, 6], [0, 1, 2, 3, 4, 5, 6, 7], [0, 1, 2, 3, 4, 5, 6, 7, 8], [0, 1, 2, 3, 4, 5, 6, 7, 8, 9]] := by kernel_rfl
theorem bef_147_8 : befOf (opsF Tryz.f147 8) = [[], [0], [0, 1], [], [], [0, 1, 2, 4], [0, 1, 2, 4, 5], [0, 1, 2, 4, 5, 6], [0, 1, 2, 4, 5, 6, 7], [0, 1, 2, 4, 5, 6, 7, 8], [0, 1, 2, 4, 5, 6, 7], [0, 1, 2, 4, 5, 6, 7, 10], [0, 1, 2, 4, 5, 6, 7, 10, 11], [0, 1, 2, 4, 5, 6, 7, 10, 11, 12], [0, 1, 2, 4, 5, 6, 7, 10, 11, 12, 13], [0, 1, 2, 4, 5, 6, 7, 10, 11, 12, 13, 14], [0, 1, 2, 4, 5, 6, 7, 8, 9, 10, 11, 12, 13, 14, 15], [0, 1, 2, 4, 5, 6, 7, 8, 9, 10, 11, 12, 13, 14, 15, 16], [0, 1, 2, 4, 5, 6, 7, 8, 9, 10, 11, 12, 13, 14, 15, 16, 17], [0, 1, 2, 3, 4, 5, 6, 7, 8, 9, 10, 11, 12, 13, 14, 15, 16, 17, 18], [0, 1, 2, 3, 4, 5, 6, 7, 8, 9, 10, 11, 12, 13, 14, 15, 16, 17, 18, 19], [0, 1, 2, 3, 4, 5, 6, 7, 8, 9, 10, 11, 12, 13, 14, 15, 16, 17, 18, 19, 20]] := by kernel_rfl
theorem bef_147_13 : befOf (opsF Tryz.f147 13) = [[], [0], [0, 1], [], [3], [3, 4], [3, 4, 5], [], [3, 4, 5, 6, 7], [3, 4, 5, 6, 7, 8], [3, 4, 5, 6, 7, 8, 9], [3, 4, 5, 6, 7, 8, 9, 10], [0, 1, 2, 3, 4, 5, 6, 7, 8, 9, 10, 11]] := by kernel_rfl
theorem bef_147_18 : befOf (opsF Tryz.f147 18) = [[], [0], [0, 1], [0, 1, 2], [], [0, 1, 2, 3, 4], [0, 1, 2, 3, 4, 5], [0, 1, 2, 3, 4, 5, 6], [], [0, 1, 2, 3, 4, 5, 6, 7, 8], [0, 1, 2, 3, 4, 5, 6, 7, 8, 9], [], [0, 1, 2, 3, 4, 5, 6, 7, 8, 9, 10, 11], [0, 1, 2, 3, 4, 5, 6, 7, 8, 9, 10, 11, 12]] := by kernel_rfl
theorem bef_154_23 : befOf (opsF Tryz.f154 23) = [[], [], [], [1, 2], [1, 2, 3], [1, 2, 3, 4], [], [1, 2, 3, 4, 5, 6], [1, 2, 3, 4, 5, 6, 7], [1, 2, 3, 4, 5, 6, 7, 8], [], [10], [], [12], [12, 13], [10, 11, 12, 13, 14], [0, 1, 2, 3, 4, 5, 6, 7, 8, 9, 10, 11, 12, 13, 14, 15], [], [0, 1, 2, 3, 4, 5, 6, 7, 8, 9, 10, 11, 12, 13, 14, 15, 16, 17]] := by kernel_rfl
theorem bef_154_24 : befOf (opsF Tryz.f154 24) = [[], [0], [], [2], [0, 1], [0, 1, 4], [0, 1, 2, 3, 4, 5], [0, 1, 2, 3, 4, 5, 6]] := by kernel_rfl
theorem bef_158_7 : befOf (opsF Tryz.f158 7) = [[], [0], [0, 1], [], [], [3, 4], [3, 4, 5], [3, 4, 5, 6], [3, 4, 5, 6, 7], [0, 1, 2, 3, 4, 5, 6, 7, 8]] := by kernel_rfl
theorem bef_158_12 : befOf (opsF Tryz.f158 12) = [[], [], [], [1, 2], [1, 2, 3], [1, 2, 3, 4], [], [1, 2, 3, 4, 5, 6], [1, 2, 3, 4, 5, 6, 7], [1, 2, 3, 4, 5, 6, 7, 8], [], [10], [], [10, 11, 12], [10, 11, 12, 13], [0, 1, 2, 3, 4, 5, 6, 7, 8, 9, 10, 11, 12, 13, 14], [0, 1, 2, 3, 4, 5, 6, 7, 8, 9, 10, 11, 12, 13, 14, 15]] := by kernel_rfl
theorem bef_174_4 : befOf (opsF Tryz.f174 4) = [[], [], [], [0, 2], [0, 1, 2, 3]] := by kernel_rfl
theorem bef_174_7 : befOf (opsF Tryz.f174 7) = [[], [], [], [0, 2], [0, 1, 2, 3]] := by kernel_rfl
theorem bef_174_12 : befOf (opsF Tryz.f174 12) = [[], [], [], [0], [0, 1, 3], [0, 1, 2, 3, 4]] := by kernel_rfl
theorem bef_178_1 : befOf (opsF Tryz.f178 1) = [[], [], [1], [], [1, 2, 3], [1, 2, 3, 4], [], [0, 1, 2, 3, 4, 5, 6], [0, 1, 2, 3, 4, 5, 6, 7]] := by kernel_rfl
theorem bef_195_10 : befOf (opsF Tryz.f195 10) = [[], [0], [0, 1], [0, 1, 2], [], [4], [4, 5], [4, 5, 6], [], [8], [4, 5, 6, 7, 8, 9], [4, 5, 6, 7, 8, 9, 10], [], [4, 5, 6, 7, 8, 9, 10, 11, 12], [4, 5, 6, 7, 8, 9, 10, 11, 12, 13], [0, 1, 2, 3, 4, 5, 6, 7, 8, 9, 10, 11, 12, 13, 14], [0, 1, 2, 3, 4, 5, 6, 7, 8, 9, 10, 11, 12, 13, 14, 15]] := by kernel_rfl
theorem bef_231_1 : befOf (opsF Tryz.f231 1) = [[], [], [0, 1], [0, 1, 2], [], [], [5], [], [5, 6, 7], [0, 1, 2, 3, 4, 5, 6, 7, 8], [0, 1, 2, 3, 4, 5, 6, 7, 8, 9]] := by kernel_rfl
theorem bef_232_1 : befOf (opsF Tryz.f232 1) = [[], [0], [], [], [2, 3], [0, 1, 2, 3, 4], [], [6], [6, 7], [6, 7, 8], [0, 1, 2, 3, 4, 5, 6, 7, 8, 9], [0, 1, 2, 3, 4, 5, 6, 7, 8, 9, 10], [0, 1, 2, 3, 4, 5, 6, 7, 8, 9, 10, 11], [0, 1, 2, 3, 4, 5, 6, 7, 8, 9, 10, 11, 12], [0, 1, 2, 3, 4, 5, 6, 7, 8, 9, 10, 11, 12, 13], [0, 1, 2, 3, 4, 5, 6, 7, 8, 9, 10, 11, 12, 13, 14], [0, 1, 2, 3, 4, 5, 6, 7, 8, 9, 10, 11, 12, 13, 14, 15], [], [17], [17, 18], [17, 18, 19], [0, 1, 2, 3, 4, 5, 6, 7, 8, 9, 10, 11, 12, 13, 14, 15, 16, 17, 18, 19, 20], [0, 1, 2, 3, 4, 5, 6, 7, 8, 9, 10, 11, 12, 13, 14, 15, 16, 17, 18, 19, 20, 21], [0, 1, 2, 3, 4, 5, 6, 7, 8, 9, 10, 11, 12, 13, 14, 15, 16, 17, 18, 19, 20, 21, 22], [0, 1, 2, 3, 4, 5, 6, 7, 8, 9, 10, 11, 12, 13, 14, 15, 16, 17, 18, 19, 20, 21, 22, 23]] := by kernel_rfl
theorem bef_237_12 : befOf (opsF Tryz.f237 12) = [[], [0], [], [2], [], [4], [], [6], [], [8], [4, 5, 6, 7, 8, 9], [2, 3, 4, 5, 6, 7, 8, 9, 10], [2, 3, 4, 5, 6, 7, 8, 9, 10, 11], [0, 1, 2, 3, 4, 5, 6, 7, 8, 9, 10, 11, 12], [0, 1, 2, 3, 4, 5, 6, 7, 8, 9, 10, 11, 12, 13], [0, 1, 2, 3, 4, 5, 6, 7, 8, 9, 10, 11, 12, 13, 14]] := by kernel_rfl
theorem bef_256_1 : befOf (opsF Tryz.f256 1) = [[], [0], [], [0, 1, 2], [], [4], [4, 5], [4, 5, 6], [0, 1, 2, 3, 4, 5, 6, 7], [0, 1, 2, 3, 4, 5, 6, 7, 8], [0, 1, 2, 3, 4, 5, 6, 7, 8, 9], [0, 1, 2, 3, 4, 5, 6, 7, 8, 9, 10]] := by kernel_rfl
theorem bef_264_9 : befOf (opsF Tryz.f264 9) = [[], [0], [], [], [], [2, 3, 4], [2, 3, 4, 5], [0, 1, 2, 3, 4, 5, 6], [0, 1, 2, 3, 4, 5, 6, 7], [0, 1, 2, 3, 4, 5, 6, 7, 8]] := by kernel_rfl
@[simp] theorem al_100 : zeroC MX.ty 100 = some [.nils] := by kernel_rfl
@[simp] theorem al_103 : zeroC MX.ty 103 = some [(.str []), .nils, .nils] := by kernel_rfl
@[simp] theorem al_106 : zeroC MX.ty 106 = some [(.str []), .nils] := by kernel_rfl
@[simp] theorem al_109 : zeroC MX.ty 109 = some [(.str []), (.int .i64 (0)), (.int .i64 (0)), (.str []), .nils] := by kernel_rfl
@[simp] theorem al_162 : zeroC MX.ty 162 = some [(.str []), .nils] := by kernel_rfl
@[simp] theorem al_196 : zeroC MX.ty 196 = some [(.int .i64 (0)), (.int .i64 (0)), (.int .i64 (0))] := by kernel_rfl
@[simp] theorem al_221 : zeroC MX.ty 221 = some [.nils, .nils] := by kernel_rfl
@[simp] theorem al_231 : zeroC MX.ty 231 = some [(.int .i64 (0)), (.int .i64 (0)), (.str []), .nils, (.int .i64 (0))] := by kernel_rfl
@[simp] theorem al_25 : zeroC MX.ty 25 = some [(.int .i64 (0)), (.int .i64 (0)), (.str []), .nils] := by kernel_rfl
@[simp] theorem al_270 : zeroC MX.ty 270 = some [(.str []), .nils, .nils] := by kernel_rfl
@[simp] theorem al_3 : zeroC MX.ty 3 = some [(.int .i64 (0))] := by kernel_rfl
@[simp] theorem al_301 : zeroC MX.ty 301 = some [.nilf] := by kernel_rfl
@[simp] theorem al_62 : zeroC MX.ty 62 = some [(.int .i64 (0)), (.int .i64 (0)), (.str []), .nils] := by kernel_rfl
@[simp] theorem ap_100_100 : ∀ s x h, builtinA MX.ty .append [100, 100] [s, x] h = OR.ofVH (apA 1 16 s x h) := fun s x h => by cases x <;> kernel_rfl
@[simp] theorem ap_101_101 : ∀ s x h, builtinA MX.ty .append [101, 101] [s, x] h = OR.ofVH (apA 2 40 s x h) := fun s x h => by cases x <;> kernel_rfl
@[simp] theorem ap_104_104 : ∀ s x h, builtinA MX.ty .append [104, 104] [s, x] h = OR.ofVH (apA 5 72 s x h) := fun s x h => by cases x <;> kernel_rfl
@[simp] theorem ap_157_157 : ∀ s x h, builtinA MX.ty .append [157, 157] [s, x] h = OR.ofVH (apA 2 40 s x h) := fun s x h => by cases x <;> kernel_rfl
@[simp] theorem ap_160_160 : ∀ s x h, builtinA MX.ty .append [160, 160] [s, x] h = OR.ofVH (apA 1 8 s x h) := fun s x h => by cases x <;> kernel_rfl
@[simp] theorem ap_22_22 : ∀ s x h, builtinA MX.ty .append [22, 22] [s, x] h = OR.ofVH (apA 3 64 s x h) := fun s x h => by cases x <;> kernel_rfl
@[simp] theorem ap_23_23 : ∀ s x h, builtinA MX.ty .append [23, 23] [s, x] h = OR.ofVH (apA 4 56 s x h) := fun s x h => by cases x <;> kernel_rfl
@[simp] theorem ap_232_232 : ∀ s x h, builtinA MX.ty .append [232, 232] [s, x] h = OR.ofVH (apA 5 64 s x h) := fun s x h => by cases x <;> kernel_rfl
@[simp] theorem ap_26_26 : ∀ s x h, builtinA MX.ty .append [26, 26] [s, x] h = OR.ofVH (apA 4 56 s x h) := fun s x h => by cases x <;> kernel_rfl
@[simp] theorem ap_265_265 : ∀ s x h, builtinA MX.ty .append [265, 265] [s, x] h = OR.ofVH (apA 3 64 s x h) := fun s x h => by cases x <;> kernel_rfl
@[simp] theorem ap_268_268 : ∀ s x h, builtinA MX.ty .append [268, 268] [s, x] h = OR.ofVH (apA 1 8 s x h) := fun s x h => by cases x <;> kernel_rfl
@[simp] theorem bd_103_ : buildA MX.ty 103 [] = (fillC [(.str []), .nils, .nils] []).map .agg := bd_of [] [] (by kernel_rfl) (by kernel_rfl) (by kernel_rfl)
@[simp] theorem bd_103_0_1 : ∀ v0 v1, buildA MX.ty 103 [(0, v0), (1, v1)] = (fillC [(.str []), .nils, .nils] [(0, 1, v0), (1, 1, v1)]).map .agg := fun v0 v1 => bd_of [(0, 0, 1), (1, 1, 1)] [v0, v1] (by kernel_rfl) (by kernel_rfl) (by kernel_rfl)
@[simp] theorem bd_103_2 : ∀ v2, buildA MX.ty 103 [(2, v2)] = (fillC [(.str []), .nils, .nils] [(2, 1, v2)]).map .agg := fun v2 => bd_of [(2, 2, 1)] [v2] (by kernel_rfl) (by kernel_rfl) (by kernel_rfl)
@[simp] theorem bd_106_0_1 : ∀ v0 v1, buildA MX.ty 106 [(0, v0), (1, v1)] = (fillC [(.str []), .nils] [(0, 1, v0), (1, 1, v1)]).map .agg := fun v0 v1 => bd_of [(0, 0, 1), (1, 1, 1)] [v0, v1] (by kernel_rfl) (by kernel_rfl) (by kernel_rfl)
@[simp] theorem bd_106_0 : ∀ v0, buildA MX.ty 106 [(0, v0)] = (fillC [(.str []), .nils] [(0, 1, v0)]).map .agg := fun v0 => bd_of [(0, 0, 1)] [v0] (by kernel_rfl) (by kernel_rfl) (by kernel_rfl)
@[simp] theorem bd_109_0_1 : ∀ v0 v1, buildA MX.ty 109 [(0, v0), (1, v1)] = (fillC [(.str []), (.int .i64 (0)), (.int .i64 (0)), (.str []), .nils] [(0, 1, v0), (1, 4, v1)]).map .agg := fun v0 v1 => bd_of [(0, 0, 1), (1, 1, 4)] [v0, v1] (by kernel_rfl) (by kernel_rfl) (by kernel_rfl)
@[simp] theorem bd_159_ : buildA MX.ty 159 [] = (fillC [(.int .i64 (0)), .nils] []).map .agg := bd_of [] [] (by kernel_rfl) (by kernel_rfl) (by kernel_rfl)
@[simp] theorem bd_159_0 : ∀ v0, buildA MX.ty 159 [(0, v0)] = (fillC [(.int .i64 (0)), .nils] [(0, 1, v0)]).map .agg := fun v0 => bd_of [(0, 0, 1)] [v0] (by kernel_rfl) (by kernel_rfl) (by kernel_rfl)
@[simp] theorem bd_159_1 : ∀ v1, buildA MX.ty 159 [(1, v1)] = (fillC [(.int .i64 (0)), .nils] [(1, 1, v1)]).map .agg := fun v1 => bd_of [(1, 1, 1)] [v1] (by kernel_rfl) (by kernel_rfl) (by kernel_rfl)
@[simp] theorem bd_162_0 : ∀ v0, buildA MX.ty 162 [(0, v0)] = (fillC [(.str []), .nils] [(0, 1, v0)]).map .agg := fun v0 => bd_of [(0, 0, 1)] [v0] (by kernel_rfl) (by kernel_rfl) (by kernel_rfl)
@[simp] theorem bd_196_ : buildA MX.ty 196 [] = (fillC [(.int .i64 (0)), (.int .i64 (0)), (.int .i64 (0))] []).map .agg := bd_of [] [] (by kernel_rfl) (by kernel_rfl) (by kernel_rfl)
@[simp] theorem bd_196_0_2 : ∀ v0 v2, buildA MX.ty 196 [(0, v0), (2, v2)] = (fillC [(.int .i64 (0)), (.int .i64 (0)), (.int .i64 (0))] [(0, 1, v0), (2, 1, v2)]).map .agg := fun v0 v2 => bd_of [(0, 0, 1), (2, 2, 1)] [v0, v2] (by kernel_rfl) (by kernel_rfl) (by kernel_rfl)
@[simp] theorem bd_221_0 : ∀ v0, buildA MX.ty 221 [(0, v0)] = (fillC [.nils, .nils] [(0, 1, v0)]).map .agg := fun v0 => bd_of [(0, 0, 1)] [v0] (by kernel_rfl) (by kernel_rfl) (by kernel_rfl)
@[simp] theorem bd_231_0_1 : ∀ v0 v1, buildA MX.ty 231 [(0, v0), (1, v1)] = (fillC [(.int .i64 (0)), (.int .i64 (0)), (.str []), .nils, (.int .i64 (0))] [(0, 4, v0), (4, 1, v1)]).map .agg := fun v0 v1 => bd_of [(0, 0, 4), (1, 4, 1)] [v0, v1] (by kernel_rfl) (by kernel_rfl) (by kernel_rfl)
@[simp] theorem bd_267_0 : ∀ v0, buildA MX.ty 267 [(0, v0)] = (fillC [(.int .i64 (0)), .nils] [(0, 1, v0)]).map .agg := fun v0 => bd_of [(0, 0, 1)] [v0] (by kernel_rfl) (by kernel_rfl) (by kernel_rfl)
@[simp] theorem bd_267_1 : ∀ v1, buildA MX.ty 267 [(1, v1)] = (fillC [(.int .i64 (0)), .nils] [(1, 1, v1)]).map .agg := fun v1 => bd_of [(1, 1, 1)] [v1] (by kernel_rfl) (by kernel_rfl) (by kernel_rfl)
@[simp] theorem bd_270_0 : ∀ v0, buildA MX.ty 270 [(0, v0)] = (fillC [(.str []), .nils, .nils] [(0, 1, v0)]).map .agg := fun v0 => bd_of [(0, 0, 1)] [v0] (by kernel_rfl) (by kernel_rfl) (by kernel_rfl)
@[simp] theorem bs_100_0 : ∀ ml ps h, buildSliceA MX.ty ml 100 0 ps h = bsA 1 [(.str [])] ml 0 ps h := fun _ _ _ => by kernel_rfl
@[simp] theorem bs_100_1 : ∀ ml ps h, buildSliceA MX.ty ml 100 1 ps h = bsA 1 [(.str [])] ml 1 ps h := fun _ _ _ => by kernel_rfl
@[simp] theorem bs_100_2 : ∀ ml ps h, buildSliceA MX.ty ml 100 2 ps h = bsA 1 [(.str [])] ml 2 ps h := fun _ _ _ => by kernel_rfl
@[simp] theorem bs_100_3 : ∀ ml ps h, buildSliceA MX.ty ml 100 3 ps h = bsA 1 [(.str [])] ml 3 ps h := fun _ _ _ => by kernel_rfl
@[simp] theorem bs_101_1 : ∀ ml ps h, buildSliceA MX.ty ml 101 1 ps h = bsA 2 [(.str []), .nils] ml 1 ps h := fun _ _ _ => by kernel_rfl
@[simp] theorem bs_101_2 : ∀ ml ps h, buildSliceA MX.ty ml 101 2 ps h = bsA 2 [(.str []), .nils] ml 2 ps h := fun _ _ _ => by kernel_rfl
@[simp] theorem bs_104_1 : ∀ ml ps h, buildSliceA MX.ty ml 104 1 ps h = bsA 5 [(.str []), (.int .i64 (0)), (.int .i64 (0)), (.str []), .nils] ml 1 ps h := fun _ _ _ => by kernel_rfl
@[simp] theorem bs_157_1 : ∀ ml ps h, buildSliceA MX.ty ml 157 1 ps h = bsA 2 [(.str []), .nils] ml 1 ps h := fun _ _ _ => by kernel_rfl
@[simp] theorem bs_157_2 : ∀ ml ps h, buildSliceA MX.ty ml 157 2 ps h = bsA 2 [(.str []), .nils] ml 2 ps h := fun _ _ _ => by kernel_rfl
@[simp] theorem bs_160_1 : ∀ ml ps h, buildSliceA MX.ty ml 160 1 ps h = bsA 1 [.nilp] ml 1 ps h := fun _ _ _ => by kernel_rfl
@[simp] theorem bs_204_2 : ∀ ml ps h, buildSliceA MX.ty ml 204 2 ps h = bsA 1 [(.int .i64 (0))] ml 2 ps h := fun _ _ _ => by kernel_rfl
@[simp] theorem bs_204_3 : ∀ ml ps h, buildSliceA MX.ty ml 204 3 ps h = bsA 1 [(.int .i64 (0))] ml 3 ps h := fun _ _ _ => by kernel_rfl
@[simp] theorem bs_22_1 : ∀ ml ps h, buildSliceA MX.ty ml 22 1 ps h = bsA 3 [(.str []), .nils, .nils] ml 1 ps h := fun _ _ _ => by kernel_rfl
@[simp] theorem bs_23_1 : ∀ ml ps h, buildSliceA MX.ty ml 23 1 ps h = bsA 4 [(.int .i64 (0)), (.int .i64 (0)), (.str []), .nils] ml 1 ps h := fun _ _ _ => by kernel_rfl
@[simp] theorem bs_232_1 : ∀ ml ps h, buildSliceA MX.ty ml 232 1 ps h = bsA 5 [(.int .i64 (0)), (.int .i64 (0)), (.str []), .nils, (.int .i64 (0))] ml 1 ps h := fun _ _ _ => by kernel_rfl
@[simp] theorem bs_26_0 : ∀ ml ps h, buildSliceA MX.ty ml 26 0 ps h = bsA 4 [(.int .i64 (0)), (.int .i64 (0)), (.str []), .nils] ml 0 ps h := fun _ _ _ => by kernel_rfl
@[simp] theorem bs_265_1 : ∀ ml ps h, buildSliceA MX.ty ml 265 1 ps h = bsA 3 [(.str []), .nils, .nils] ml 1 ps h := fun _ _ _ => by kernel_rfl
@[simp] theorem bs_265_2 : ∀ ml ps h, buildSliceA MX.ty ml 265 2 ps h = bsA 3 [(.str []), .nils, .nils] ml 2 ps h := fun _ _ _ => by kernel_rfl
@[simp] theorem bs_268_1 : ∀ ml ps h, buildSliceA MX.ty ml 268 1 ps h = bsA 1 [.nilp] ml 1 ps h := fun _ _ _ => by kernel_rfl
@[simp] theorem cv_3_236 : ∀ x h, convertA MX.ty 3 236 x h = cvI .u64 x h := fun x h => by cases x <;> kernel_rfl
@[simp] theorem cv_9_247 : ∀ x h, convertA MX.ty 9 247 x h = cvB x h := fun x h => by cases x <;> kernel_rfl
@[simp] theorem fa_103_0 : ∀ p, fieldAddrA MX.ty 103 p 0 = faA 0 p := fun p => by cases p <;> kernel_rfl
@[simp] theorem fa_103_1 : ∀ p, fieldAddrA MX.ty 103 p 1 = faA 1 p := fun p => by cases p <;> kernel_rfl
@[simp] theorem fa_103_2 : ∀ p, fieldAddrA MX.ty 103 p 2 = faA 2 p := fun p => by cases p <;> kernel_rfl
@[simp] theorem fa_106_0 : ∀ p, fieldAddrA MX.ty 106 p 0 = faA 0 p := fun p => by cases p <;> kernel_rfl
@[simp] theorem fa_106_1 : ∀ p, fieldAddrA MX.ty 106 p 1 = faA 1 p := fun p => by cases p <;> kernel_rfl
@[simp] theorem fa_109_0 : ∀ p, fieldAddrA MX.ty 109 p 0 = faA 0 p := fun p => by cases p <;> kernel_rfl
@[simp] theorem fa_109_1 : ∀ p, fieldAddrA MX.ty 109 p 1 = faA 1 p := fun p => by cases p <;> kernel_rfl
@[simp] theorem fa_159_0 : ∀ p, fieldAddrA MX.ty 159 p 0 = faA 0 p := fun p => by cases p <;> kernel_rfl
@[simp] theorem fa_159_1 : ∀ p, fieldAddrA MX.ty 159 p 1 = faA 1 p := fun p => by cases p <;> kernel_rfl
@[simp] theorem fa_162_0 : ∀ p, fieldAddrA MX.ty 162 p 0 = faA 0 p := fun p => by cases p <;> kernel_rfl
@[simp] theorem fa_162_1 : ∀ p, fieldAddrA MX.ty 162 p 1 = faA 1 p := fun p => by cases p <;> kernel_rfl
@[simp] theorem fa_196_0 : ∀ p, fieldAddrA MX.ty 196 p 0 = faA 0 p := fun p => by cases p <;> kernel_rfl
@[simp] theorem fa_196_1 : ∀ p, fieldAddrA MX.ty 196 p 1 = faA 1 p := fun p => by cases p <;> kernel_rfl
@[simp] theorem fa_196_2 : ∀ p, fieldAddrA MX.ty 196 p 2 = faA 2 p := fun p => by cases p <;> kernel_rfl
@[simp] theorem fa_221_0 : ∀ p, fieldAddrA MX.ty 221 p 0 = faA 0 p := fun p => by cases p <;> kernel_rfl
@[simp] theorem fa_221_1 : ∀ p, fieldAddrA MX.ty 221 p 1 = faA 1 p := fun p => by cases p <;> kernel_rfl
@[simp] theorem fa_231_0 : ∀ p, fieldAddrA MX.ty 231 p 0 = faA 0 p := fun p => by cases p <;> kernel_rfl
@[simp] theorem fa_231_1 : ∀ p, fieldAddrA MX.ty 231 p 1 = faA 4 p := fun p => by cases p <;> kernel_rfl
@[simp] theorem fa_25_0 : ∀ p, fieldAddrA MX.ty 25 p 0 = faA 0 p := fun p => by cases p <;> kernel_rfl
@[simp] theorem fa_25_1 : ∀ p, fieldAddrA MX.ty 25 p 1 = faA 1 p := fun p => by cases p <;> kernel_rfl
@[simp] theorem fa_25_2 : ∀ p, fieldAddrA MX.ty 25 p 2 = faA 2 p := fun p => by cases p <;> kernel_rfl
@[simp] theorem fa_25_3 : ∀ p, fieldAddrA MX.ty 25 p 3 = faA 3 p := fun p => by cases p <;> kernel_rfl
@[simp] theorem fa_267_0 : ∀ p, fieldAddrA MX.ty 267 p 0 = faA 0 p := fun p => by cases p <;> kernel_rfl
@[simp] theorem fa_267_1 : ∀ p, fieldAddrA MX.ty 267 p 1 = faA 1 p := fun p => by cases p <;> kernel_rfl
@[simp] theorem fa_270_1 : ∀ p, fieldAddrA MX.ty 270 p 1 = faA 1 p := fun p => by cases p <;> kernel_rfl
@[simp] theorem fa_270_2 : ∀ p, fieldAddrA MX.ty 270 p 2 = faA 2 p := fun p => by cases p <;> kernel_rfl
@[simp] theorem fa_28_0 : ∀ p, fieldAddrA MX.ty 28 p 0 = faA 0 p := fun p => by cases p <;> kernel_rfl
@[simp] theorem fa_28_1 : ∀ p, fieldAddrA MX.ty 28 p 1 = faA 1 p := fun p => by cases p <;> kernel_rfl
@[simp] theorem fa_28_2 : ∀ p, fieldAddrA MX.ty 28 p 2 = faA 5 p := fun p => by cases p <;> kernel_rfl
@[simp] theorem fa_62_0 : ∀ p, fieldAddrA MX.ty 62 p 0 = faA 0 p := fun p => by cases p <;> kernel_rfl
@[simp] theorem fa_62_1 : ∀ p, fieldAddrA MX.ty 62 p 1 = faA 1 p := fun p => by cases p <;> kernel_rfl
@[simp] theorem fa_62_2 : ∀ p, fieldAddrA MX.ty 62 p 2 = faA 2 p := fun p => by cases p <;> kernel_rfl
@[simp] theorem fa_62_3 : ∀ p, fieldAddrA MX.ty 62 p 3 = faA 3 p := fun p => by cases p <;> kernel_rfl
@[simp] theorem ixs_9 : ∀ x i, indexA MX.ty 9 x i = ixS x i := fun x i => by cases x <;> cases i <;> kernel_rfl
@[simp] theorem ix_100 : ∀ x i, indexAddrA MX.ty 100 x i = ixA 1 x i := fun x i => by cases x <;> cases i <;> kernel_rfl
@[simp] theorem ix_101 : ∀ x i, indexAddrA MX.ty 101 x i = ixA 2 x i := fun x i => by cases x <;> cases i <;> kernel_rfl
@[simp] theorem ix_104 : ∀ x i, indexAddrA MX.ty 104 x i = ixA 5 x i := fun x i => by cases x <;> cases i <;> kernel_rfl
@[simp] theorem ix_157 : ∀ x i, indexAddrA MX.ty 157 x i = ixA 2 x i := fun x i => by cases x <;> cases i <;> kernel_rfl
@[simp] theorem ix_160 : ∀ x i, indexAddrA MX.ty 160 x i = ixA 1 x i := fun x i => by cases x <;> cases i <;> kernel_rfl
@[simp] theorem ix_204 : ∀ x i, indexAddrA MX.ty 204 x i = ixA 1 x i := fun x i => by cases x <;> cases i <;> kernel_rfl
@[simp] theorem ix_22 : ∀ x i, indexAddrA MX.ty 22 x i = ixA 3 x i := fun x i => by cases x <;> cases i <;> kernel_rfl
@[simp] theorem ix_23 : ∀ x i, indexAddrA MX.ty 23 x i = ixA 4 x i := fun x i => by cases x <;> cases i <;> kernel_rfl
@[simp] theorem ix_232 : ∀ x i, indexAddrA MX.ty 232 x i = ixA 5 x i := fun x i => by cases x <;> cases i <;> kernel_rfl
@[simp] theorem ix_247 : ∀ x i, indexAddrA MX.ty 247 x i = ixA 1 x i := fun x i => by cases x <;> cases i <;> kernel_rfl
@[simp] theorem ix_26 : ∀ x i, indexAddrA MX.ty 26 x i = ixA 4 x i := fun x i => by cases x <;> cases i <;> kernel_rfl
@[simp] theorem ix_265 : ∀ x i, indexAddrA MX.ty 265 x i = ixA 3 x i := fun x i => by cases x <;> cases i <;> kernel_rfl
@[simp] theorem ix_268 : ∀ x i, indexAddrA MX.ty 268 x i = ixA 1 x i := fun x i => by cases x <;> cases i <;> kernel_rfl
@[simp] theorem len_100 : ∀ x h, builtinA MX.ty .len [100] [x] h = lenSl x h := fun x h => by cases x <;> kernel_rfl
@[simp] theorem len_101 : ∀ x h, builtinA MX.ty .len [101] [x] h = lenSl x h := fun x h => by cases x <;> kernel_rfl
@[simp] theorem len_104 : ∀ x h, builtinA MX.ty .len [104] [x] h = lenSl x h := fun x h => by cases x <;> kernel_rfl
@[simp] theorem len_157 : ∀ x h, builtinA MX.ty .len [157] [x] h = lenSl x h := fun x h => by cases x <;> kernel_rfl
@[simp] theorem len_160 : ∀ x h, builtinA MX.ty .len [160] [x] h = lenSl x h := fun x h => by cases x <;> kernel_rfl
@[simp] theorem len_204 : ∀ x h, builtinA MX.ty .len [204] [x] h = lenSl x h := fun x h => by cases x <;> kernel_rfl
@[simp] theorem len_22 : ∀ x h, builtinA MX.ty .len [22] [x] h = lenSl x h := fun x h => by cases x <;> kernel_rfl
@[simp] theorem len_23 : ∀ x h, builtinA MX.ty .len [23] [x] h = lenSl x h := fun x h => by cases x <;> kernel_rfl
@[simp] theorem len_232 : ∀ x h, builtinA MX.ty .len [232] [x] h = lenSl x h := fun x h => by cases x <;> kernel_rfl
@[simp] theorem len_247 : ∀ x h, builtinA MX.ty .len [247] [x] h = lenSl x h := fun x h => by cases x <;> kernel_rfl
@[simp] theorem len_26 : ∀ x h, builtinA MX.ty .len [26] [x] h = lenSl x h := fun x h => by cases x <;> kernel_rfl
@[simp] theorem len_265 : ∀ x h, builtinA MX.ty .len [265] [x] h = lenSl x h := fun x h => by cases x <;> kernel_rfl
@[simp] theorem len_268 : ∀ x h, builtinA MX.ty .len [268] [x] h = lenSl x h := fun x h => by cases x <;> kernel_rfl
@[simp] theorem len_9 : ∀ x h, builtinA MX.ty .len [9] [x] h = lenSt x h := fun x h => by cases x <;> kernel_rfl
@[simp] theorem ld_100 : ∀ h p, loadA MX.ty h 100 p = ld1 h p := fun _ _ => by kernel_rfl
@[simp] theorem ld_101 : ∀ h p, loadA MX.ty h 101 p = ld1 h p := fun _ _ => by kernel_rfl
@[simp] theorem ld_103 : ∀ h p, loadA MX.ty h 103 p = ldN 3 h p := fun _ _ => by kernel_rfl
@[simp] theorem ld_104 : ∀ h p, loadA MX.ty h 104 p = ld1 h p := fun _ _ => by kernel_rfl
@[simp] theorem ld_106 : ∀ h p, loadA MX.ty h 106 p = ldN 2 h p := fun _ _ => by kernel_rfl
@[simp] theorem ld_109 : ∀ h p, loadA MX.ty h 109 p = ldN 5 h p := fun _ _ => by kernel_rfl
@[simp] theorem ld_112 : ∀ h p, loadA MX.ty h 112 p = ld1 h p := fun _ _ => by kernel_rfl
@[simp] theorem ld_157 : ∀ h p, loadA MX.ty h 157 p = ld1 h p := fun _ _ => by kernel_rfl
@[simp] theorem ld_160 : ∀ h p, loadA MX.ty h 160 p = ld1 h p := fun _ _ => by kernel_rfl
@[simp] theorem ld_162 : ∀ h p, loadA MX.ty h 162 p = ldN 2 h p := fun _ _ => by kernel_rfl
@[simp] theorem ld_196 : ∀ h p, loadA MX.ty h 196 p = ldN 3 h p := fun _ _ => by kernel_rfl
@[simp] theorem ld_201 : ∀ h p, loadA MX.ty h 201 p = ld1 h p := fun _ _ => by kernel_rfl
@[simp] theorem ld_22 : ∀ h p, loadA MX.ty h 22 p = ld1 h p := fun _ _ => by kernel_rfl
@[simp] theorem ld_221 : ∀ h p, loadA MX.ty h 221 p = ldN 2 h p := fun _ _ => by kernel_rfl
@[simp] theorem ld_224 : ∀ h p, loadA MX.ty h 224 p = ld1 h p := fun _ _ => by kernel_rfl
@[simp] theorem ld_23 : ∀ h p, loadA MX.ty h 23 p = ld1 h p := fun _ _ => by kernel_rfl
@[simp] theorem ld_231 : ∀ h p, loadA MX.ty h 231 p = ldN 5 h p := fun _ _ => by kernel_rfl
@[simp] theorem ld_25 : ∀ h p, loadA MX.ty h 25 p = ldN 4 h p := fun _ _ => by kernel_rfl
@[simp] theorem ld_26 : ∀ h p, loadA MX.ty h 26 p = ld1 h p := fun _ _ => by kernel_rfl
@[simp] theorem ld_265 : ∀ h p, loadA MX.ty h 265 p = ld1 h p := fun _ _ => by kernel_rfl
@[simp] theorem ld_268 : ∀ h p, loadA MX.ty h 268 p = ld1 h p := fun _ _ => by kernel_rfl
@[simp] theorem ld_270 : ∀ h p, loadA MX.ty h 270 p = ldN 3 h p := fun _ _ => by kernel_rfl
@[simp] theorem ld_28 : ∀ h p, loadA MX.ty h 28 p = ldN 6 h p := fun _ _ => by kernel_rfl
@[simp] theorem ld_282 : ∀ h p, loadA MX.ty h 282 p = ld1 h p := fun _ _ => by kernel_rfl
@[simp] theorem ld_3 : ∀ h p, loadA MX.ty h 3 p = ld1 h p := fun _ _ => by kernel_rfl
@[simp] theorem ld_301 : ∀ h p, loadA MX.ty h 301 p = ld1 h p := fun _ _ => by kernel_rfl
@[simp] theorem ld_35 : ∀ h p, loadA MX.ty h 35 p = ld1 h p := fun _ _ => by kernel_rfl
@[simp] theorem ld_5 : ∀ h p, loadA MX.ty h 5 p = ld1 h p := fun _ _ => by kernel_rfl
@[simp] theorem ld_62 : ∀ h p, loadA MX.ty h 62 p = ldN 4 h p := fun _ _ => by kernel_rfl
@[simp] theorem ld_9 : ∀ h p, loadA MX.ty h 9 p = ld1 h p := fun _ _ => by kernel_rfl
@[simp] theorem lk_224 : ∀ m k ok h, lookupA MX.ty 224 m k ok h = lkA (some .string) .nilf m k ok h := lk_of (kt := 9) (e := 225) (by kernel_rfl) (by kernel_rfl) (by kernel_rfl)
@[simp] theorem up_224 : ∀ m k v h, updateA MX.ty 224 m k v h = upA (some .string) m k v h := fun m k v h => by cases m <;> kernel_rfl
@[simp] theorem sl_100 : ∀ x lo hi mx, sliceA MX.ty 100 x lo hi mx = slA 1 x lo hi mx := fun x lo hi mx => by cases x <;> cases mx <;> cases hi <;> kernel_rfl
@[simp] theorem sl_101 : ∀ x lo hi mx, sliceA MX.ty 101 x lo hi mx = slA 2 x lo hi mx := fun x lo hi mx => by cases x <;> cases mx <;> cases hi <;> kernel_rfl
@[simp] theorem sl_22 : ∀ x lo hi mx, sliceA MX.ty 22 x lo hi mx = slA 3 x lo hi mx := fun x lo hi mx => by cases x <;> cases mx <;> cases hi <;> kernel_rfl
@[simp] theorem sl_232 : ∀ x lo hi mx, sliceA MX.ty 232 x lo hi mx = slA 5 x lo hi mx := fun x lo hi mx => by cases x <;> cases mx <;> cases hi <;> kernel_rfl
@[simp] theorem st_100 : ∀ h p v, storeA MX.ty h 100 p v = stA 1 h p v := st_of (by kernel_rfl) (by kernel_rfl)
@[simp] theorem st_101 : ∀ h p v, storeA MX.ty h 101 p v = stA 1 h p v := st_of (by kernel_rfl) (by kernel_rfl)
@[simp] theorem st_103 : ∀ h p v, storeA MX.ty h 103 p v = stA 3 h p v := st_of (by kernel_rfl) (by kernel_rfl)
@[simp] theorem st_104 : ∀ h p v, storeA MX.ty h 104 p v = stA 1 h p v := st_of (by kernel_rfl) (by kernel_rfl)
@[simp] theorem st_106 : ∀ h p v, storeA MX.ty h 106 p v = stA 2 h p v := st_of (by kernel_rfl) (by kernel_rfl)
@[simp] theorem st_109 : ∀ h p v, storeA MX.ty h 109 p v = stA 5 h p v := st_of (by kernel_rfl) (by kernel_rfl)
@[simp] theorem st_157 : ∀ h p v, storeA MX.ty h 157 p v = stA 1 h p v := st_of (by kernel_rfl) (by kernel_rfl)
@[simp] theorem st_160 : ∀ h p v, storeA MX.ty h 160 p v = stA 1 h p v := st_of (by kernel_rfl) (by kernel_rfl)
@[simp] theorem st_162 : ∀ h p v, storeA MX.ty h 162 p v = stA 2 h p v := st_of (by kernel_rfl) (by kernel_rfl)
@[simp] theorem st_196 : ∀ h p v, storeA MX.ty h 196 p v = stA 3 h p v := st_of (by kernel_rfl) (by kernel_rfl)
@[simp] theorem st_221 : ∀ h p v, storeA MX.ty h 221 p v = stA 2 h p v := st_of (by kernel_rfl) (by kernel_rfl)
@[simp] theorem st_23 : ∀ h p v, storeA MX.ty h 23 p v = stA 1 h p v := st_of (by kernel_rfl) (by kernel_rfl)
@[simp] theorem st_231 : ∀ h p v, storeA MX.ty h 231 p v = stA 5 h p v := st_of (by kernel_rfl) (by kernel_rfl)
@[simp] theorem st_25 : ∀ h p v, storeA MX.ty h 25 p v = stA 4 h p v := st_of (by kernel_rfl) (by kernel_rfl)
@[simp] theorem st_268 : ∀ h p v, storeA MX.ty h 268 p v = stA 1 h p v := st_of (by kernel_rfl) (by kernel_rfl)
@[simp] theorem st_270 : ∀ h p v, storeA MX.ty h 270 p v = stA 3 h p v := st_of (by kernel_rfl) (by kernel_rfl)
@[simp] theorem st_3 : ∀ h p v, storeA MX.ty h 3 p v = stA 1 h p v := st_of (by kernel_rfl) (by kernel_rfl)
@[simp] theorem st_301 : ∀ h p v, storeA MX.ty h 301 p v = stA 1 h p v := st_of (by kernel_rfl) (by kernel_rfl)
@[simp] theorem st_62 : ∀ h p v, storeA MX.ty h 62 p v = stA 4 h p v := st_of (by kernel_rfl) (by kernel_rfl)
end Go.Proofs.Am12
