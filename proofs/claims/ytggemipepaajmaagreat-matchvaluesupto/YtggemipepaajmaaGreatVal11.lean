/- The abstract machine of this claim, part 11. -/
import Derived.Test.YtggemipepaajmaaGreatVal10
import Derived.Shelf.Sort.Plain
import Derived.Shelf.Slices.In.SortNone
import Derived.Shelf.Slices.CompactS
set_option linter.unusedSimpArgs false
set_option linter.unusedVariables false
set_option linter.unusedSectionVars false
set_option linter.unnecessarySimpa false
namespace Go.Am
open Go Go.Proofs Go.Sort Go.Shelf
def strs (l:List (List UInt8)):List (List AV):=l.map fun s=>[AV.str s]
def ofStrs:List (List AV)→Option (List (List UInt8))
 | []=>some []
 | [.str s]::r=>(ofStrs r).map (s :: ·)
 | _=>none
theorem ofStrs_strs:∀ l,ofStrs (strs l)=some l
 | []=>rfl
 | s::r=>by
  have:=ofStrs_strs r
  simp only [strs,List.map_cons,ofStrs] at this ⊢
  rw [this];rfl
theorem strs_of:∀ {es:List (List AV)} {l:List (List UInt8)},ofStrs es=some l→es=strs l
 | [],l,h=>by simp only [ofStrs,Option.some.injEq] at h;subst h;rfl
 | e::r,l,h=>by
  unfold ofStrs at h
  split at h
  ·rename_i heq;cases heq
  ·rename_i s r' heq
   cases heq
   rw [Option.map_eq_some_iff] at h
   obtain ⟨l',h1,rfl⟩:=h
   rw [strs_of h1];rfl
  ·cases h
theorem strs_len (l:List (List UInt8)):(strs l).length=l.length:=by simp [strs]
theorem strs_get {l:List (List UInt8)} {i:Nat} {e:List AV} (h:(strs l)[i]? = some e):∃ s,l[i]? = some s∧e=[.str s]:=by
 simp only [strs,List.getElem?_map,Option.map_eq_some_iff] at h
 obtain ⟨s,h1,h2⟩:=h
 exact ⟨s,h1,h2.symm⟩
theorem strs_hold {g:G} {h:Heap} {fr:Fr} {w:World} (s:Sim g h fr w) {id B c:Nat} {lk:Bool} {ss:List (List UInt8)} (hk:h[id]? = some (.arr 1 lk (strs ss))) (hp:g.pl id ss.length=some (B,c)) :
  Holds encStr w B 0 ss.toArray∧B<w.heap.size∧ss.length≤c:=by
 obtain ⟨B',c',vs,T,fz,h1,h2,h3,h4,h5,h6,h7,h8,h9,h10⟩:=s.blk id _ hk
 rw [strs_len] at h1 h4
 rw [hp] at h1
 simp only [Option.some.injEq,Prod.mk.injEq] at h1
 obtain ⟨rfl,rfl⟩:=h1
 refine ⟨fun j hj => ?_,s.lt _ _ _ _ hp,h4⟩
 simp only [List.size_toArray] at hj
 have hjv:j<vs.size:=by omega
 have he:(strs ss)[j]? = some [.str ss[j]]:=by simp [strs,hj]
 have hr:=h8 j _ he 0 _ vs[j] rfl (by simp [hjv])
 have e0:ss.toArray[j]! = ss[j]:=by simp [hj]
 rw [Nat.zero_add,e0]
 constructor
 ·rw [cell_of h2,Array.getElem?_eq_getElem hjv]
  generalize vs[j]=v at hr
  cases hr
  rfl
 ·unfold World.frozen?
  simp only [h2]
  have:=h5 j hjv
  by_cases ha:fz.1≤j
  ·simp [ha];omega
  ·simp [ha]
theorem strs_turn {g:G} {h:Heap} {fr:Fr} {w:World} (s:Sim g h fr w) {id B c:Nat} {ss ss':List (List UInt8)} (hk:h[id]? = some (.arr 1 false (strs ss))) (hp:g.pl id ss.length=some (B,c)) (hl:ss'.length=ss.length) (n:Nat) (os:Array Obj) :
  Sim g (h.set id (.arr 1 false (strs ss'))) fr (grow (putRow encStr (Sort.ahead w n) B 0 ss'.toArray) os):=by
 obtain ⟨B',c',vs,T,fz,h1,h2,h3,h4,h5,h6,h7,h8,h9,h10⟩:=s.blk id _ hk
 rw [strs_len] at h1 h4 h10
 rw [hp] at h1
 simp only [Option.some.injEq,Prod.mk.injEq] at h1
 obtain ⟨rfl,rfl⟩:=h1
 have hB:B<w.heap.size:=s.lt _ _ _ _ hp
 have hid:id<h.length:=(List.getElem?_eq_some_iff.1 hk).1
 have hheap:∀ b,b<w.heap.size→(grow (putRow encStr (Sort.ahead w n) B 0 ss'.toArray) os).heap[b]? = if B=b then w.heap[b]?.map (onCells (putCells encStr 0 ss'.toArray)) else w.heap[b]? := by
  intro b hb
  simp only [grow,putRow,mapBlock,Sort.ahead]
  rw [Array.getElem?_append_left (by simpa using hb),Array.getElem?_modify]
 refine s.upd id _ hid g rfl (fun _ _ _=>rfl) (Le.refl g) (by simp [grow]) (fun b hb hne => ?_) (fun b o u hm => ?_) (fun gen b c hp=> .inl ⟨gen,c,hp⟩) ?_ rfl rfl rfl
 ·rw [hheap b hb,if_neg (fun e=>hne ss.length c (by rw [hp,e]))]
 ·have hbB:B≠b:=fun e=>by
   have:=h9 o (fun hh=>by cases hh)
   rw [e,hm] at this;cases this
  have h0:=s.mem b o u hm
  have hb:=s.mu_lt hm
  unfold World.cell? at h0 ⊢
  rw [hheap b hb,if_neg hbB]
  exact h0
 ·refine ⟨B,c,putCells encStr 0 ss'.toArray vs,T,fz,by rw [strs_len,hl];exact hp,?_,by simpa [putCells] using h3,by rw [strs_len,hl];exact h4,by simpa [putCells] using h5,fun i e he => ?_,fun i v hv => ?_,fun i e he k x v hx hv => ?_,fun o _=>h9 o (fun hh=>by cases hh),fun gen hgen=>h10 gen (by rw [strs_len,hl] at hgen;exact hgen)⟩
  ·rw [hheap B hB,if_pos rfl,h2];rfl
  ·obtain ⟨t,_,rfl⟩:=strs_get he
   rfl
  ·simp only [putCells,Array.getElem?_mapIdx,Option.map_eq_some_iff] at hv
   obtain ⟨a,ha,rfl⟩:=hv
   split
   ·rfl
   ·exact h7 i a ha
  ·obtain ⟨t,ht,rfl⟩:=strs_get he
   cases k with
   | succ k=>simp at hx
   | zero=>
    simp only [List.getElem?_cons_zero,Option.some.injEq] at hx
    subst hx
    have hi:i<ss'.length:=(List.getElem?_eq_some_iff.1 ht).1
    simp only [putCells,Array.getElem?_mapIdx,Option.map_eq_some_iff,Nat.mul_one,Nat.add_zero] at hv
    obtain ⟨a,ha,rfl⟩:=hv
    rw [if_pos ⟨Nat.zero_le _,by simpa using hi⟩]
    have:ss'.toArray[i - 0]! = t:=by
     rw [Nat.sub_zero]
     have:=(List.getElem?_eq_some_iff.1 ht)
     simp [hi,this.2]
    rw [this]
    exact .str _ _
def sortA:List AV→Heap→Option (CR×Heap)
 | [.hs id gen 1 0 len _],h=>match h[id]? with
  | some (.arr 1 false es)=>match ofStrs es with
   | some ss=>match Nat.beq es.length gen&&Nat.beq len gen&&Nat.blt 0 len&&Nat.blt len 4611686018427387904 with
    | true=>some (.ret (.tup []),h.set id (.arr 1 false (strs (ss.mergeSort fun x y=>decide (x≤y)))))
    | false=>none
   | none=>none
  | _=>none
 | [.nils],h=>some (.ret (.tup []),h)
 | _,_=>none
def compactA:List AV→Heap→Option (CR×Heap)
 | [.hs id gen 1 0 len false],h=>match h[id]? with
  | some (.arr 1 false es)=>match ofStrs es with
   | some ss=>match Nat.beq es.length gen&&Nat.beq len gen&&Nat.blt 0 len&&Nat.blt len 4611686018427387904 with
    | true=>some (.ret (.hs id gen 1 0 (Lib.compact ss).length false),h.set id (.arr 1 false (strs (Lib.compact ss++List.replicate (ss.length - (Lib.compact ss).length) []))))
    | false=>none
   | none=>none
  | _=>none
 | [.nils],h=>some (.ret .nils,h)
 | _,_=>none
def bitLenA:List AV→Heap→Option (CR×Heap)
 | [.int .u64 n],h=>match decide (0≤n∧n≤18446744073709551615) with
  | true=>some (.ret (.int .i64 (Lib.bitLen n.toNat)),h)
  | false=>none
 | _,_=>none
theorem hs_addr {g:G} {id gen sz off len:Nat} {ex:Bool} {x:Value} (hr:Rel g true (.hs id gen sz off len ex) x) (h0:0<len) :
  ∃ B c c',g.pl id gen=some (B,c)∧off+len≤c∧x=.slice (some ⟨B,off * sz,none⟩) len c'∧c'=(if ex then len else c - off)∧len≤c':=by
 cases hr with
 | hs _ _ _ _ _ _ B c o c' h h1 hc ho=>
  have hle:len≤c':=by rw [hc];split <;> omega
  have:=ho (by omega)
  subst this
  exact ⟨B,c,c',h,h1,rfl,hc,hle⟩
theorem relL_one {g:G} {a:AV} {cargs:Array Value} (h:RelL g true [a] cargs):∃ x,cargs = #[x]∧Rel g true a x:=by
 obtain ⟨h1,h2⟩:=h
 match cargs,h1 with
 | ⟨[x]⟩,_=>exact ⟨x,rfl,h2 0 a x rfl rfl⟩
section
variable {P:Program} {ρ:Ren}
theorem sort_ok (Ly:Lays.n190 P ρ) {args:List AV} {h h':Heap} {r:CR} (he:sortA args h=some (r,h')) {g:G} {fr:Fr} {w:World} {cargs:Array Value} (sim:Sim g h fr w) (hr:RelL g true args cargs) :
  Calls P (ρ.f 190) cargs w fun e w'=>∃ g',Le g g'∧Sim g' h' fr w'∧RetOK g' r e:=by
 unfold sortA at he
 split at he
 ·rename_i id gen len ex
  split at he
  ·rename_i es hk
   split at he
   ·rename_i ss hss
    split at he
    ·rename_i hc
     simp only [Bool.and_eq_true,nbeq,nblt] at hc
     simp only [Option.some.injEq,Prod.mk.injEq] at he
     obtain ⟨rfl,rfl⟩:=he
     have hes:=strs_of hss
     subst hes
     rw [strs_len] at hc
     obtain ⟨⟨⟨hg,hl⟩,h0⟩,hb⟩:=hc
     subst hg;subst hl
     obtain ⟨x,rfl,hx⟩:=relL_one hr
     obtain ⟨B,c,c',hp,h1,rfl,h2,h3⟩:=hs_addr hx h0
     obtain ⟨hH,hB,hc⟩:=strs_hold sim hk hp
     refine (Any.slices_Sort_string Ly B 0 c' ss w hH hB hb).mono fun e w' he => ?_
     obtain ⟨rfl,n,os,rfl⟩:=he
     exact ⟨g,Le.refl g,strs_turn sim hk hp (by rw [List.length_mergeSort]) n os,.tup true [] #[] rfl (fun i c v h=>by simp at h)⟩
    ·cases he
   ·cases he
  ·cases he
 ·simp only [Option.some.injEq,Prod.mk.injEq] at he
  obtain ⟨rfl,rfl⟩:=he
  obtain ⟨x,rfl,hx⟩:=relL_one hr
  cases hx
  refine (Any.slices_Sort_string_none Ly none 0 w).mono fun e w' he => ?_
  obtain ⟨rfl,rfl⟩:=he
  exact ⟨g,Le.refl g,sim,.tup true [] #[] rfl (fun i c v h=>by simp at h)⟩
 ·cases he
theorem compact_len {α:Type} [Inhabited α] [DecidableEq α] (zs:List α):(Lib.compact zs).length≤zs.length:=by
 unfold Lib.compact Lib.compactUpTo
 simp only [List.length_map]
 exact Nat.le_trans (List.length_filter_le _ _) (by simp)
theorem compact_ok (Ly:Lays.n194 P ρ) {args:List AV} {h h':Heap} {r:CR} (he:compactA args h=some (r,h')) {g:G} {fr:Fr} {w:World} {cargs:Array Value} (sim:Sim g h fr w) (hr:RelL g true args cargs) :
  Calls P (ρ.f 194) cargs w fun e w'=>∃ g',Le g g'∧Sim g' h' fr w'∧RetOK g' r e:=by
 unfold compactA at he
 split at he
 ·rename_i id gen len
  split at he
  ·rename_i es hk
   split at he
   ·rename_i ss hss
    split at he
    ·rename_i hc
     simp only [Bool.and_eq_true,nbeq,nblt] at hc
     simp only [Option.some.injEq,Prod.mk.injEq] at he
     obtain ⟨rfl,rfl⟩:=he
     have hes:=strs_of hss
     subst hes
     rw [strs_len] at hc
     obtain ⟨⟨⟨hg,hl⟩,h0⟩,hb⟩:=hc
     subst hg;subst hl
     obtain ⟨x,rfl,hx⟩:=relL_one hr
     obtain ⟨B,c,c',hp,h1,rfl,h2,h3⟩:=hs_addr hx h0
     obtain ⟨hH,hB,hc⟩:=strs_hold sim hk hp
     refine (Any.slices_Compact_string Ly B 0 c' ss w hH (by omega) h3).mono fun e w' he => ?_
     obtain ⟨rfl,q,rfl⟩:=he
     have hcl:=compact_len ss
     have ht:=strs_turn sim hk hp (ss':=Lib.compact ss++List.replicate (ss.length - (Lib.compact ss).length) []) (by simp;omega) q #[]
     rw [grow_empty] at ht
     refine ⟨g,Le.refl g,ht,?_⟩
     have:=Rel.hs (g:=g) id ss.length 1 0 (Lib.compact ss).length false B c 0 c' hp (by omega) (by simpa using h2) (fun _=>rfl)
     exact this
    ·cases he
   ·cases he
  ·cases he
 ·simp only [Option.some.injEq,Prod.mk.injEq] at he
  obtain ⟨rfl,rfl⟩:=he
  obtain ⟨x,rfl,hx⟩:=relL_one hr
  cases hx
  refine (Any.slices_Compact_string_empty Ly none 0 w).mono fun e w' he => ?_
  obtain ⟨rfl,rfl⟩:=he
  exact ⟨g,Le.refl g,sim,.nils _⟩
 ·cases he
theorem bitLen_ok (Ly:Lays.n125 P ρ) {args:List AV} {h h':Heap} {r:CR} (he:bitLenA args h=some (r,h')) {g:G} {fr:Fr} {w:World} {cargs:Array Value} (sim:Sim g h fr w) (hr:RelL g true args cargs) :
  Calls P (ρ.f 125) cargs w fun e w'=>∃ g',Le g g'∧Sim g' h' fr w'∧RetOK g' r e:=by
 unfold bitLenA at he
 split at he
 ·split at he
  ·rename_i hd
   have hd:=of_decide_eq_true hd
   simp only [Option.some.injEq,Prod.mk.injEq] at he
   obtain ⟨rfl,rfl⟩:=he
   obtain ⟨x,rfl,hx⟩:=relL_one hr
   cases hx
   have hcall:=calls_of_every_depth fun D=>AnyS.bits_LenInS Ly D _ w hd.1 hd.2
   refine hcall.mono fun e w' he => ?_
   obtain ⟨rfl,rfl⟩:=he
   exact ⟨g,Le.refl g,sim,.int _ _ _⟩
  ·cases he
 ·cases he
end
end Go.Am
namespace Go.Proofs.Am12
open Go Go.Am
def effX (f:FuncId):Option (List AV→Heap→Option (CR×Heap)):=match Nat.beq f 149 with
 | true=>some sortA
 | false=>match Nat.beq f 150 with
  | true=>some compactA
  | false=>match Nat.beq f 184 with
   | true=>some bitLenA
   | false=>none
def openFns:FuncId→Bool:=fun f=>Nat.beq f 174||(Nat.beq f 197||(Nat.beq f 216||(Nat.beq f 238||(Nat.beq f 239||(Nat.beq f 265||(Nat.beq f 79||(Nat.beq f 82||(Nat.beq f 83||(Nat.beq f 116||(Nat.beq f 147||(Nat.beq f 182||(Nat.beq f 199||(Nat.beq f 63||(Nat.beq f 159||(Nat.beq f 189||(Nat.beq f 218||(Nat.beq f 246||(Nat.beq f 76))))))))))))))))))
noncomputable def MX:Par := { MW with eff:=effX,mode:=fun f=>match openFns f with
 | true => {}
 | false=>MW.mode f }
theorem fitsX:Fits MX Tryz.prog:=⟨fitsW.ty,fitsW.fn,fitsW.mixed,fitsW.fld,fitsW.elm⟩
theorem primX:PrimOK MX Tryz.prog:=fun f p hp=>primW f p hp
theorem effOKX:EffOK MX Tryz.prog:=by
 intro f e he args h r h' hr
 change effX f=some e at he
 unfold effX at he
 split at he
 ·rename_i hf
  have:=nbeq.1 hf;subst this
  simp only [Option.some.injEq] at he;subst he
  exact ⟨⟨Tryz.f149,_,by kernel_rfl,rfl⟩,fun g fr w cargs sim ha=>sort_ok Tryz.lays190 hr sim ha⟩
 ·split at he
  ·rename_i hf
   have:=nbeq.1 hf;subst this
   simp only [Option.some.injEq] at he;subst he
   exact ⟨⟨Tryz.f150,_,by kernel_rfl,rfl⟩,fun g fr w cargs sim ha=>compact_ok Tryz.lays194 hr sim ha⟩
  ·split at he
   ·rename_i hf
    have:=nbeq.1 hf;subst this
    simp only [Option.some.injEq] at he;subst he
    exact ⟨⟨Tryz.f184,_,by kernel_rfl,rfl⟩,fun g fr w cargs sim ha=>bitLen_ok Tryz.lays125 hr sim ha⟩
   ·cases he
end Go.Proofs.Am12
namespace Go.Am
open Go
def CLe (C C':CH):Prop:=∀ f a h r,C f a h=some r→C' f a h=some r
section
variable {M:Par} {C C':CH} (hC:CLe C C')
include hC
theorem doCall_mono:CLe (doCall M C) (doCall M C'):=by
 intro f a h r hr
 unfold doCall at hr ⊢
 split at hr
 ·exact hC _ _ _ _ hr
 ·split at hr
  ·cases hr
  ·split at hr
   ·cases hr
   ·cases hc:C f _ [] with
    | none=>rw [hc] at hr;cases hr
    | some x=>rw [hc] at hr;rw [hC _ _ _ _ hc];exact hr
theorem opEx_mono {fid:Nat} {t:Tm} {op:Op} {h:Heap} {r:OR} (hr:opEx M fid C t op h=some r):opEx M fid C' t op h=some r:=by
 cases op with
 | makeFunc f _ _=>cases f <;> exact hr
 | makeMap _ r0=>cases r0 <;> exact hr
 | call c=>
  obtain ⟨callee,args,ats⟩:=c
  cases callee with
  | value f=>
   simp only [opEx,xCall] at hr ⊢
   split at hr
   ·split at hr
    ·exact hr
    ·rename_i g fs cap vs _ _ _ _
     cases hd:doCall M C g (fs++vs++cap) h with
     | none=>rw [hd] at hr;cases hr
     | some x=>rw [hd] at hr;rw [doCall_mono hC _ _ _ _ hd];exact hr
   ·cases hr
  | builtin b=>exact hr
  | invoke=>exact hr
 | _=>exact hr
theorem runOps_mono {fid N:Nat} {ops:Array Oper}:∀ {l:List Oper} {t:Tm} {h:Heap} {ks:List Kd} {r:RO},runOps M fid N C ops l t h ks=some r→runOps M fid N C' ops l t h ks=some r
 | [],_,_,_,_,hr=>hr
 | o::l,t,h,ks,r,hr=>by
  simp only [runOps] at hr ⊢
  split at hr
  ·cases hr
  ·split at hr
   ·rename_i hp
    exact runOps_mono hr
   ·cases hr
  ·cases ho:opEx M fid C t o.op h with
   | none=>rw [ho] at hr;cases hr
   | some x=>
    rw [ho] at hr
    rw [opEx_mono hC ho]
    cases x with
    | val v h'=>
     simp only at hr ⊢
     split at hr
     ·exact runOps_mono hr
     ·cases hr
    | pan v h'=>exact hr
theorem regionA_mono {fid N id:Nat} {ops:Array Oper} {d:Bool} {s:St} {r:Ex×St} (hr:regionA M fid N C id ops d s=some r):regionA M fid N C' id ops d s=some r:=by
 unfold regionA at hr ⊢
 cases ho:runOps M fid N C ops ops.toList s.1 s.2 [] with
 | none=>rw [ho] at hr;cases hr
 | some x=>rw [ho] at hr;rw [runOps_mono hC ho];exact hr
end
theorem iter_mono {f g:St→Option (Ex×St)} (hf:∀ s r,f s=some r→g s=some r):∀ {n m:Nat} {s:St} {r:Ex×St},n≤m→iter n f s=some r→iter m g s=some r
 | 0,_,_,_,_,h=>by cases h
 | n+1,0,_,_,hle,_=>by omega
 | n+1,m+1,s,r,hle,h=>by
  simp only [iter] at h ⊢
  cases hs:f s with
  | none=>rw [hs] at h;cases h
  | some x=>
   rw [hs] at h
   rw [hf _ _ hs]
   obtain ⟨e,s'⟩:=x
   cases e with
   | nrm=>exact iter_mono hf (by omega) h
   | ext=>exact h
   | ret=>exact h
   | pan=>exact h
theorem codeF_mono {M:Par} {C C':CH} (hC:CLe C C') {fid N L L':Nat} (hL:L≤L'):∀ {c:Code} {s:St} {r:Ex×St},codeF M fid N C L c s=some r→codeF M fid N C' L' c s=some r
 | .skip,_,_,h=>h
 | .region id ops d,s,r,h=>by simp only [codeF] at h ⊢;exact regionA_mono hC h
 | .seq a b,s,r,h=>by
  simp only [codeF] at h ⊢
  cases ha:codeF M fid N C L a s with
  | none=>rw [ha] at h;cases h
  | some x=>
   rw [ha] at h
   rw [codeF_mono hC hL ha]
   obtain ⟨e,s'⟩:=x
   cases e with
   | nrm=>exact codeF_mono hC hL h
   | ext=>exact h
   | ret=>exact h
   | pan=>exact h
 | .cond c a b,s,r,h=>by
  simp only [codeF] at h ⊢
  split at h
  ·exact codeF_mono hC hL h
  ·exact codeF_mono hC hL h
  ·cases h
 | .block id c,s,r,h=>by
  simp only [codeF] at h ⊢
  cases ha:codeF M fid N C L c s with
  | none=>rw [ha] at h;cases h
  | some x=>rw [ha] at h;rw [codeF_mono hC hL ha];exact h
 | .loop c,s,r,h=>by
  simp only [codeF] at h ⊢
  exact iter_mono (fun s r h=>codeF_mono hC hL h) hL h
 | .exit _,_,_,h=>h
 | .ret,_,_,h=>h
 | .scope _,_,_,h=>by simp [codeF] at h
 | .rangeFunc ..,_,_,h=>by simp [codeF] at h
 | .label _,_,_,h=>by simp [codeF] at h
 | .goto _,_,_,h=>by simp [codeF] at h
 | .refuse _,_,_,h=>by simp [codeF] at h
theorem runF_mono {M:Par} {C C':CH} (hC:CLe C C') {L L':Nat} (hL:L≤L'):CLe (runF M C L) (runF M C' L'):=by
 intro f a h r hr
 unfold runF at hr ⊢
 split at hr
 ·cases hr
 ·rename_i fn hfn
  split at hr
  ·cases hr
  ·rename_i c hc
   split at hr
   ·rename_i hle
    cases hx:codeF M f fn.ntmps C L c (Tm.init 0 a,h) with
    | none=>rw [hx] at hr;cases hr
    | some x=>rw [hx] at hr;rw [codeF_mono hC hL hx];exact hr
   ·cases hr
theorem callF_step (M:Par):∀ n,CLe (callF M n) (callF M (n+1))
 | 0=>fun f a h r hr=>by cases hr
 | n+1=>fun f a h r hr=>by
  simp only [callF] at hr ⊢
  split at hr
  ·exact hr
  ·exact runF_mono (callF_step M n) (Nat.le_succ n) f a h r hr
theorem callF_mono (M:Par) {n m:Nat} (h:n≤m):CLe (callF M n) (callF M m):=by
 induction m with
 | zero=>rw [Nat.le_zero.1 h];exact fun _ _ _ _ h=>h
 | succ m ih=>
  by_cases he:n=m+1
  ·rw [he];exact fun _ _ _ _ h=>h
  ·exact fun f a hh r hr=>callF_step M m f a hh r (ih (by omega) f a hh r hr)
def Comes (M:Par) (f:FuncId) (args:List AV) (h:Heap) (r:CR×Heap):Prop:=∃ n,callF M n f args h=some r
theorem Comes.at {M:Par} {f:FuncId} {args:List AV} {h:Heap} {r:CR×Heap} (hc:Comes M f args h r):∃ n,∀ m,n≤m→callF M m f args h=some r:=by
 obtain ⟨n,hn⟩:=hc
 exact ⟨n,fun m hm=>callF_mono M hm _ _ _ _ hn⟩
end Go.Am
namespace Go.Am
open Go
open Classical in
noncomputable def lim {α β:Type} (F:Nat→α→Option β) (x:α):Option β:=if h:∃ r,∃ n,F n x=some r then some (Classical.choose h) else none
theorem lim_some {α β:Type} {F:Nat→α→Option β} (hm:∀ n m x r,n≤m→F n x=some r→F m x=some r) {x:α} {r:β}:lim F x=some r↔∃ n,F n x=some r:=by
 unfold lim
 constructor
 ·intro h
  split at h
  ·rename_i hx
   simp only [Option.some.injEq] at h
   rw [← h]
   exact Classical.choose_spec hx
  ·cases h
 ·rintro ⟨n,hn⟩
  have hx:∃ r,∃ n,F n x=some r:=⟨r,n,hn⟩
  rw [dif_pos hx]
  obtain ⟨m,hm'⟩:=Classical.choose_spec hx
  have h1:=hm _ (max n m) _ _ (Nat.le_max_left n m) hn
  have h2:=hm _ (max n m) _ _ (Nat.le_max_right n m) hm'
  rw [h1] at h2
  exact h2.symm
noncomputable def loopW (f:St→Option (Ex×St)) (s:St):Option (Ex×St):=lim (fun n s=>iter n f s) s
theorem loopW_some {f:St→Option (Ex×St)} {s:St} {r:Ex×St}:loopW f s=some r↔∃ n,iter n f s=some r:=
 lim_some (F:=fun n s=>iter n f s) fun n m x r h hr=>iter_mono (fun _ _ h=>h) h hr
theorem loopW_next {f:St→Option (Ex×St)} {s s':St} {r:Ex×St} (h:f s=some (.nrm,s')) (hl:loopW f s'=some r):loopW f s=some r:=by
 obtain ⟨n,hn⟩:=loopW_some.1 hl
 exact loopW_some.2 ⟨n+1,by simp only [iter,h];exact hn⟩
theorem loopW_end {f:St→Option (Ex×St)} {s s':St} {e:Ex} (h:f s=some (e,s')) (he:e≠.nrm):loopW f s=some (e,s'):=by
 refine loopW_some.2 ⟨1,?_⟩
 simp only [iter,h]
 cases e <;> first | rfl | exact absurd rfl he
noncomputable def codeW (M:Par) (fid N:Nat) (C:CH):Code→St→Option (Ex×St)
 | .skip,s=>some (.nrm,s)
 | .region id ops d,s=>regionA M fid N C id ops d s
 | .seq a b,s=>match codeW M fid N C a s with
  | some (.nrm,s')=>codeW M fid N C b s'
  | r=>r
 | .cond c a b,s=>match ev s.1 c with
  | some (.bool true)=>codeW M fid N C a s
  | some (.bool false)=>codeW M fid N C b s
  | _=>none
 | .block id c,s=>match codeW M fid N C c s with
  | some (.ext j,s')=>match Nat.beq j id with
   | true=>some (.nrm,s')
   | false=>some (.ext j,s')
  | r=>r
 | .loop c,s=>loopW (codeW M fid N C c) s
 | .exit id,s=>some (.ext id,s)
 | .ret,s=>some (.ret,s)
 | _,_=>none
noncomputable def callW (M:Par):CH:=fun f a h=>lim (fun n (x:FuncId×List AV×Heap)=>callF M n x.1 x.2.1 x.2.2) (f,a,h)
theorem callW_some {M:Par} {f:FuncId} {a:List AV} {h:Heap} {r:CR×Heap}:callW M f a h=some r↔∃ n,callF M n f a h=some r:=
 lim_some (F:=fun n (x:FuncId×List AV×Heap)=>callF M n x.1 x.2.1 x.2.2) fun n m x r h hr=>callF_mono M h _ _ _ _ hr
noncomputable def runW (M:Par) (f:FuncId) (args:List AV) (h:Heap):Option (CR×Heap):=
 match M.fn f with
 | none=>none
 | some fn=>match fn.body with
  | none=>none
  | some c=>match Nat.ble args.length fn.ntmps with
   | true=>finish M.ty fn (codeW M f fn.ntmps (callW M) c (Tm.init 0 args,h))
   | false=>none
section
variable {M:Par}
theorem doCall_lim {f:FuncId} {a:List AV} {h:Heap} {r:CR×Heap} (hr:doCall M (callW M) f a h=some r):∃ n,doCall M (callF M n) f a h=some r:=by
 unfold doCall at hr
 split at hr
 ·rename_i hf
  obtain ⟨n,hn⟩:=callW_some.1 hr
  exact ⟨n,by unfold doCall;rw [hf];exact hn⟩
 ·rename_i hf
  split at hr
  ·cases hr
  ·rename_i args' h' hs
   split at hr
   ·cases hr
   ·rename_i hn
    cases hc:callW M f args' [] with
    | none=>rw [hc] at hr;cases hr
    | some x=>
     obtain ⟨n,hn'⟩:=callW_some.1 hc
     refine ⟨n,?_⟩
     rw [hc] at hr
     unfold doCall
     simp only [hf,hs,hn,hn']
     exact hr
theorem opEx_lim {fid:Nat} {t:Tm} {op:Op} {h:Heap} {r:OR} (hr:opEx M fid (callW M) t op h=some r):∃ n,opEx M fid (callF M n) t op h=some r:=by
 cases op with
 | makeFunc f _ _=>cases f <;> exact ⟨0,hr⟩
 | makeMap _ r0=>cases r0 <;> exact ⟨0,hr⟩
 | call c=>
  obtain ⟨callee,args,ats⟩:=c
  cases callee with
  | value f=>
   simp only [opEx,xCall] at hr ⊢
   split at hr
   ·split at hr
    ·exact ⟨0,hr⟩
    ·rename_i g fs cap vs _ _ _ _
     cases hd:doCall M (callW M) g (fs++vs++cap) h with
     | none=>rw [hd] at hr;cases hr
     | some x=>
      rw [hd] at hr
      obtain ⟨n,hn⟩:=doCall_lim hd
      exact ⟨n,by rw [hn];exact hr⟩
   ·cases hr
  | builtin b=>exact ⟨0,hr⟩
  | invoke=>exact ⟨0,hr⟩
 | _=>exact ⟨0,hr⟩
theorem runOps_lim {fid N:Nat} {ops:Array Oper}:∀ {l:List Oper} {t:Tm} {h:Heap} {ks:List Kd} {r:RO},runOps M fid N (callW M) ops l t h ks=some r→∃ n,runOps M fid N (callF M n) ops l t h ks=some r
 | [],_,_,_,_,hr=>⟨0,hr⟩
 | o::l,t,h,ks,r,hr=>by
  simp only [runOps] at hr ⊢
  split at hr
  ·cases hr
  ·split at hr
   ·exact runOps_lim hr
   ·cases hr
  ·cases ho:opEx M fid (callW M) t o.op h with
   | none=>rw [ho] at hr;cases hr
   | some x=>
    obtain ⟨n,hn⟩:=opEx_lim ho
    rw [ho] at hr
    cases x with
    | val v h'=>
     simp only at hr
     split at hr
     ·rename_i t' hp
      obtain ⟨m,hm⟩:=runOps_lim hr
      refine ⟨max n m,?_⟩
      rw [opEx_mono (callF_mono M (Nat.le_max_left n m)) hn]
      simp only [hp]
      exact runOps_mono (callF_mono M (Nat.le_max_right n m)) hm
     ·cases hr
    | pan v h'=>exact ⟨n,by rw [hn];exact hr⟩
theorem codeW_lim {fid N:Nat}:∀ {c:Code} {s:St} {r:Ex×St},codeW M fid N (callW M) c s=some r→∃ n,codeF M fid N (callF M n) n c s=some r
 | .skip,_,_,h=>⟨0,h⟩
 | .region id ops d,s,r,h=>by
  simp only [codeW] at h
  simp only [codeF]
  unfold regionA at h ⊢
  cases ho:runOps M fid N (callW M) ops ops.toList s.1 s.2 [] with
  | none=>rw [ho] at h;cases h
  | some x=>
   obtain ⟨n,hn⟩:=runOps_lim ho
   rw [ho] at h
   exact ⟨n,by rw [hn];exact h⟩
 | .seq a b,s,r,h=>by
  simp only [codeW] at h
  simp only [codeF]
  cases ha:codeW M fid N (callW M) a s with
  | none=>rw [ha] at h;cases h
  | some x=>
   obtain ⟨n,hn⟩:=codeW_lim ha
   rw [ha] at h
   obtain ⟨e,s'⟩:=x
   cases e with
   | nrm=>
    obtain ⟨m,hm⟩:=codeW_lim (c:=b) h
    refine ⟨max n m,?_⟩
    rw [codeF_mono (callF_mono M (Nat.le_max_left n m)) (Nat.le_max_left n m) hn]
    exact codeF_mono (callF_mono M (Nat.le_max_right n m)) (Nat.le_max_right n m) hm
   | ext=>exact ⟨n,by rw [hn];exact h⟩
   | ret=>exact ⟨n,by rw [hn];exact h⟩
   | pan=>exact ⟨n,by rw [hn];exact h⟩
 | .cond c a b,s,r,h=>by
  simp only [codeW] at h
  simp only [codeF]
  split at h
  ·rename_i hc
   obtain ⟨n,hn⟩:=codeW_lim h
   exact ⟨n,by rw [hc];exact hn⟩
  ·rename_i hc
   obtain ⟨n,hn⟩:=codeW_lim h
   exact ⟨n,by rw [hc];exact hn⟩
  ·cases h
 | .block id c,s,r,h=>by
  simp only [codeW] at h
  simp only [codeF]
  cases ha:codeW M fid N (callW M) c s with
  | none=>rw [ha] at h;cases h
  | some x=>
   obtain ⟨n,hn⟩:=codeW_lim ha
   rw [ha] at h
   exact ⟨n,by rw [hn];exact h⟩
 | .loop c,s,r,h=>by
  simp only [codeW] at h
  simp only [codeF]
  obtain ⟨k,hk⟩:=loopW_some.1 h
  have key:∀ (k:Nat) (s:St),iter k (codeW M fid N (callW M) c) s=some r→∃ n,iter n (codeF M fid N (callF M n) n c) s=some r:=by
   intro k
   induction k with
   | zero=>intro s h;cases h
   | succ k ih=>
    intro s h
    simp only [iter] at h
    cases ha:codeW M fid N (callW M) c s with
    | none=>rw [ha] at h;cases h
    | some x=>
     obtain ⟨n,hn⟩:=codeW_lim ha
     rw [ha] at h
     obtain ⟨e,s'⟩:=x
     cases e with
     | nrm=>
      obtain ⟨m,hm⟩:=ih s' h
      refine ⟨max n m+1,?_⟩
      simp only [iter]
      rw [codeF_mono (callF_mono M (by omega)) (by omega:n≤max n m+1) hn]
      exact iter_mono (fun s r h=>codeF_mono (callF_mono M (by omega)) (by omega:m≤max n m+1) h) (Nat.le_max_right n m) hm
     | ext=>exact ⟨n+1,by simp only [iter];rw [codeF_mono (callF_mono M (by omega)) (by omega:n≤n+1) hn];exact h⟩
     | ret=>exact ⟨n+1,by simp only [iter];rw [codeF_mono (callF_mono M (by omega)) (by omega:n≤n+1) hn];exact h⟩
     | pan=>exact ⟨n+1,by simp only [iter];rw [codeF_mono (callF_mono M (by omega)) (by omega:n≤n+1) hn];exact h⟩
  exact key k s hk
 | .exit _,_,_,h=>⟨0,h⟩
 | .ret,_,_,h=>⟨0,h⟩
 | .scope _,_,_,h=>by simp [codeW] at h
 | .rangeFunc ..,_,_,h=>by simp [codeW] at h
 | .label _,_,_,h=>by simp [codeW] at h
 | .goto _,_,_,h=>by simp [codeW] at h
 | .refuse _,_,_,h=>by simp [codeW] at h
theorem callW_run {f:FuncId} {a:List AV} {h:Heap} {r:CR×Heap} (he:M.eff f=none) (hr:runW M f a h=some r):callW M f a h=some r:=by
 unfold runW at hr
 split at hr
 ·cases hr
 ·rename_i fn hfn
  split at hr
  ·cases hr
  ·rename_i c hc
   split at hr
   ·rename_i hle
    cases hx:codeW M f fn.ntmps (callW M) c (Tm.init 0 a,h) with
    | none=>rw [hx] at hr;cases hr
    | some x=>
     obtain ⟨n,hn⟩:=codeW_lim hx
     rw [hx] at hr
     refine callW_some.2 ⟨n+1,?_⟩
     simp only [callF,he]
     unfold runF
     simp only [hfn,hc,hle,hn]
     exact hr
   ·cases hr
theorem callW_eff {f:FuncId} {a:List AV} {h:Heap} {r:CR×Heap} {e:List AV→Heap→Option (CR×Heap)} (he:M.eff f=some e) (hr:e a h=some r):callW M f a h=some r:=
 callW_some.2 ⟨1,by simp only [callF,he];exact hr⟩
end
def loopsIn:Code→List Code
 | .seq a b=>loopsIn a++loopsIn b
 | .cond _ a b=>loopsIn a++loopsIn b
 | .block _ c=>loopsIn c
 | .loop c=>c::loopsIn c
 | _=>[]
def loopC (fn:Func) (k:Nat):Code:=match fn.body with
 | some c=>(loopsIn c).getD k .skip
 | none=> .skip
theorem inRange_nat {i n:Nat} (h:i<n):inRange (i:Int) n=some i:=by
 have h2:((i:Int)<(n:Int)):=by omega
 simp [inRange,h]
theorem wr_i64 {n:Int} (h:0≤n) (h2:n<9223372036854775808):wr .i64 n=n:=by
 simp [wr,khalf,h,h2]
section
variable (M:Par) (fid N:Nat) (C:CH)
noncomputable def loopH (c:Code) (s:St):Option (Ex×St):=loopW (codeW M fid N C c) s
theorem cw_skip (s:St):codeW M fid N C .skip s=some (.nrm,s):=rfl
theorem cw_region (id:Nat) (ops:Array Oper) (d:Bool) (s:St):codeW M fid N C (.region id ops d) s=regionA M fid N C id ops d s:=rfl
theorem cw_seq (a b:Code) (s:St):codeW M fid N C (.seq a b) s=(match codeW M fid N C a s with
  | some (.nrm,s')=>codeW M fid N C b s'
  | r=>r):=rfl
theorem cw_cond (c:Operand) (a b:Code) (s:St):codeW M fid N C (.cond c a b) s=(match ev s.1 c with
  | some (.bool true)=>codeW M fid N C a s
  | some (.bool false)=>codeW M fid N C b s
  | _=>none):=rfl
theorem cw_block (id:Nat) (c:Code) (s:St):codeW M fid N C (.block id c) s=(match codeW M fid N C c s with
  | some (.ext j,s')=>(match Nat.beq j id with
   | true=>some (.nrm,s')
   | false=>some (.ext j,s'))
  | r=>r):=rfl
theorem cw_loop (c:Code) (s:St):codeW M fid N C (.loop c) s=loopH M fid N C c s:=rfl
theorem cw_exit (id:Nat) (s:St):codeW M fid N C (.exit id) s=some (.ext id,s):=rfl
theorem cw_ret (s:St):codeW M fid N C .ret s=some (.ret,s):=rfl
variable {M fid N C}
theorem loopH_next {c:Code} {s s':St} {r:Ex×St} (h:codeW M fid N C c s=some (.nrm,s')) (hl:loopH M fid N C c s'=some r):loopH M fid N C c s=some r:=loopW_next h hl
theorem loopH_end {c:Code} {s s':St} {e:Ex} (h:codeW M fid N C c s=some (e,s')) (he:e≠.nrm):loopH M fid N C c s=some (e,s'):=loopW_end h he
end
end Go.Am
namespace Go.Am
open Go
def ld1 (h:Heap) (p:AV):Option AV:=(rdCells h p).bind List.head?
def takeA (n:Nat) (cs:List AV):Option AV:=match Nat.ble n cs.length with
 | true=>some (.agg (cs.take n))
 | false=>none
def ldN (n:Nat) (h:Heap) (p:AV):Option AV:=(rdCells h p).bind (takeA n)
def faA (off:Nat) (p:AV):Option AV:=match p with
 | .ro cs=>some (.ro (cs.drop off))
 | .hp id o=>some (.hp id (o+off))
 | .ep id gen sz i k=>some (.ep id gen sz i (k+off))
 | _=>none
def stA (n:Nat) (h:Heap) (p v:AV):Option Heap:=
 match v.cells with
 | some cs=>
  match Nat.beq cs.length n with
  | true=>match p with
   | .hp id off=>match h[id]? with
    | some (.var false old)=>match Nat.ble (off+cs.length) old.length with
     | true=>some (h.set id (.var false (spliceAt old off cs)))
     | false=>none
    | _=>none
   | .ep id gen sz' i k=>match h[id]? with
    | some (.arr sz false es)=>match Nat.beq es.length gen&&Nat.beq sz sz',es[i]? with
     | true,some e=>match Nat.ble (k+cs.length) e.length with
      | true=>some (h.set id (.arr sz false (es.set i (spliceAt e k cs))))
      | false=>none
     | _,_=>none
    | _=>none
   | _=>none
  | false=>none
 | none=>none
def ixA (sz:Nat) (x ix:AV):Option AV:=
 match x,intOf ix with
 | .sl s _ es,some i=>match Nat.beq s sz&&true,inRange i es.length with
  | true,some j=>(es[j]?).map .ro
  | _,_=>none
 | .hs id gen s off len _,some i=>match Nat.beq s sz&&true,inRange i len with
  | true,some j=>some (.ep id gen s (off+j) 0)
  | _,_=>none
 | _,_=>none
def ixS (x ix:AV):Option AV:=
 match x,intOf ix with
 | .str s,some i=>match inRange i s.length with
  | some j=>(s[j]?).map fun b=> .int .u8 b.toNat
  | none=>none
 | _,_=>none
def lenSl (x:AV) (h:Heap):Option OR:=match x with
 | .nils=>some (.val (.int .i64 0) h)
 | .sl _ _ es=>some (.val (.int .i64 es.length) h)
 | .hs _ _ _ _ l _=>some (.val (.int .i64 l) h)
 | _=>none
def lenSt (x:AV) (h:Heap):Option OR:=match x with
 | .str s=>some (.val (.int .i64 s.length) h)
 | _=>none
def apX (sz byt:Nat) (s:AV) (xs:List (List AV)) (n:Nat) (h:Heap):Option (AV×Heap):=
 match szOk sz s&&Nat.blt 0 sz&&Nat.ble ((n+xs.length) * byt) 17592186044416&&Nat.ble (n+xs.length) 17592186044416&&true with
 | false=>none
 | true=>match xs with
  | []=>match s with
   | .nils=>some (s,h)
   | .sl .. => some (s,h)
   | .hs .. => some (s,h)
   | _=>none
  | _::_=>match s with
   | .nils=>some (newArr h sz xs)
   | .sl _ true es=>some (newArr h sz (es++xs))
   | .hs id gen sz0 off len ex=>match h[id]? with
    | some (.arr sz' lk es)=>match Nat.beq es.length gen&&Nat.beq sz' sz0&&Nat.ble (off+len) es.length with
     | false=>none
     | true=>match ex with
      | true=>some (newArr h sz ((es.drop off).take len++xs))
      | false=>match Nat.beq off 0&&(Nat.beq len es.length||(!lk&&Nat.blt es.length (len+xs.length))) with
       | true=>some (.hs id (len+xs.length) sz0 0 (len+xs.length) false,h.set id (.arr sz0 lk (es.take len++xs)))
       | false=>match !lk&&Nat.ble (off+len+xs.length) es.length with
        | true=>some (.hs id gen sz0 off (len+xs.length) false,h.set id (.arr sz0 lk (es.take (off+len)++xs++es.drop (off+len+xs.length))))
        | false=>none
    | _=>none
   | _=>none
def apA (sz byt:Nat) (s x:AV) (h:Heap):Option (AV×Heap):=
 match (match x with
  | .str b=>match Nat.beq sz 1 with
   | true=>some (bytesA b)
   | false=>none
  | _=>match szOk sz x with
   | true=>rdElems h x
   | false=>none),lenA s with
 | some xs,some n=>apX sz byt s xs n h
 | _,_=>none
def fillC (cells:List AV):List (Nat×Nat×AV)→Option (List AV)
 | []=>some cells
 | (off,size,v)::rest=>match v.cells with
  | some cs=>match Nat.beq cs.length size&&Nat.ble (off+cs.length) cells.length with
   | true=>fillC (spliceAt cells off cs) rest
   | false=>none
  | none=>none
def placeT (T:Ty) (t:TypeId) (i:Nat):Option (Nat×Nat):=match und T t with
 | some (.struct fs)=>(fs[i]?).map fun f=>(f.offset,siz T f.type)
 | _=>none
def isStr (d:Option TypeDesc):Bool:=match d with
 | some (.struct _)=>true
 | _=>false
theorem bd_of {T:Ty} {t:TypeId} {zero:List AV} (tr:List (Nat×Nat×Nat)) (vs:List AV) (hz:zeroC T t=some zero) (hs:isStr (und T t)=true) (hp:tr.all (fun q=>match placeT T t q.1 with
  | some (a,b)=>Nat.beq a q.2.1&&Nat.beq b q.2.2
  | none=>false)=true):buildA T t (List.zipWith (fun q v=>(q.1,v)) tr vs)=(fillC zero (List.zipWith (fun q v=>(q.2.1,q.2.2,v)) tr vs)).map .agg:=by
 unfold buildA
 cases hu:und T t with
 | none=>rw [hu] at hs;cases hs
 | some d=>
  cases d with
  | struct fs=>
   simp only [hz]
   congr 1
   have key:∀ (tr:List (Nat×Nat×Nat)) (vs cells:List AV),tr.all (fun q=>match placeT T t q.1 with
     | some (a,b)=>Nat.beq a q.2.1&&Nat.beq b q.2.2
     | none=>false)=true→fillA (fun i=>(fs[i]?).map fun f=>(f.offset,siz T f.type)) cells (List.zipWith (fun q v=>(q.1,v)) tr vs)=fillC cells (List.zipWith (fun q v=>(q.2.1,q.2.2,v)) tr vs):=by
    intro tr
    induction tr with
    | nil=>intro vs cells _;rfl
    | cons q tr ih=>
     intro vs cells hp
     cases vs with
     | nil=>rfl
     | cons v vs=>
      rw [List.all_cons,Bool.and_eq_true] at hp
      obtain ⟨h1,h2⟩:=hp
      have hpl:(fs[q.1]?).map (fun f=>(f.offset,siz T f.type))=some (q.2.1,q.2.2):=by
       unfold placeT at h1
       rw [hu] at h1
       simp only at h1
       cases hm:(fs[q.1]?).map (fun f=>(f.offset,siz T f.type)) with
       | none=>rw [hm] at h1;cases h1
       | some x=>
        rw [hm] at h1
        obtain ⟨a,b⟩:=x
        simp only [Bool.and_eq_true] at h1
        rw [Nat.eq_of_beq_eq_true h1.1,Nat.eq_of_beq_eq_true h1.2]
      simp only [List.zipWith_cons_cons,fillA,fillC,hpl]
      cases v.cells with
      | none=>rfl
      | some cs=>
       show (match cs.length.beq q.2.2&&(q.2.1+cs.length).ble cells.length with
        | true=>fillA _ (spliceAt cells q.2.1 cs) _
        | false=>none)=(match cs.length.beq q.2.2&&(q.2.1+cs.length).ble cells.length with
        | true=>fillC (spliceAt cells q.2.1 cs) _
        | false=>none)
       cases cs.length.beq q.2.2&&(q.2.1+cs.length).ble cells.length with
       | true=>exact ih _ _ h2
       | false=>rfl
   exact key tr vs zero hp
  | _=>rw [hu] at hs;cases hs
def bsA (sz:Nat) (zero:List AV) (ml:Bool) (len:Nat) (parts:List (Nat×AV)) (h:Heap):Option (AV×Heap):=
 match fillE sz (List.replicate len zero) parts with
 | some es=>match !ml&&es.all noRefs with
  | true=>some (.sl sz true es,h)
  | false=>some (newArr h sz es)
 | none=>none
def lkA (d:Option TypeDesc) (z m k:AV) (ok:Bool) (h:Heap):Option AV:=
 match (match m with | .nilm=>some [] | .hm id=>(match h[id]? with | some (.mp es)=>some es | _=>none) | _=>none) with
 | none=>none
 | some es=>match (match keyEq d k k with | some _=>findA d k es | none=>none) with
  | some r=>match ok with
   | true=>some (.tup [r.getD z,.bool r.isSome])
   | false=>some (r.getD z)
  | none=>none
def upA (d:Option TypeDesc) (m k v:AV) (h:Heap):Option Heap:=
 match m with
 | .hm id=>match h[id]? with
  | some (.mp es)=>match (match keyEq d k k with | some _=>findA d k es | none=>none) with
   | some _=>some (h.set id (.mp (setA d k v es)))
   | none=>none
  | _=>none
 | _=>none
def slA (sz:Nat) (x:AV) (lo hi mx:Option AV):Option AV:=
 match mx.isSome&&hi.isNone with
 | true=>none
 | false=>match x with
  | .nils=>match optInt 0 lo,optInt 0 hi,optInt 0 mx with
   | some 0,some 0,some 0=>some .nils
   | _,_,_=>none
  | .sl s ex es=>match Nat.beq s sz&&true,(optInt es.length hi).bind (upTo · es.length),optInt 0 lo with
   | true,some b,some l=>match upTo l b,mxOk b mx with
    | some a,true=>some (.sl s (mx.isSome||(ex&&Nat.beq b es.length)) ((es.drop a).take (b - a)))
    | _,_=>none
   | _,_,_=>none
  | .hs id gen s off len ex=>match Nat.beq s sz&&true,(optInt len hi).bind (upTo · len),optInt 0 lo with
   | true,some b,some l=>match upTo l b,mxOk b mx&&(mx.isSome || !ex||Nat.beq b len) with
    | some a,true=>some (.hs id gen s (off+a) (b - a) (mx.isSome||ex))
    | _,_=>none
   | _,_,_=>none
  | _=>none
def cvI (k:IntKind) (x:AV) (h:Heap):Option (AV×Heap):=match x with
 | .int _ n=>some (.int k (wr k n),h)
 | _=>none
def cvB (x:AV) (h:Heap):Option (AV×Heap):=match x with
 | .str s=>some (newArr h 1 (bytesA s))
 | _=>none
theorem st_of {T:Ty} {t:TypeId} {n:Nat} (h1:(T t).isSome=true) (h2:siz T t=n) (h:Heap) (p v:AV):storeA T h t p v=stA n h p v:=by
 unfold storeA stA
 unfold siz at h2
 cases ht:T t with
 | none=>rw [ht] at h1;cases h1
 | some i=>
  rw [ht] at h2
  subst h2
  cases v.cells <;> rfl
theorem lk_of {T:Ty} {t kt e:TypeId} {z:AV} (hu:und T t=some (.map kt e)) (hk:und T kt=some .string) (hz:zeroV T e=some z) (m k:AV) (ok:Bool) (h:Heap):lookupA T t m k ok h=lkA (some .string) z m k ok h:=by
 have e:∀ (x:Option (List (AV×AV))),(match x with
   | none=>none
   | some es=>match (match keyEq (some .string) k k with | some _=>findA (some .string) k es | none=>none),some z with
    | some r,some z=>(match ok with
     | true=>some (.tup [r.getD z,.bool r.isSome])
     | false=>some (r.getD z))
    | _,_=>none)=(match x with
   | none=>none
   | some es=>match (match keyEq (some .string) k k with | some _=>findA (some .string) k es | none=>none) with
    | some r=>(match ok with
     | true=>some (AV.tup [r.getD z,.bool r.isSome])
     | false=>some (r.getD z))
    | none=>none):=by
  intro x
  cases x with
  | none=>rfl
  | some es=>
   show (match (match keyEq (some .string) k k with | some _=>findA (some .string) k es | none=>none),some z with
    | some r,some z=>(match ok with
     | true=>some (.tup [r.getD z,.bool r.isSome])
     | false=>some (r.getD z))
    | _,_=>none)=(match (match keyEq (some .string) k k with | some _=>findA (some .string) k es | none=>none) with
    | some r=>(match ok with
     | true=>some (AV.tup [r.getD z,.bool r.isSome])
     | false=>some (r.getD z))
    | none=>none)
   cases keyEq (some .string) k k with
   | none=>rfl
   | some b=>cases hf:findA (some .string) k es <;> simp only [hf]
 unfold lookupA lkA
 simp only [hu,hk,hz]
 exact e _
section
variable (h:Heap) (cs:List AV) (c:AV) (n i off id gen sz k len:Nat) (ex:Bool) (es:List (List AV))
theorem rd_ro:rdCells h (.ro cs)=some cs:=rfl
theorem rd_hp:rdCells h (.hp id off)=(match h[id]? with
  | some (.var _ cs)=>some (cs.drop off)
  | _=>none):=rfl
theorem rd_ep:rdCells h (.ep id gen sz i k)=(match h[id]? with
  | some (.arr sz' _ es)=>(match Nat.beq es.length gen&&Nat.beq sz' sz with
   | true=>(es[i]?).map (·.drop k)
   | false=>none)
  | _=>none):=rfl
theorem ld1_def (p:AV):ld1 h p=(rdCells h p).bind List.head? := rfl
theorem ldN_def (p:AV):ldN n h p=(rdCells h p).bind (takeA n):=rfl
theorem faA_ro:faA off (.ro cs)=some (.ro (cs.drop off)):=rfl
theorem faA_hp:faA off (.hp id n)=some (.hp id (n+off)):=rfl
theorem faA_ep:faA off (.ep id gen sz i k)=some (.ep id gen sz i (k+off)):=rfl
theorem lenSl_nils:lenSl .nils h=some (.val (.int .i64 0) h):=rfl
theorem lenSl_sl:lenSl (.sl sz ex es) h=some (.val (.int .i64 es.length) h):=rfl
theorem lenSl_hs:lenSl (.hs id gen sz off len ex) h=some (.val (.int .i64 len) h):=rfl
theorem lenSt_str (s:List UInt8):lenSt (.str s) h=some (.val (.int .i64 s.length) h):=rfl
theorem ixA_sl (kd:IntKind) (hi:i<es.length):ixA sz (.sl sz ex es) (.int kd i)=some (.ro es[i]):=by
 simp [ixA,intOf,inRange_nat hi,nbeq.2 rfl,hi]
theorem ixA_hs (kd:IntKind) (hi:i<len):ixA sz (.hs id gen sz off len ex) (.int kd i)=some (.ep id gen sz (off+i) 0):=by
 simp [ixA,intOf,inRange_nat hi,nbeq.2 rfl]
theorem ixS_str (kd:IntKind) (s:List UInt8) (hi:i<s.length):ixS (.str s) (.int kd i)=some (.int .u8 s[i].toNat):=by
 simp [ixS,intOf,inRange_nat hi,hi]
end
section
variable (cs:List AV) (k:IntKind) (n:Int) (id off gen sz i j len f:Nat) (ex b:Bool) (es:List (List AV)) (s:List UInt8) (fs:List AV) (v:AV)
theorem cells_int:AV.cells (.int k n)=some [.int k n]:=rfl
theorem cells_bool:AV.cells (.bool b)=some [.bool b]:=rfl
theorem cells_str:AV.cells (.str s)=some [.str s]:=rfl
theorem cells_nilp:AV.cells .nilp=some [.nilp]:=rfl
theorem cells_ro:AV.cells (.ro cs)=some [.ro cs]:=rfl
theorem cells_hp:AV.cells (.hp id off)=some [.hp id off]:=rfl
theorem cells_ep:AV.cells (.ep id gen sz i j)=some [.ep id gen sz i j]:=rfl
theorem cells_nils:AV.cells .nils=some [.nils]:=rfl
theorem cells_sl:AV.cells (.sl sz ex es)=some [.sl sz ex es]:=rfl
theorem cells_hs:AV.cells (.hs id gen sz off len ex)=some [.hs id gen sz off len ex]:=rfl
theorem cells_nilm:AV.cells .nilm=some [.nilm]:=rfl
theorem cells_hm:AV.cells (.hm id)=some [.hm id]:=rfl
theorem cells_fn:AV.cells (.fn f fs cs)=some [.fn f fs cs]:=rfl
theorem cells_nilf:AV.cells .nilf=some [.nilf]:=rfl
theorem cells_agg:AV.cells (.agg cs)=some cs:=rfl
end
def noCh:Kd→Bool
 | .ch _=>false
 | _=>true
theorem okDraw_ld {ops:Array Oper} {ks:List Kd} (h:ks.all noCh=true):okDraw ops ks=true:=by
 unfold okDraw
 have h1:∀ (ks:List Kd) (k:Nat),ks.all noCh=true→∀ p∈loudOf k ks,noCh p.2=true:=by
  intro ks
  induction ks with
  | nil=>intro k _ p hp;cases hp
  | cons a r ih=>
   intro k h p hp
   simp only [List.all_cons,Bool.and_eq_true] at h
   cases a with
   | st=>exact ih (k+1) h.2 p hp
   | ld id=>
    rcases List.mem_cons.1 hp with rfl | hp
    ·rfl
    ·exact ih (k+1) h.2 p hp
   | ch m=>cases h.1
 have h2:∀ (l:List (Nat×Kd)) (bef:Array Nat),(∀ p∈l,noCh p.2=true)→okPairs bef l=true:=by
  intro l
  induction l with
  | nil=>intro _ _;rfl
  | cons a r ih=>
   intro bef h
   obtain ⟨i,x⟩:=a
   simp only [okPairs,Bool.and_eq_true,List.all_eq_true]
   refine ⟨fun p hp => ?_,ih bef fun p hp=>h p (List.mem_cons_of_mem _ hp)⟩
   have hx:=h (i,x) (List.mem_cons_self ..)
   have hy:=h p (List.mem_cons_of_mem _ hp)
   obtain ⟨j,y⟩:=p
   cases x <;> cases y <;> first | rfl | (simp [noCh] at hx;done) | (simp [noCh] at hy;done)
 exact h2 _ _ (h1 ks 0 h)
section
variable {M:Par} {fid N:Nat} {C:CH} {c:Code}
theorem loop_up {β:Type} {n:Nat} (S:Nat→β→St) (I:Nat→β→Prop) (Q:Ex×St→Prop)
  (step:∀ i b,i<n→I i b→(∃ b',codeW M fid N C c (S i b)=some (.nrm,S (i+1) b')∧I (i+1) b')∨(∃ e s,codeW M fid N C c (S i b)=some (e,s)∧e≠.nrm∧Q (e,s)))
  (fin:∀ b,I n b→∃ e s,codeW M fid N C c (S n b)=some (e,s)∧e≠.nrm∧Q (e,s)) (b:β) (h0:I 0 b):∃ e s,loopH M fid N C c (S 0 b)=some (e,s)∧Q (e,s):=by
 have key:∀ k i b,i+k=n→I i b→∃ e s,loopH M fid N C c (S i b)=some (e,s)∧Q (e,s):=by
  intro k
  induction k with
  | zero=>
   intro i b hi hI
   have:i=n:=by omega
   subst this
   obtain ⟨e,s,h1,h2,h3⟩:=fin b hI
   exact ⟨e,s,loopH_end h1 h2,h3⟩
  | succ k ih=>
   intro i b hi hI
   rcases step i b (by omega) hI with ⟨b',h1,h2⟩ | ⟨e,s,h1,h2,h3⟩
   ·obtain ⟨e,s,h3,h4⟩:=ih (i+1) b' (by omega) h2
    exact ⟨e,s,loopH_next h1 h3,h4⟩
   ·exact ⟨e,s,loopH_end h1 h2,h3⟩
 exact key n 0 b (by omega) h0
theorem loop_down {β:Type} (S:β→St) (I:β→Prop) (m:β→Nat) (Q:Ex×St→Prop)
  (step:∀ b,I b→(∃ b',codeW M fid N C c (S b)=some (.nrm,S b')∧I b'∧m b'<m b)∨(∃ e s,codeW M fid N C c (S b)=some (e,s)∧e≠.nrm∧Q (e,s)))
  (b:β) (h0:I b):∃ e s,loopH M fid N C c (S b)=some (e,s)∧Q (e,s):=by
 have key:∀ k b,m b≤k→I b→∃ e s,loopH M fid N C c (S b)=some (e,s)∧Q (e,s):=by
  intro k
  induction k with
  | zero=>
   intro b hm hI
   rcases step b hI with ⟨b',h1,h2,h3⟩ | ⟨e,s,h1,h2,h3⟩
   ·omega
   ·exact ⟨e,s,loopH_end h1 h2,h3⟩
  | succ k ih=>
   intro b hm hI
   rcases step b hI with ⟨b',h1,h2,h3⟩ | ⟨e,s,h1,h2,h3⟩
   ·obtain ⟨e,s,h4,h5⟩:=ih b' (by omega) h2
    exact ⟨e,s,loopH_next h1 h4,h5⟩
   ·exact ⟨e,s,loopH_end h1 h2,h3⟩
 exact key (m b) b (Nat.le_refl _) h0
end
def SlR {α:Type} (R:α→List AV→Prop) (sz:Nat) (l:List α) (v:AV):Prop:=
 (l=[]∧v=.nils)∨∃ ex es,v=.sl sz ex es∧es.length=l.length∧∀ (i:Nat) a e,l[i]? = some a→es[i]? = some e→R a e
section
variable {α:Type} {R:α→List AV→Prop} {sz:Nat} {l:List α} {v:AV}
theorem SlR.len (hv:SlR R sz l v) (h:Heap):lenSl v h=some (.val (.int .i64 l.length) h):=by
 rcases hv with ⟨rfl,rfl⟩ | ⟨ex,es,rfl,hl,_⟩
 ·rfl
 ·simp [lenSl,hl]
theorem SlR.lenA (hv:SlR R sz l v):lenA v=some l.length:=by
 rcases hv with ⟨rfl,rfl⟩ | ⟨ex,es,rfl,hl,_⟩
 ·rfl
 ·simp [Am.lenA,hl]
theorem SlR.ix (hv:SlR R sz l v) {i:Nat} (hi:i<l.length):∃ e,(∀ kd,ixA sz v (.int kd i)=some (.ro e))∧R l[i] e:=by
 rcases hv with ⟨rfl,rfl⟩ | ⟨ex,es,rfl,hl,hr⟩
 ·simp at hi
 ·exact ⟨es[i]'(by omega),fun kd=>ixA_sl _ _ _ _ kd (by omega),hr i _ _ (List.getElem?_eq_getElem hi) (List.getElem?_eq_getElem (by omega))⟩
theorem SlR.noRef (hv:SlR R sz l v):v.noRef=true:=by
 rcases hv with ⟨rfl,rfl⟩ | ⟨ex,es,rfl,_,_⟩ <;> rfl
theorem SlR.cells (hv:SlR R sz l v):v.cells=some [v]:=by
 rcases hv with ⟨rfl,rfl⟩ | ⟨ex,es,rfl,_,_⟩ <;> rfl
theorem SlR.rd (hv:SlR R sz l v) (h:Heap):∃ es,rdElems h v=some es∧szOk sz v=true∧es.length=l.length∧∀ (i:Nat) a e,l[i]? = some a→es[i]? = some e→R a e:=by
 rcases hv with ⟨rfl,rfl⟩ | ⟨ex,es,rfl,hl,hr⟩
 ·exact ⟨[],rfl,rfl,rfl,fun i a e h=>by simp at h⟩
 ·exact ⟨es,rfl,by simp [szOk,elemSz,beq_d],hl,hr⟩
theorem SlR.mono {S:α→List AV→Prop} (hv:SlR R sz l v) (hs:∀ a e,R a e→S a e):SlR S sz l v:=by
 rcases hv with ⟨rfl,rfl⟩ | ⟨ex,es,rfl,hl,hr⟩
 ·exact .inl ⟨rfl,rfl⟩
 ·exact .inr ⟨ex,es,rfl,hl,fun i a e h1 h2=>hs _ _ (hr i a e h1 h2)⟩
end
end Go.Am
namespace Go.Am
open Go
def AccIn (sz base:Nat) (rest:Heap) (a:AV) (es:List (List AV)):Prop:=
 (es=[]∧a=.nils)∨∃ j,es≠[]∧a=.hs (base+j) es.length sz 0 es.length false∧rest[j]? = some (.arr sz false es)
theorem AccIn.nil (sz base:Nat) (rest:Heap):AccIn sz base rest .nils []:=.inl ⟨rfl,rfl⟩
theorem AccIn.grow {sz base:Nat} {rest:Heap} {a:AV} {es:List (List AV)} (h:AccIn sz base rest a es) (l:Heap):AccIn sz base (rest++l) a es:=by
 rcases h with h | ⟨j,h0,h1,h2⟩
 ·exact .inl h
 ·exact .inr ⟨j,h0,h1,by rw [List.getElem?_append_left (List.getElem?_eq_some_iff.1 h2).1];exact h2⟩
theorem AccIn.shift {sz base:Nat} {rest:Heap} {a:AV} {es:List (List AV)} (h:AccIn sz (base+1) rest a es) (b:Blk):AccIn sz base (b::rest) a es:=by
 rcases h with h | ⟨j,h0,h1,h2⟩
 ·exact .inl h
 ·exact .inr ⟨j+1,h0,by rw [h1,Nat.add_right_comm,Nat.add_assoc],by simpa using h2⟩
theorem AccIn.pushs {sz byt:Nat} {P rest:Heap} {a:AV} {es xs:List (List AV)} {x:AV} (h:AccIn sz P.length rest a es) (hx:rdElems (P++rest) x=some xs) (hs:szOk sz x=true) (hnx:∀ b,x≠.str b) (hxs:xs≠[]) (h0:0<sz) (hb:byt≤1024) (hn:es.length+xs.length<16777216) :
  ∃ a' rest',apA sz byt a x (P++rest)=some (a',P++rest')∧AccIn sz P.length rest' a' (es++xs):=by
 have hbb:(es.length+xs.length) * byt≤17592186044416:=Nat.le_trans (Nat.mul_le_mul (Nat.le_of_lt hn) hb) (by decide)
 have hap:∀ n,lenA a=some n→apA sz byt a x (P++rest)=apX sz byt a xs n (P++rest):=fun n hl=>by
  unfold apA
  cases x with
  | str b=>exact absurd rfl (hnx b)
  | _=>first | simp only [hs,hx,hl] | (simp only [rdElems] at hx;cases hx)
 obtain ⟨y,ys,rfl⟩:∃ y ys,xs=y::ys:=by cases xs with | nil=>exact absurd rfl hxs | cons y ys=>exact ⟨y,ys,rfl⟩
 rcases h with ⟨rfl,rfl⟩ | ⟨j,hne,rfl,h2⟩
 ·refine ⟨.hs (P.length+rest.length) (ys.length+1) sz 0 (ys.length+1) false,rest++[.arr sz false (y::ys)],?_,.inr ⟨rest.length,by simp,by simp,by simp⟩⟩
  rw [hap 0 rfl]
  have e1:szOk sz AV.nils=true:=rfl
  have h2:=hbb
  simp only [List.length_nil,Nat.zero_add,List.length_cons] at h2 hn
  simp [apX,e1,nblt.2 h0,nble.2 h2,nble.2 (show ys.length+1≤17592186044416 by omega),newArr]
 ·have hj:=(List.getElem?_eq_some_iff.1 h2).1
  have hg:(P++rest)[P.length+j]? = some (.arr sz false es):=by rw [List.getElem?_append_right (by omega)];simpa using h2
  refine ⟨.hs (P.length+j) (es.length+(ys.length+1)) sz 0 (es.length+(ys.length+1)) false,rest.set j (.arr sz false (es++y::ys)),?_,.inr ⟨j,by simp,by simp,by simp [hj]⟩⟩
  rw [hap es.length rfl]
  have e1:szOk sz (.hs (P.length+j) es.length sz 0 es.length false)=true:=by simp [szOk,elemSz,beq_d]
  simp only [List.length_cons] at hbb hn
  simp [apX,e1,nblt.2 h0,nble.2 hbb,nble.2 (show es.length+(ys.length+1)≤17592186044416 by omega),hg,beq_d,ble_d,List.set_append_right]
theorem AccIn.push {sz byt:Nat} {P rest:Heap} {a:AV} {es:List (List AV)} (x:List AV) (ex:Bool) (h:AccIn sz P.length rest a es) (h0:0<sz) (hb:byt≤1024) (hn:es.length<16777215) :
  ∃ a' rest',apA sz byt a (.sl sz ex [x]) (P++rest)=some (a',P++rest')∧AccIn sz P.length rest' a' (es++[x]):=
 h.pushs (xs:=[x]) rfl (by simp [szOk,elemSz,beq_d]) (fun b hb=>by cases hb) (by simp) h0 hb (by simp;omega)
theorem AccIn.noRef {sz base:Nat} {rest:Heap} {a:AV} {es:List (List AV)} (h:AccIn sz base rest a es):a.noRef=es.isEmpty:=by
 rcases h with ⟨rfl,rfl⟩ | ⟨j,h0,rfl,h2⟩
 ·rfl
 ·cases es with
  | nil=>exact absurd rfl h0
  | cons=>rfl
theorem AccIn.cells {sz base:Nat} {rest:Heap} {a:AV} {es:List (List AV)} (h:AccIn sz base rest a es):a.cells=some [a]:=by
 rcases h with ⟨rfl,rfl⟩ | ⟨j,h0,rfl,h2⟩ <;> rfl
theorem AccIn.snap {sz n:Nat} {P rest:Heap} {a:AV} {es:List (List AV)} (h:AccIn sz P.length rest a es) (hn:es.all noRefs=true) (h0:es≠[]) :
  Am.snap (n+1) a (P++rest)=some (.sl sz false es,P++(match a with | .hs id _ _ _ _ _=>rest.set (id - P.length) (.arr sz true es) | _=>rest)):=by
 rcases h with ⟨rfl,rfl⟩ | ⟨j,_,rfl,h2⟩
 ·exact absurd rfl h0
 ·have hg:(P++rest)[P.length+j]? = some (.arr sz false es):=by rw [List.getElem?_append_right (by omega)];simpa using h2
  have hb:(Nat.beq es.length es.length&&Nat.beq sz sz&&Nat.ble (0+es.length) es.length&&es.all noRefs)=true:=by simp [beq_d,ble_d,hn]
  simp only [Am.snap,hg,hb]
  simp [List.set_append_right]
theorem AccIn.rep {α:Type} {R:α→List AV→Prop} {l:List α} {es:List (List AV)} {sz:Nat} (hl:es.length=l.length) (hr:∀ (i:Nat) a e,l[i]? = some a→es[i]? = some e→R a e) (ex:Bool):SlR R sz l (.sl sz ex es):=.inr ⟨ex,es,rfl,hl,hr⟩
theorem rep_push {α:Type} {R:α→List AV→Prop} {l:List α} {es:List (List AV)} (hl:es.length=l.length) (hr:∀ (i:Nat) a e,l[i]? = some a→es[i]? = some e→R a e) {a:α} {e:List AV} (h:R a e) :
  (es++[e]).length=(l++[a]).length∧∀ (i:Nat) a' e',(l++[a])[i]? = some a'→(es++[e])[i]? = some e'→R a' e':=by
 refine ⟨by simp [hl],fun i a' e' h1 h2 => ?_⟩
 by_cases hi:i<l.length
 ·rw [List.getElem?_append_left hi] at h1
  rw [List.getElem?_append_left (by omega)] at h2
  exact hr i a' e' h1 h2
 ·rw [List.getElem?_append_right (by omega)] at h1
  rw [List.getElem?_append_right (by omega)] at h2
  rw [hl] at h2
  cases hk:i - l.length with
  | zero=>rw [hk] at h1 h2;simp at h1 h2;exact h1 ▸ h2 ▸ h
  | succ k=>rw [hk] at h1;simp at h1
theorem reps_noRefs {α:Type} {R:α→List AV→Prop} {l:List α} {es:List (List AV)} (hl:es.length=l.length) (hr:∀ (i:Nat) a e,l[i]? = some a→es[i]? = some e→R a e) (hR:∀ a e,R a e→noRefs e=true):es.all noRefs=true:=by
 rw [List.all_eq_true]
 intro e he
 obtain ⟨i,hi,rfl⟩:=List.getElem_of_mem he
 exact hR _ _ (hr i l[i] es[i] (List.getElem?_eq_getElem (by omega)) (List.getElem?_eq_getElem hi))
def kdSh:Kd→Nat
 | .st=>0
 | .ld _=>1
 | .ch _=>2
def loudS:Nat→List Nat→List (Nat×Nat)
 | _,[]=>[]
 | k,0::r=>loudS (k+1) r
 | k,x::r=>(k,x)::loudS (k+1) r
def befOf (ops:Array Oper):List (List Nat):=(Region.before ops).toList.map fun m=>(List.range ops.size).filter m.testBit
def okPairsL (L:List (List Nat)):List (Nat×Nat)→Bool
 | []=>true
 | (i,x)::r=>(r.all fun p=>decide (x+p.2<3)||(L.getD p.1 []).elem i)&&okPairsL L r
theorem okDraw_l {ops:Array Oper} {ks:List Kd} (h:okPairsL (befOf ops) (loudS 0 (ks.map kdSh))=true):okDraw ops ks=true:=by
 unfold okDraw
 have h1:∀ (ks:List Kd) (k:Nat),loudS k (ks.map kdSh)=(loudOf k ks).map fun p=>(p.1,kdSh p.2):=by
  intro ks
  induction ks with
  | nil=>intro k;rfl
  | cons a r ih=>intro k;cases a <;> simp [loudS,loudOf,kdSh,ih]
 rw [h1] at h
 have hb:∀ i j,((befOf ops).getD j []).elem i=true→((Region.before ops).getD j 0).testBit i=true:=by
  intro i j h
  unfold befOf at h
  rw [List.getD_eq_getElem?_getD,List.getElem?_map] at h
  cases hm:(Region.before ops).toList[j]? with
  | none=>rw [hm] at h;simp at h
  | some m=>
   rw [hm] at h
   simp only [Option.map_some,Option.getD_some,List.elem_eq_mem,decide_eq_true_eq,List.mem_filter] at h
   have hm':(Region.before ops)[j]? = some m:=by simpa using hm
   rw [Array.getD_eq_getD_getElem?,hm']
   exact h.2
 have h2:∀ (l:List (Nat×Kd)),okPairsL (befOf ops) (l.map fun p=>(p.1,kdSh p.2))=true→okPairs (Region.before ops) l=true:=by
  intro l
  induction l with
  | nil=>intro _;rfl
  | cons a r ih=>
   intro h
   obtain ⟨i,x⟩:=a
   simp only [List.map_cons,okPairsL,Bool.and_eq_true,List.all_eq_true,List.mem_map] at h
   simp only [okPairs,Bool.and_eq_true,List.all_eq_true]
   refine ⟨fun p hp => ?_,ih h.2⟩
   have:=h.1 (p.1,kdSh p.2) ⟨p,hp,rfl⟩
   obtain ⟨j,y⟩:=p
   simp only [Bool.or_eq_true,Bool.not_eq_true',decide_eq_true_eq] at this ⊢
   rcases this with h3 | h3
   ·left
    cases x <;> cases y <;> first | rfl | (simp [kdSh] at h3;done)
   ·right;exact hb i j h3
 exact h2 _ h
def opsAt (id:Nat):Code→Option (Array Oper)
 | .region i ops _=>match Nat.beq i id with
  | true=>some ops
  | false=>none
 | .seq a b=>match opsAt id a with
  | some o=>some o
  | none=>opsAt id b
 | .cond _ a b=>match opsAt id a with
  | some o=>some o
  | none=>opsAt id b
 | .block _ c=>opsAt id c
 | .loop c=>opsAt id c
 | _=>none
def opsF (fn:Func) (id:Nat):Array Oper:=match fn.body with
 | some c=>(opsAt id c).getD #[]
 | none => #[]
end Go.Am
namespace Go.Am
open Go
def SnapIn (K:Nat) (c:AV) (h:Heap) (c':AV) (h':Heap):Prop:=∀ n,snap (n+K) c h=some (c',h')
def SnapsIn (K:Nat) (cs:List AV) (h:Heap) (cs':List AV) (h':Heap):Prop:=∀ n,snaps (n+K) cs h=some (cs',h')
def SnapssIn (K:Nat) (es:List (List AV)) (h:Heap) (es':List (List AV)) (h':Heap):Prop:=∀ n,snapss (n+K) es h=some (es',h')
theorem SnapIn.mono {K K':Nat} {c c':AV} {h h':Heap} (s:SnapIn K c h c' h') (hk:K≤K'):SnapIn K' c h c' h':=fun n=>by
 have:=s (n+(K' - K));rwa [show n+(K' - K)+K=n+K' by omega] at this
theorem SnapsIn.mono {K K':Nat} {c c':List AV} {h h':Heap} (s:SnapsIn K c h c' h') (hk:K≤K'):SnapsIn K' c h c' h':=fun n=>by
 have:=s (n+(K' - K));rwa [show n+(K' - K)+K=n+K' by omega] at this
theorem SnapssIn.mono {K K':Nat} {c c':List (List AV)} {h h':Heap} (s:SnapssIn K c h c' h') (hk:K≤K'):SnapssIn K' c h c' h':=fun n=>by
 have:=s (n+(K' - K));rwa [show n+(K' - K)+K=n+K' by omega] at this
theorem SnapIn.at {K:Nat} {c c':AV} {h h':Heap} (s:SnapIn K c h c' h') (hk:K≤snapN):snap snapN c h=some (c',h'):=by
 have:=s (snapN - K);rwa [show snapN - K+K=snapN by omega] at this
theorem SnapsIn.nil (h:Heap):SnapsIn 1 [] h [] h:=fun _=>rfl
theorem SnapsIn.cons {K L:Nat} {c c':AV} {cs cs':List AV} {h h1 h2:Heap} (a:SnapIn K c h c' h1) (b:SnapsIn L cs h1 cs' h2):SnapsIn (max K L+1) (c::cs) h (c'::cs') h2:=fun n=>by
 have e1:=a.mono (Nat.le_max_left K L) n
 have e2:=b.mono (Nat.le_max_right K L) n
 show snaps ((n+max K L)+1) _ _=_
 simp only [snaps,e1,e2]
theorem SnapssIn.nil (h:Heap):SnapssIn 1 [] h [] h:=fun _=>rfl
theorem SnapssIn.cons {K L:Nat} {c c':List AV} {cs cs':List (List AV)} {h h1 h2:Heap} (a:SnapsIn K c h c' h1) (b:SnapssIn L cs h1 cs' h2):SnapssIn (max K L+1) (c::cs) h (c'::cs') h2:=fun n=>by
 have e1:=a.mono (Nat.le_max_left K L) n
 have e2:=b.mono (Nat.le_max_right K L) n
 show snapss ((n+max K L)+1) _ _=_
 simp only [snapss,e1,e2]
def AV.flat:AV→Bool
 | .hp .. => false
 | .ep .. => false
 | .hs .. => false
 | .hm .. => false
 | .iface .. => false
 | .agg cs=>noRefs cs
 | .tup cs=>noRefs cs
 | .fn _ fs cs=>noRefs fs&&noRefs cs
 | _=>true
theorem SnapIn.flat {c:AV} (hc:c.flat=true) (h:Heap):SnapIn 1 c h c h:=fun n=>by
 cases c <;> first | rfl | (simp only [AV.flat] at hc;simp only [snap,hc];done) | cases hc
theorem SnapIn.agg {K:Nat} {cs cs':List AV} {h h':Heap} (hn:noRefs cs=false) (s:SnapsIn K cs h cs' h'):SnapIn (K+1) (.agg cs) h (.agg cs') h':=fun n=>by
 show snap ((n+K)+1) _ _=_
 simp only [snap,hn,s n,Option.map_some]
theorem SnapIn.tup {K:Nat} {cs cs':List AV} {h h':Heap} (hn:noRefs cs=false) (s:SnapsIn K cs h cs' h'):SnapIn (K+1) (.tup cs) h (.tup cs') h':=fun n=>by
 show snap ((n+K)+1) _ _=_
 simp only [snap,hn,s n,Option.map_some]
theorem AccIn.snapIn {sz:Nat} {P rest:Heap} {a:AV} {es:List (List AV)} (h:AccIn sz P.length rest a es) (hn:es.all noRefs=true) :
  ∃ v' rest',SnapIn 1 a (P++rest) v' (P++rest')∧((es=[]∧v'=.nils)∨v'=.sl sz false es):=by
 by_cases h0:es=[]
 ·rcases h with ⟨_,rfl⟩ | ⟨_,h1,_⟩
  ·exact ⟨.nils,rest,fun n=>rfl,.inl ⟨h0,rfl⟩⟩
  ·exact absurd h0 h1
 ·exact ⟨_,_,fun n=>h.snap hn h0,.inr rfl⟩
end Go.Am
namespace Go.Proofs.Am12
open Go Go.Am
set_option maxRecDepth 10000
@[simp] theorem fn_7:MX.fn 7=some Tryz.f7:=by kernel_rfl
abbrev KK (f r:Nat) (l:List Nat):Prop:=MX.keep f r=some l
abbrev MF (f:Nat):Prop:=MX.mode f={ fresh:=true,keepTop:=false }
@[simp] theorem eff_7:MX.eff 7=none:=by kernel_rfl
@[simp] theorem keep_7a:KK 7 0 [2,3]∧KK 7 1 [2,3,22]∧KK 7 3 [2,3,25]∧KK 7 4 [4]∧KK 7 5 [2,3,5,6]∧KK 7 6 [2,3,5,6,7,8]∧KK 7 7 [2,3,5,6,7,8,9,10]∧KK 7 8 [2,3,5,6,7,8,9,10,11,12]∧KK 7 9 [2,3,5,6,7,8,9,10,11,12,13]∧KK 7 10 [2,3,5,6,7,8,9,10,11,12,13,63]∧KK 7 11 [2,3,5,6,7,8,9,10,11,12,13]∧KK 7 12 [2,3,5,6,7,8,9,10,13,97]∧KK 7 14 [2,3,5,6,7,8,9,10,13,14]∧KK 7 15 [2,3,5,6,7,8,9,10,13,14,101]:=by decide +kernel
@[simp] theorem keep_7b:KK 7 16 [2,3,5,6,7,8,9,10,13]∧KK 7 17 [2,3,5,6,7,8,9,10,13,104]∧KK 7 18 [4]∧KK 7 19 [2,3,5,6,7,8,9,10,15]∧KK 7 20 [2,3,7,8,15,155]∧KK 7 22 [2,3,7,8,157]∧KK 7 23 [4]∧KK 7 24 [2,3,7,8,16]∧KK 7 25 [2,3,7,16,179]∧KK 7 27 [2,3,7,16,17]∧KK 7 28 [2,3,7,16,17,183]∧KK 7 29 [2,3,7,16,17]∧KK 7 30 [2,3,7,16,17,210]∧KK 7 32 [2,3,7,18]:=by decide +kernel
@[simp] theorem keep_7c:KK 7 33 [3,18]∧KK 7 34 [19,20]∧KK 7 35 [4]:=by decide +kernel
@[simp] theorem fn_11:MX.fn 11=some Tryz.f11:=by kernel_rfl
@[simp] theorem eff_11:MX.eff 11=none:=by kernel_rfl
@[simp] theorem prim_11:MX.prim 11=none:=by kernel_rfl
@[simp] theorem mode_11:MF 11:=rfl
@[simp] theorem keep_11a:KK 11 0 [1]∧KK 11 1 [1,16]∧KK 11 2 [2]∧KK 11 3 [1,3]∧KK 11 4 [1,3,21]∧KK 11 5 [1,3]∧KK 11 6 [1,3,41]∧KK 11 7 [2]∧KK 11 8 [1,3,4]∧KK 11 9 [1,3,4,50]∧KK 11 10 [1,3,4]∧KK 11 11 [1,3,4,5]∧KK 11 12 [1,3,4,5,65]∧KK 11 13 [2]:=by decide +kernel
@[simp] theorem keep_11b:KK 11 14 [1,3,4,5,6]∧KK 11 15 [1,3,4,5,6,69]∧KK 11 16 [1,3,4,5,6]∧KK 11 17 [1,3,4,5,6,78]∧KK 11 18 [2]∧KK 11 19 [2]:=by decide +kernel
@[simp] theorem fn_12:MX.fn 12=some Tryz.f12:=by kernel_rfl
@[simp] theorem eff_12:MX.eff 12=none:=by kernel_rfl
@[simp] theorem prim_12:MX.prim 12=none:=by kernel_rfl
@[simp] theorem mode_12:MF 12:=rfl
@[simp] theorem keep_12a:KK 12 0 [1]∧KK 12 1 [4]∧KK 12 2 [2]:=by decide +kernel
@[simp] theorem fn_15:MX.fn 15=some Tryz.f15:=by kernel_rfl
@[simp] theorem eff_15:MX.eff 15=none:=by kernel_rfl
@[simp] theorem prim_15:MX.prim 15=none:=by kernel_rfl
@[simp] theorem mode_15:MX.mode 15 = { fresh:=true,keepTop:=true }:=rfl
@[simp] theorem mut_15:MX.mutLit 15=false:=by kernel_rfl
@[simp] theorem keep_15a:KK 15 0 [1,2]∧KK 15 1 [2]:=by decide +kernel
@[simp] theorem fn_18:MX.fn 18=some Tryz.f18:=by kernel_rfl
@[simp] theorem eff_18:MX.eff 18=none:=by kernel_rfl
@[simp] theorem prim_18:MX.prim 18=none:=by kernel_rfl
@[simp] theorem mode_18:MF 18:=rfl
@[simp] theorem keep_18a:KK 18 0 [2,3]∧KK 18 1 [2,3,26]∧KK 18 2 [4]∧KK 18 3 [2,3,5]∧KK 18 4 [2,3,5,31]∧KK 18 5 [2,3,5]∧KK 18 6 [2,3,5,45]∧KK 18 7 [4]∧KK 18 8 [4]:=by decide +kernel
@[simp] theorem fn_22:MX.fn 22=some Tryz.f22:=by kernel_rfl
@[simp] theorem eff_22:MX.eff 22=none:=by kernel_rfl
@[simp] theorem prim_22:MX.prim 22=none:=by kernel_rfl
@[simp] theorem mode_22:MF 22:=rfl
@[simp] theorem keep_22a:KK 22 0 [0,4,5]∧KK 22 1 [0,4,5,9]∧KK 22 2 [6]∧KK 22 3 [6]:=by decide +kernel
@[simp] theorem fn_23:MX.fn 23=some Tryz.f23:=by kernel_rfl
@[simp] theorem eff_23:MX.eff 23=none:=by kernel_rfl
@[simp] theorem prim_23:MX.prim 23=none:=by kernel_rfl
@[simp] theorem mode_23:MF 23:=rfl
@[simp] theorem keep_23a:KK 23 0 [0,3]∧KK 23 1 [0,3,5]∧KK 23 2 [0,3,5,9]∧KK 23 3 [0,3,5]∧KK 23 4 [0,3,5,17]∧KK 23 5 [4]∧KK 23 6 [4]:=by decide +kernel
@[simp] theorem fn_26:MX.fn 26=some Tryz.f26:=by kernel_rfl
@[simp] theorem eff_26:MX.eff 26=none:=by kernel_rfl
@[simp] theorem prim_26:MX.prim 26=none:=by kernel_rfl
@[simp] theorem mode_26:MF 26:=rfl
@[simp] theorem keep_26a:KK 26 0 [0,3]∧KK 26 1 [0,3,6]∧KK 26 2 [4]∧KK 26 3 [4]:=by decide +kernel
@[simp] theorem fn_31:MX.fn 31=some Tryz.f31:=by kernel_rfl
@[simp] theorem eff_31:MX.eff 31=none:=by kernel_rfl
@[simp] theorem prim_31:MX.prim 31=none:=by kernel_rfl
@[simp] theorem mode_31:MF 31:=rfl
@[simp] theorem mut_31:MX.mutLit 31=false:=by kernel_rfl
@[simp] theorem keep_31a:KK 31 0 [0]∧KK 31 1 [0,3]∧KK 31 2 [0,3,4]∧KK 31 3 [0,3,4,11]∧KK 31 4 [0,3,4]∧KK 31 5 [0,3,4,5]∧KK 31 6 [0,3,4,5,6]∧KK 31 7 [0,3,4,5,6,33]∧KK 31 8 [0,3,4,5,6]∧KK 31 9 [0,3,4,5,6,7]∧KK 31 10 [0,3,4,5,6]∧KK 31 11 [0,3,4]∧KK 31 12 [2]:=by decide +kernel
@[simp] theorem fn_32:MX.fn 32=some Tryz.f32:=by kernel_rfl
@[simp] theorem eff_32:MX.eff 32=none:=by kernel_rfl
@[simp] theorem prim_32:MX.prim 32=none:=by kernel_rfl
@[simp] theorem mode_32:MF 32:=rfl
@[simp] theorem keep_32a:KK 32 0 [1]∧KK 32 1 [1,4]∧KK 32 2 [1,4,13]∧KK 32 3 [2,3]∧KK 32 4 [1,18]∧KK 32 5 [2,3]∧KK 32 6 [1,22]∧KK 32 7 [2,3]∧KK 32 8 [1,5]∧KK 32 9 [1,5,27]∧KK 32 10 [1,5]∧KK 32 11 [1,5,6]∧KK 32 12 [1,5,6,41]∧KK 32 13 [2,3]:=by decide +kernel
@[simp] theorem keep_32b:KK 32 14 [2,3]:=by decide +kernel
@[simp] theorem fn_34:MX.fn 34=some Tryz.f34:=by kernel_rfl
@[simp] theorem eff_34:MX.eff 34=none:=by kernel_rfl
@[simp] theorem prim_34:MX.prim 34=none:=by kernel_rfl
@[simp] theorem mode_34:MF 34:=rfl
@[simp] theorem keep_34a:KK 34 0 [0,3]∧KK 34 1 [0,3,5]∧KK 34 2 [0,3,5,9]∧KK 34 3 [4]∧KK 34 4 [4]:=by decide +kernel
@[simp] theorem fn_35:MX.fn 35=some Tryz.f35:=by kernel_rfl
@[simp] theorem eff_35:MX.eff 35=none:=by kernel_rfl
@[simp] theorem prim_35:MX.prim 35=none:=by kernel_rfl
@[simp] theorem mode_35:MF 35:=rfl
@[simp] theorem keep_35a:KK 35 0 [0,4,5]∧KK 35 1 [0,4,5,12]∧KK 35 2 [6]∧KK 35 3 [5,7]∧KK 35 4 [5,7,18]∧KK 35 5 [6]∧KK 35 6 [8]∧KK 35 7 [8,9]∧KK 35 8 [8,9,25]∧KK 35 9 [8,9]∧KK 35 10 [8,9,35]∧KK 35 11 [6]∧KK 35 12 [6]:=by decide +kernel
@[simp] theorem fn_39:MX.fn 39=some Tryz.f39:=by kernel_rfl
@[simp] theorem eff_39:MX.eff 39=none:=by kernel_rfl
@[simp] theorem prim_39:MX.prim 39=none:=by kernel_rfl
@[simp] theorem mode_39:MF 39:=rfl
@[simp] theorem keep_39a:KK 39 0 [2,3]∧KK 39 1 [2,3,7]∧KK 39 2 [2,3,7,8]∧KK 39 3 [4]∧KK 39 4 [2,3,20]∧KK 39 5 [2,3,35]∧KK 39 6 [4]∧KK 39 7 [2,3,5]∧KK 39 8 [2,3,5,40]∧KK 39 9 [2,3,5]∧KK 39 10 [2,3,5,54]∧KK 39 11 [4]∧KK 39 12 [4]:=by decide +kernel
@[simp] theorem fn_41:MX.fn 41=some Tryz.f41:=by kernel_rfl
@[simp] theorem eff_41:MX.eff 41=none:=by kernel_rfl
@[simp] theorem prim_41:MX.prim 41=none:=by kernel_rfl
@[simp] theorem mode_41:MF 41:=rfl
@[simp] theorem keep_41a:KK 41 0 [2,3]∧KK 41 1 [2,3,6]∧KK 41 2 [2,3,6,11]∧KK 41 3 [4,5]∧KK 41 4 [4,5]:=by decide +kernel
@[simp] theorem fn_42:MX.fn 42=some Tryz.f42:=by kernel_rfl
@[simp] theorem eff_42:MX.eff 42=none:=by kernel_rfl
@[simp] theorem prim_42:MX.prim 42=none:=by kernel_rfl
@[simp] theorem mode_42:MF 42:=rfl
@[simp] theorem keep_42a:KK 42 0 [2,3]∧KK 42 1 [2,3,6]∧KK 42 2 [2,3,6,11]∧KK 42 3 [4,5]∧KK 42 4 [2,3,19]∧KK 42 5 [4,5]∧KK 42 6 [4,5]:=by decide +kernel
@[simp] theorem fn_43:MX.fn 43=some Tryz.f43:=by kernel_rfl
@[simp] theorem eff_43:MX.eff 43=none:=by kernel_rfl
@[simp] theorem prim_43:MX.prim 43=none:=by kernel_rfl
@[simp] theorem mode_43:MF 43:=rfl
@[simp] theorem keep_43a:KK 43 0 [2,3]∧KK 43 1 [2,3,6]∧KK 43 2 [2,3,6,11]∧KK 43 3 [4,5]∧KK 43 4 [4,5]:=by decide +kernel
@[simp] theorem fn_44:MX.fn 44=some Tryz.f44:=by kernel_rfl
@[simp] theorem eff_44:MX.eff 44=none:=by kernel_rfl
@[simp] theorem prim_44:MX.prim 44=none:=by kernel_rfl
@[simp] theorem mode_44:MF 44:=rfl
@[simp] theorem keep_44a:KK 44 0 [0,4,5,6]∧KK 44 1 [5,6,8]∧KK 44 2 [5,6,8,14]∧KK 44 3 [6,7]∧KK 44 4 [6,7]:=by decide +kernel
@[simp] theorem fn_45:MX.fn 45=some Tryz.f45:=by kernel_rfl
@[simp] theorem eff_45:MX.eff 45=none:=by kernel_rfl
@[simp] theorem prim_45:MX.prim 45=none:=by kernel_rfl
@[simp] theorem mode_45:MF 45:=rfl
@[simp] theorem keep_45a:KK 45 0 [2,3]∧KK 45 1 [2,3,33]∧KK 45 2 [4]∧KK 45 3 [2,3,5]∧KK 45 4 [2,3,5,38]∧KK 45 5 [2,3,5]∧KK 45 6 [2,3,5,52]∧KK 45 7 [4]∧KK 45 8 [4]:=by decide +kernel
@[simp] theorem fn_46:MX.fn 46=some Tryz.f46:=by kernel_rfl
@[simp] theorem eff_46:MX.eff 46=none:=by kernel_rfl
@[simp] theorem prim_46:MX.prim 46=none:=by kernel_rfl
@[simp] theorem mode_46:MF 46:=rfl
@[simp] theorem mut_46:MX.mutLit 46=false:=by kernel_rfl
@[simp] theorem keep_46a:KK 46 0 [1,2]∧KK 46 1 [1,2,7]∧KK 46 2 [2]∧KK 46 3 [1,2,3]∧KK 46 4 [1,2,3,4]∧KK 46 5 [1,2,3,4,18]∧KK 46 6 [1,2,3,4]∧KK 46 7 [1,2,3,4]∧KK 46 8 [2]:=by decide +kernel
@[simp] theorem fn_47:MX.fn 47=some Tryz.f47:=by kernel_rfl
@[simp] theorem eff_47:MX.eff 47=none:=by kernel_rfl
@[simp] theorem prim_47:MX.prim 47=none:=by kernel_rfl
@[simp] theorem mode_47:MF 47:=rfl
@[simp] theorem mut_47:MX.mutLit 47=false:=by kernel_rfl
@[simp] theorem keep_47a:KK 47 0 [2,3]∧KK 47 1 [2,3,9]∧KK 47 2 [4]∧KK 47 3 [2,3,5]∧KK 47 4 [2,3,5,6]∧KK 47 5 [2,3,5,6,20]∧KK 47 6 [2,3,5,6]∧KK 47 7 [2,3,5,6]∧KK 47 8 [4]:=by decide +kernel
@[simp] theorem fn_48:MX.fn 48=some Tryz.f48:=by kernel_rfl
@[simp] theorem eff_48:MX.eff 48=none:=by kernel_rfl
@[simp] theorem prim_48:MX.prim 48=none:=by kernel_rfl
@[simp] theorem mode_48:MF 48:=rfl
@[simp] theorem mut_48:MX.mutLit 48=false:=by kernel_rfl
@[simp] theorem keep_48a:KK 48 0 [1,2,4]∧KK 48 1 [1,2,4,10]∧KK 48 2 [1,2,4,5]∧KK 48 3 [1,2,4,5,14]∧KK 48 4 [1,2,4,5]∧KK 48 5 [1,2,4,5,24]∧KK 48 6 [4]∧KK 48 7 [1,2,4,6]∧KK 48 8 [1,2,4,6]∧KK 48 9 [1,2,4,6,7]∧KK 48 10 [1,2,4,6,7,37]∧KK 48 11 [1,2,4,6,7]∧KK 48 12 [1,2,4,6,7]∧KK 48 13 [4]:=by decide +kernel
@[simp] theorem fn_49:MX.fn 49=some Tryz.f49:=by kernel_rfl
@[simp] theorem eff_49:MX.eff 49=none:=by kernel_rfl
@[simp] theorem prim_49:MX.prim 49=none:=by kernel_rfl
@[simp] theorem mode_49:MF 49:=rfl
@[simp] theorem mut_49:MX.mutLit 49=false:=by kernel_rfl
@[simp] theorem keep_49a:KK 49 0 [1,2]∧KK 49 1 [1,2,3]∧KK 49 2 [1,2,3]∧KK 49 3 [1,2,3,4]∧KK 49 4 [1,2,3,4,11]∧KK 49 5 [1,2,3,4]∧KK 49 6 [1,2,3,4]∧KK 49 7 [2]:=by decide +kernel
@[simp] theorem fn_59:MX.fn 59=some Tryz.f59:=by kernel_rfl
@[simp] theorem eff_59:MX.eff 59=none:=by kernel_rfl
@[simp] theorem prim_59:MX.prim 59=none:=by kernel_rfl
@[simp] theorem mode_59:MF 59:=rfl
@[simp] theorem keep_59a:KK 59 0 [1]∧KK 59 1 [2]:=by decide +kernel
@[simp] theorem fn_62:MX.fn 62=some Tryz.f62:=by kernel_rfl
@[simp] theorem eff_62:MX.eff 62=none:=by kernel_rfl
@[simp] theorem prim_62:MX.prim 62=none:=by kernel_rfl
@[simp] theorem mode_62:MF 62:=rfl
@[simp] theorem keep_62a:KK 62 0 [0,3]∧KK 62 1 [4]:=by decide +kernel
@[simp] theorem fn_63:MX.fn 63=some Tryz.f63:=by kernel_rfl
@[simp] theorem eff_63:MX.eff 63=none:=by kernel_rfl
@[simp] theorem prim_63:MX.prim 63=none:=by kernel_rfl
@[simp] theorem mode_63:MX.mode 63 = { }:=rfl
@[simp] theorem keep_63a:KK 63 0 [1]∧KK 63 1 [4,6]∧KK 63 2 [2,3]:=by decide +kernel
@[simp] theorem fn_66:MX.fn 66=some Tryz.f66:=by kernel_rfl
@[simp] theorem eff_66:MX.eff 66=none:=by kernel_rfl
@[simp] theorem prim_66:MX.prim 66=none:=by kernel_rfl
@[simp] theorem mode_66:MF 66:=rfl
@[simp] theorem keep_66a:KK 66 0 [1]∧KK 66 1 [2]:=by decide +kernel
@[simp] theorem fn_67:MX.fn 67=some Tryz.f67:=by kernel_rfl
@[simp] theorem eff_67:MX.eff 67=none:=by kernel_rfl
@[simp] theorem prim_67:MX.prim 67=none:=by kernel_rfl
@[simp] theorem mode_67:MF 67:=rfl
@[simp] theorem keep_67a:KK 67 0 [0]∧KK 67 1 [2]:=by decide +kernel
@[simp] theorem fn_68:MX.fn 68=some Tryz.f68:=by kernel_rfl
@[simp] theorem eff_68:MX.eff 68=none:=by kernel_rfl
@[simp] theorem prim_68:MX.prim 68=none:=by kernel_rfl
@[simp] theorem mode_68:MF 68:=rfl
@[simp] theorem mut_68:MX.mutLit 68=false:=by kernel_rfl
@[simp] theorem keep_68a:KK 68 0 [0,3]∧KK 68 1 [0,3,13]∧KK 68 2 [4]∧KK 68 3 [3,5]∧KK 68 4 [3,5,6]∧KK 68 5 [3,5,6,7]∧KK 68 6 [3,5,6,7,28]∧KK 68 7 [3,5,6,7]∧KK 68 8 [3,5,6,7,8]∧KK 68 9 [3,5,6,7,8,9]∧KK 68 10 [3,5,6,7,8,9,46]∧KK 68 11 [3,5,6,7,8,9]∧KK 68 12 [3,5,6,7,8,9,10]∧KK 68 13 [3,5,6,7,8,9]:=by decide +kernel
@[simp] theorem keep_68b:KK 68 14 [3,5,6,7]∧KK 68 15 [4]:=by decide +kernel
@[simp] theorem fn_70:MX.fn 70=some Tryz.f70:=by kernel_rfl
@[simp] theorem eff_70:MX.eff 70=none:=by kernel_rfl
@[simp] theorem prim_70:MX.prim 70=none:=by kernel_rfl
@[simp] theorem mode_70:MF 70:=rfl
@[simp] theorem keep_70a:KK 70 0 [1]∧KK 70 1 [2]:=by decide +kernel
@[simp] theorem fn_71:MX.fn 71=some Tryz.f71:=by kernel_rfl
@[simp] theorem eff_71:MX.eff 71=none:=by kernel_rfl
@[simp] theorem prim_71:MX.prim 71=none:=by kernel_rfl
@[simp] theorem mode_71:MF 71:=rfl
@[simp] theorem keep_71a:KK 71 0 [0,4,5]∧KK 71 1 [0,4,5,12]∧KK 71 2 [4,5,21]∧KK 71 3 [6]∧KK 71 4 [30]∧KK 71 5 [6]∧KK 71 6 [6]∧KK 71 7 [0,5,7]∧KK 71 8 [0,5,7,8]∧KK 71 9 [0,5,7,8,39]∧KK 71 10 [6]∧KK 71 11 [0,5,7,8,42]∧KK 71 12 [6]∧KK 71 13 [0,5,7,8,52]:=by decide +kernel
@[simp] theorem keep_71b:KK 71 14 [6]∧KK 71 15 [0,5,7,8,9]∧KK 71 16 [0,5,7,8,9,57]∧KK 71 17 [0,5,7,8,9]∧KK 71 18 [0,5,7,8,9,10]∧KK 71 19 [0,5,7,8,9,10,77]∧KK 71 20 [6]∧KK 71 21 [6]:=by decide +kernel
@[simp] theorem fn_72:MX.fn 72=some Tryz.f72:=by kernel_rfl
@[simp] theorem eff_72:MX.eff 72=none:=by kernel_rfl
@[simp] theorem prim_72:MX.prim 72=none:=by kernel_rfl
@[simp] theorem mode_72:MF 72:=rfl
@[simp] theorem keep_72a:KK 72 0 [0,1]∧KK 72 1 [0,1,5]∧KK 72 2 [0,1,5,9]∧KK 72 3 [0,1,5]∧KK 72 4 [0,1,5,18]∧KK 72 5 [4]∧KK 72 6 [4]:=by decide +kernel
@[simp] theorem prim_73:MX.prim 73=none:=by kernel_rfl
@[simp] theorem mode_73:MF 73:=rfl
@[simp] theorem fn_74:MX.fn 74=some Tryz.f74:=by kernel_rfl
@[simp] theorem eff_74:MX.eff 74=none:=by kernel_rfl
@[simp] theorem prim_74:MX.prim 74=none:=by kernel_rfl
@[simp] theorem mode_74:MF 74:=rfl
@[simp] theorem keep_74a:KK 74 0 [0,3]∧KK 74 1 [0,5,6]∧KK 74 2 [0,5,6,7]∧KK 74 3 [0,5,6,7,14]∧KK 74 4 [0,5,6,7]∧KK 74 5 [0,5,6,7]∧KK 74 6 [4]:=by decide +kernel
@[simp] theorem fn_79:MX.fn 79=some Tryz.f79:=by kernel_rfl
@[simp] theorem eff_79:MX.eff 79=none:=by kernel_rfl
@[simp] theorem prim_79:MX.prim 79=none:=by kernel_rfl
@[simp] theorem mode_79:MX.mode 79 = { }:=rfl
@[simp] theorem mut_79:MX.mutLit 79=false:=by kernel_rfl
@[simp] theorem keep_79a:KK 79 0 [0,2,4]∧KK 79 1 [2,9,10]∧KK 79 2 [2,9,10]∧KK 79 3 [2,9,10,32]∧KK 79 4 [6,7,8]∧KK 79 5 [9,34,35,36]∧KK 79 6 [9,34,35,36,37]∧KK 79 7 [9,11,12,34,35,36]∧KK 79 8 [9,11,13,34,35,36]∧KK 79 9 [9,11,13,34,35,36,45]∧KK 79 10 [6,7,8]∧KK 79 11 [9,34,35,36]∧KK 79 12 [6,7,8]:=by decide +kernel
@[simp] theorem fn_80:MX.fn 80=some Tryz.f80:=by kernel_rfl
@[simp] theorem eff_80:MX.eff 80=none:=by kernel_rfl
@[simp] theorem prim_80:MX.prim 80=none:=by kernel_rfl
@[simp] theorem mode_80:MF 80:=rfl
@[simp] theorem mut_80:MX.mutLit 80=false:=by kernel_rfl
@[simp] theorem keep_80a:KK 80 0 [0]∧KK 80 1 [2]:=by decide +kernel
@[simp] theorem fn_81:MX.fn 81=some Tryz.f81:=by kernel_rfl
@[simp] theorem eff_81:MX.eff 81=none:=by kernel_rfl
@[simp] theorem prim_81:MX.prim 81=none:=by kernel_rfl
@[simp] theorem mode_81:MF 81:=rfl
@[simp] theorem mut_81:MX.mutLit 81=false:=by kernel_rfl
@[simp] theorem keep_81a:KK 81 0 [0]∧KK 81 1 [0,3]∧KK 81 2 [0,3,4]∧KK 81 3 [0,3,4,8]∧KK 81 4 [0,3,4]∧KK 81 5 [0,3,4]∧KK 81 6 [2]:=by decide +kernel
@[simp] theorem fn_82:MX.fn 82=some Tryz.f82:=by kernel_rfl
@[simp] theorem eff_82:MX.eff 82=none:=by kernel_rfl
@[simp] theorem prim_82:MX.prim 82=none:=by kernel_rfl
@[simp] theorem mode_82:MX.mode 82 = { }:=rfl
@[simp] theorem keep_82a:KK 82 0 [0,3]∧KK 82 1 [0,3,6]∧KK 82 2 [0,3,6,11]∧KK 82 3 [4,5]∧KK 82 4 [4,5]:=by decide +kernel
@[simp] theorem fn_83:MX.fn 83=some Tryz.f83:=by kernel_rfl
@[simp] theorem eff_83:MX.eff 83=none:=by kernel_rfl
@[simp] theorem prim_83:MX.prim 83=none:=by kernel_rfl
@[simp] theorem mode_83:MX.mode 83 = { }:=rfl
@[simp] theorem keep_83a:KK 83 0 [0,3]∧KK 83 1 [0,3,5]∧KK 83 2 [0,3,5,11]∧KK 83 3 [4]∧KK 83 4 [3,6]∧KK 83 5 [3,6,17]∧KK 83 6 [4]∧KK 83 7 [7]∧KK 83 8 [7]∧KK 83 9 [4]:=by decide +kernel
@[simp] theorem fn_84:MX.fn 84=some Tryz.f84:=by kernel_rfl
@[simp] theorem eff_84:MX.eff 84=none:=by kernel_rfl
@[simp] theorem prim_84:MX.prim 84=none:=by kernel_rfl
@[simp] theorem mode_84:MF 84:=rfl
@[simp] theorem keep_84a:KK 84 0 [0]∧KK 84 1 [4]∧KK 84 2 [2]:=by decide +kernel
@[simp] theorem fn_85:MX.fn 85=some Tryz.f85:=by kernel_rfl
@[simp] theorem eff_85:MX.eff 85=none:=by kernel_rfl
@[simp] theorem prim_85:MX.prim 85=none:=by kernel_rfl
@[simp] theorem mode_85:MF 85:=rfl
@[simp] theorem keep_85a:KK 85 0 [0,3]∧KK 85 1 [0,3,5]∧KK 85 2 [0,3,5,11]∧KK 85 3 [4]∧KK 85 4 [0,3,6]∧KK 85 5 [0,3,6,19]∧KK 85 6 [4]∧KK 85 7 [26]∧KK 85 8 [4]∧KK 85 9 [4]:=by decide +kernel
@[simp] theorem fn_86:MX.fn 86=some Tryz.f86:=by kernel_rfl
@[simp] theorem eff_86:MX.eff 86=none:=by kernel_rfl
@[simp] theorem prim_86:MX.prim 86=none:=by kernel_rfl
@[simp] theorem mode_86:MF 86:=rfl
@[simp] theorem keep_86a:KK 86 0 [1]∧KK 86 1 [2]:=by decide +kernel
@[simp] theorem fn_87:MX.fn 87=some Tryz.f87:=by kernel_rfl
@[simp] theorem eff_87:MX.eff 87=none:=by kernel_rfl
@[simp] theorem prim_87:MX.prim 87=none:=by kernel_rfl
@[simp] theorem mode_87:MF 87:=rfl
@[simp] theorem keep_87a:KK 87 0 [0,4,5]∧KK 87 1 [0,4,5,8]∧KK 87 2 [6]∧KK 87 3 [0,4,5,8,9]∧KK 87 4 [14]∧KK 87 5 [6]∧KK 87 6 [0,4,5,8,15]∧KK 87 7 [5,20]∧KK 87 8 [6]∧KK 87 9 [24]∧KK 87 10 [6]∧KK 87 11 [0,4,5,8,25]∧KK 87 12 [4,5,29]∧KK 87 13 [6]:=by decide +kernel
@[simp] theorem keep_87b:KK 87 14 [4,5,33]∧KK 87 15 [6]∧KK 87 16 [42]∧KK 87 17 [6]∧KK 87 18 [0,4,5,43]∧KK 87 19 [6]∧KK 87 20 [6]:=by decide +kernel
@[simp] theorem fn_88:MX.fn 88=some Tryz.f88:=by kernel_rfl
@[simp] theorem eff_88:MX.eff 88=none:=by kernel_rfl
@[simp] theorem prim_88:MX.prim 88=none:=by kernel_rfl
@[simp] theorem mode_88:MF 88:=rfl
@[simp] theorem mut_88:MX.mutLit 88=false:=by kernel_rfl
@[simp] theorem keep_88a:KK 88 0 [1]∧KK 88 1 [1,7]∧KK 88 2 [2]∧KK 88 3 [1,3]∧KK 88 4 [1,3,4]∧KK 88 5 [1,3,4,15]∧KK 88 6 [1,3,4]∧KK 88 7 [1,3,4]∧KK 88 8 [2]:=by decide +kernel
@[simp] theorem fn_89:MX.fn 89=some Tryz.f89:=by kernel_rfl
@[simp] theorem eff_89:MX.eff 89=none:=by kernel_rfl
@[simp] theorem prim_89:MX.prim 89=none:=by kernel_rfl
@[simp] theorem mode_89:MF 89:=rfl
@[simp] theorem keep_89a:KK 89 0 [0,1]∧KK 89 1 [0,1,5]∧KK 89 2 [0,1,5,9]∧KK 89 3 [0,1,5]∧KK 89 4 [0,1,5,17]∧KK 89 5 [4]∧KK 89 6 [4]:=by decide +kernel
@[simp] theorem fn_91:MX.fn 91=some Tryz.f91:=by kernel_rfl
@[simp] theorem eff_91:MX.eff 91=none:=by kernel_rfl
@[simp] theorem prim_91:MX.prim 91=none:=by kernel_rfl
@[simp] theorem mode_91:MF 91:=rfl
@[simp] theorem keep_91a:KK 91 0 [2,3]∧KK 91 1 [2,3,7]∧KK 91 2 [2,3,7,8]∧KK 91 3 [4]∧KK 91 4 [2,3,15]∧KK 91 5 [2,3,19,20]∧KK 91 6 [2,3,19,20,21]∧KK 91 7 [2,3,5,19,20]∧KK 91 8 [2,3,19,20,41]∧KK 91 9 [4]∧KK 91 10 [2,3,19,20]∧KK 91 11 [4]∧KK 91 12 [4]:=by decide +kernel
@[simp] theorem fn_93:MX.fn 93=some Tryz.f93:=by kernel_rfl
@[simp] theorem eff_93:MX.eff 93=none:=by kernel_rfl
@[simp] theorem prim_93:MX.prim 93=none:=by kernel_rfl
@[simp] theorem mode_93:MF 93:=rfl
@[simp] theorem keep_93a:KK 93 0 [2,3]∧KK 93 1 [2,3,6]∧KK 93 2 [2,3,6,13]∧KK 93 3 [4]∧KK 93 4 [4]:=by decide +kernel
@[simp] theorem fn_94:MX.fn 94=some Tryz.f94:=by kernel_rfl
@[simp] theorem eff_94:MX.eff 94=none:=by kernel_rfl
@[simp] theorem prim_94:MX.prim 94=none:=by kernel_rfl
@[simp] theorem mode_94:MF 94:=rfl
@[simp] theorem mut_94:MX.mutLit 94=false:=by kernel_rfl
@[simp] theorem keep_94a:KK 94 0 [2,3]∧KK 94 1 [2,3,10]∧KK 94 2 [4]∧KK 94 3 [2,3,5]∧KK 94 4 [3,5,18,19,20]∧KK 94 5 [3,5,18,19,20,21]∧KK 94 6 [3,5,6,7,18,19,20]∧KK 94 7 [3,5,18,19,20]∧KK 94 8 [3,5,18,19,20]∧KK 94 9 [4]:=by decide +kernel
@[simp] theorem fn_95:MX.fn 95=some Tryz.f95:=by kernel_rfl
@[simp] theorem eff_95:MX.eff 95=none:=by kernel_rfl
@[simp] theorem prim_95:MX.prim 95=none:=by kernel_rfl
@[simp] theorem mode_95:MF 95:=rfl
@[simp] theorem keep_95a:KK 95 0 [0,4,5]∧KK 95 1 [8]∧KK 95 2 [6]:=by decide +kernel
@[simp] theorem fn_96:MX.fn 96=some Tryz.f96:=by kernel_rfl
@[simp] theorem eff_96:MX.eff 96=none:=by kernel_rfl
@[simp] theorem prim_96:MX.prim 96=none:=by kernel_rfl
@[simp] theorem mode_96:MF 96:=rfl
@[simp] theorem mut_96:MX.mutLit 96=false:=by kernel_rfl
@[simp] theorem keep_96a:KK 96 0 [1,2]∧KK 96 1 [1,2,8]∧KK 96 2 [2]∧KK 96 3 [1,2,3]∧KK 96 4 [2,3,16,17,18]∧KK 96 5 [2,3,16,17,18,19]∧KK 96 6 [2,3,5,16,17,18]∧KK 96 7 [2,3,16,17,18]∧KK 96 8 [2,3,16,17,18]∧KK 96 9 [2]:=by decide +kernel
@[simp] theorem fn_97:MX.fn 97=some Tryz.f97:=by kernel_rfl
@[simp] theorem eff_97:MX.eff 97=none:=by kernel_rfl
@[simp] theorem prim_97:MX.prim 97=none:=by kernel_rfl
@[simp] theorem mode_97:MF 97:=rfl
@[simp] theorem keep_97a:KK 97 0 [0]∧KK 97 1 [5,6,7]∧KK 97 2 [5,6,7,8]∧KK 97 3 [4,5,6,7]∧KK 97 4 [4,5,6,7,12]∧KK 97 5 [2]∧KK 97 6 [5,6,7]∧KK 97 7 [2]:=by decide +kernel
@[simp] theorem fn_104:MX.fn 104=some Tryz.f104:=by kernel_rfl
@[simp] theorem eff_104:MX.eff 104=none:=by kernel_rfl
@[simp] theorem prim_104:MX.prim 104=none:=by kernel_rfl
@[simp] theorem mode_104:MF 104:=rfl
@[simp] theorem keep_104a:KK 104 0 [0,1,2]∧KK 104 1 [6]:=by decide +kernel
@[simp] theorem fn_110:MX.fn 110=some Tryz.f110:=by kernel_rfl
@[simp] theorem eff_110:MX.eff 110=none:=by kernel_rfl
@[simp] theorem prim_110:MX.prim 110=none:=by kernel_rfl
@[simp] theorem mode_110:MF 110:=rfl
@[simp] theorem keep_110a:KK 110 0 [1,2,3]∧KK 110 1 [1,2,3]∧KK 110 2 [1,2,3,21]∧KK 110 3 [6]∧KK 110 4 [1,2,3,7]∧KK 110 5 [1,2,3,7,30]∧KK 110 6 [1,2,3,7]∧KK 110 7 [1,2,3,7]∧KK 110 8 [6]:=by decide +kernel
@[simp] theorem fn_111:MX.fn 111=some Tryz.f111:=by kernel_rfl
@[simp] theorem eff_111:MX.eff 111=none:=by kernel_rfl
@[simp] theorem prim_111:MX.prim 111=none:=by kernel_rfl
@[simp] theorem mode_111:MF 111:=rfl
@[simp] theorem keep_111a:KK 111 0 [0,1]∧KK 111 1 [1,5]∧KK 111 2 [4]∧KK 111 3 [4]:=by decide +kernel
@[simp] theorem fn_113:MX.fn 113=some Tryz.f113:=by kernel_rfl
@[simp] theorem eff_113:MX.eff 113=none:=by kernel_rfl
@[simp] theorem prim_113:MX.prim 113=none:=by kernel_rfl
@[simp] theorem mode_113:MF 113:=rfl
@[simp] theorem keep_113a:KK 113 0 [1,2]∧KK 113 1 [1,2]∧KK 113 2 [1,2,10,11,12]∧KK 113 3 [1,2,10,11,12,13]∧KK 113 4 [1,2,3,4,10,11,12]∧KK 113 5 [1,2,10,11,12]∧KK 113 6 [1,2,10,11,12]∧KK 113 7 [2]:=by decide +kernel
@[simp] theorem fn_114:MX.fn 114=some Tryz.f114:=by kernel_rfl
@[simp] theorem eff_114:MX.eff 114=none:=by kernel_rfl
@[simp] theorem prim_114:MX.prim 114=none:=by kernel_rfl
@[simp] theorem mode_114:MF 114:=rfl
@[simp] theorem keep_114a:KK 114 0 [0,1]∧KK 114 1 [0,1,7,8]∧KK 114 2 [0,1,7,8,9]∧KK 114 3 [0,1,5,7,8]∧KK 114 4 [0,1,5,7,8,16]∧KK 114 5 [4]∧KK 114 6 [0,1,7,8]∧KK 114 7 [4]:=by decide +kernel
@[simp] theorem fn_115:MX.fn 115=some Tryz.f115:=by kernel_rfl
@[simp] theorem eff_115:MX.eff 115=none:=by kernel_rfl
@[simp] theorem prim_115:MX.prim 115=none:=by kernel_rfl
@[simp] theorem mode_115:MX.mode 115 = { fresh:=false,keepTop:=false }:=rfl
@[simp] theorem keep_115a:KK 115 0 [1,2]∧KK 115 1 [3]:=by decide +kernel
@[simp] theorem fn_116:MX.fn 116=some Tryz.f116:=by kernel_rfl
@[simp] theorem eff_116:MX.eff 116=none:=by kernel_rfl
@[simp] theorem prim_116:MX.prim 116=none:=by kernel_rfl
@[simp] theorem mode_116:MX.mode 116 = { }:=rfl
@[simp] theorem keep_116a:KK 116 0 [0]∧KK 116 1 [2]:=by decide +kernel
@[simp] theorem fn_118:MX.fn 118=some Tryz.f118:=by kernel_rfl
@[simp] theorem eff_118:MX.eff 118=none:=by kernel_rfl
@[simp] theorem prim_118:MX.prim 118=none:=by kernel_rfl
@[simp] theorem mode_118:MF 118:=rfl
@[simp] theorem keep_118a:KK 118 0 [0,1]∧KK 118 1 [0,1,5]∧KK 118 2 [0,1,5,9]∧KK 118 3 [0,1,5]∧KK 118 4 [0,1,5,18]∧KK 118 5 [4]∧KK 118 6 [4]:=by decide +kernel
@[simp] theorem fn_119:MX.fn 119=some Tryz.f119:=by kernel_rfl
@[simp] theorem eff_119:MX.eff 119=none:=by kernel_rfl
@[simp] theorem prim_119:MX.prim 119=none:=by kernel_rfl
@[simp] theorem mode_119:MF 119:=rfl
@[simp] theorem mut_119:MX.mutLit 119=false:=by kernel_rfl
@[simp] theorem keep_119a:KK 119 0 [1,2,3,6]∧KK 119 1 [1,2,3,6,12]∧KK 119 2 [1,2,3,6,7]∧KK 119 3 [1,2,3,6,7,16]∧KK 119 4 [1,2,3,6,7]∧KK 119 5 [1,2,3,6,7,25]∧KK 119 6 [6]∧KK 119 7 [1,2,3,6,8]∧KK 119 8 [1,2,3,6,8]∧KK 119 9 [1,2,3,6,8,9]∧KK 119 10 [1,2,3,6,8,9,37]∧KK 119 11 [1,2,3,6,8,9]∧KK 119 12 [1,2,3,6,8,9]∧KK 119 13 [6]:=by decide +kernel
@[simp] theorem fn_120:MX.fn 120=some Tryz.f120:=by kernel_rfl
@[simp] theorem eff_120:MX.eff 120=none:=by kernel_rfl
@[simp] theorem prim_120:MX.prim 120=none:=by kernel_rfl
@[simp] theorem mode_120:MF 120:=rfl
@[simp] theorem keep_120a:KK 120 0 [1,2,3]∧KK 120 1 [1,2,3]∧KK 120 2 [1,2,3,21]∧KK 120 3 [6]∧KK 120 4 [1,2,3,7]∧KK 120 5 [1,2,3,7,30]∧KK 120 6 [1,2,3,7]∧KK 120 7 [1,2,3,7]∧KK 120 8 [6]:=by decide +kernel
@[simp] theorem fn_121:MX.fn 121=some Tryz.f121:=by kernel_rfl
@[simp] theorem eff_121:MX.eff 121=none:=by kernel_rfl
@[simp] theorem prim_121:MX.prim 121=none:=by kernel_rfl
@[simp] theorem mode_121:MF 121:=rfl
@[simp] theorem keep_121a:KK 121 0 [0,1]∧KK 121 1 [4]:=by decide +kernel
@[simp] theorem fn_122:MX.fn 122=some Tryz.f122:=by kernel_rfl
@[simp] theorem eff_122:MX.eff 122=none:=by kernel_rfl
@[simp] theorem prim_122:MX.prim 122=none:=by kernel_rfl
@[simp] theorem mode_122:MF 122:=rfl
@[simp] theorem keep_122a:KK 122 0 [0,3]∧KK 122 1 [0,3,5]∧KK 122 2 [0,3,5,6]∧KK 122 3 [0,3,5,6,11]∧KK 122 4 [0,3,5,6]∧KK 122 5 [0,3,5,6]∧KK 122 6 [4]:=by decide +kernel
@[simp] theorem fn_142:MX.fn 142=some Tryz.f142:=by kernel_rfl
@[simp] theorem eff_142:MX.eff 142=none:=by kernel_rfl
@[simp] theorem prim_142:MX.prim 142=none:=by kernel_rfl
@[simp] theorem mode_142:MF 142:=rfl
@[simp] theorem mut_142:MX.mutLit 142=false:=by kernel_rfl
@[simp] theorem keep_142a:KK 142 0 [1,2]∧KK 142 1 [1,2,3]∧KK 142 2 [1,2,3]∧KK 142 3 [1,2,3,4]∧KK 142 4 [1,2,3,4,11]∧KK 142 5 [1,2,3,4]∧KK 142 6 [1,2,3,4]∧KK 142 7 [2]:=by decide +kernel
@[simp] theorem fn_143:MX.fn 143=some Tryz.f143:=by kernel_rfl
@[simp] theorem eff_143:MX.eff 143=none:=by kernel_rfl
@[simp] theorem prim_143:MX.prim 143=none:=by kernel_rfl
@[simp] theorem mode_143:MF 143:=rfl
@[simp] theorem keep_143a:KK 143 0 [0,3]∧KK 143 1 [7]∧KK 143 2 [4]:=by decide +kernel
@[simp] theorem fn_144:MX.fn 144=some Tryz.f144:=by kernel_rfl
@[simp] theorem eff_144:MX.eff 144=none:=by kernel_rfl
@[simp] theorem prim_144:MX.prim 144=none:=by kernel_rfl
@[simp] theorem mode_144:MX.mode 144 = { fresh:=false,keepTop:=false }:=rfl
@[simp] theorem mut_144:MX.mutLit 144=false:=by kernel_rfl
@[simp] theorem keep_144a:KK 144 0 [3,4,5]∧KK 144 1 [3,4,5,19]∧KK 144 2 [6]∧KK 144 3 [3,4,5,7]∧KK 144 4 [3,4,5,7,28]∧KK 144 5 [6]∧KK 144 6 [3,4,5,7,40]∧KK 144 7 [6]∧KK 144 8 [3,4,5,7,8]∧KK 144 9 [3,4,5,7,8,53,54,55]∧KK 144 10 [3,4,5,7,8,53,54,55,56]∧KK 144 11 [3,4,5,7,8,9,10,53,54,55]∧KK 144 12 [3,4,5,7,8,9,10,53,54,55]∧KK 144 13 [3,4,5,7,8,53,54,55]:=by decide +kernel
@[simp] theorem keep_144b:KK 144 14 [3,4,5,7,8,53,54,55]∧KK 144 15 [3,7,8,11]∧KK 144 16 [3,8,11,79,80,81]∧KK 144 17 [3,8,11,79,80,81,82]∧KK 144 18 [3,8,11,13,79,80,81]∧KK 144 19 [3,8,11,13,14,79,80,81]∧KK 144 20 [3,8,11,14,79,80,81,89,90,91]∧KK 144 21 [3,8,11,14,79,80,81,89,90,91,92]∧KK 144 22 [3,8,11,14,16,79,80,81,89,90,91]∧KK 144 23 [3,8,11,14,79,80,81,89,90,91]∧KK 144 24 [3,8,11,14,79,80,81,89,90,91]∧KK 144 25 [3,8,11,79,80,81]∧KK 144 26 [3,8,11,79,80,81]∧KK 144 27 [6]:=by decide +kernel
@[simp] theorem fn_145:MX.fn 145=some Tryz.f145:=by kernel_rfl
@[simp] theorem eff_145:MX.eff 145=none:=by kernel_rfl
@[simp] theorem prim_145:MX.prim 145=none:=by kernel_rfl
@[simp] theorem mode_145:MF 145:=rfl
@[simp] theorem mut_145:MX.mutLit 145=true:=by kernel_rfl
@[simp] theorem keep_145a:KK 145 0 [1,2]∧KK 145 1 [1,2,5]∧KK 145 2 [1,5,6]∧KK 145 3 [1,5,6,15]∧KK 145 4 [1,5,6,7]∧KK 145 5 [1,5,6,7]∧KK 145 6 [1,5,6,7]∧KK 145 7 [1,5,6,7,35]∧KK 145 8 [4]∧KK 145 9 [1,5,6,7,39,40,41]∧KK 145 10 [1,5,6,7,39,40,41,42]∧KK 145 11 [1,5,6,7,9,39,40,41]∧KK 145 12 [1,5,6,7,39,40,41]∧KK 145 13 [1,5,6,7,39,40,41]:=by decide +kernel
@[simp] theorem keep_145b:KK 145 14 [4]:=by decide +kernel
@[simp] theorem fn_146:MX.fn 146=some Tryz.f146:=by kernel_rfl
@[simp] theorem eff_146:MX.eff 146=none:=by kernel_rfl
@[simp] theorem prim_146:MX.prim 146=none:=by kernel_rfl
@[simp] theorem mode_146:MX.mode 146 = { fresh:=false,keepTop:=false }:=rfl
@[simp] theorem keep_146a:KK 146 0 [1]∧KK 146 1 [2]:=by decide +kernel
@[simp] theorem fn_147:MX.fn 147=some Tryz.f147:=by kernel_rfl
@[simp] theorem eff_147:MX.eff 147=none:=by kernel_rfl
@[simp] theorem prim_147:MX.prim 147=none:=by kernel_rfl
@[simp] theorem mode_147:MX.mode 147 = { }:=rfl
@[simp] theorem mut_147:MX.mutLit 147=false:=by kernel_rfl
@[simp] theorem keep_147a:KK 147 0 [0,3]∧KK 147 1 [0,3,5]∧KK 147 2 [0,3,5,16]∧KK 147 3 [0,3,5,16,17]∧KK 147 4 [4]∧KK 147 5 [0,3,5,16,20]∧KK 147 6 [4]∧KK 147 7 [0,3,5,16,29]∧KK 147 8 [4]∧KK 147 9 [0,3,52]∧KK 147 10 [0,3,6]∧KK 147 11 [0,3,6,59]∧KK 147 12 [4]∧KK 147 13 [0,3,6,72]:=by decide +kernel
@[simp] theorem keep_147b:KK 147 14 [4]∧KK 147 15 [0,6,74,75,76]∧KK 147 16 [0,6,74,75,76,77]∧KK 147 17 [0,6,7,8,74,75,76]∧KK 147 18 [0,6,9,74,75,76]∧KK 147 19 [0,6,9,74,75,76,95]∧KK 147 20 [4]∧KK 147 21 [0,6,74,75,76]∧KK 147 22 [4]∧KK 147 23 [4]:=by decide +kernel
@[simp] theorem fn_148:MX.fn 148=some Tryz.f148:=by kernel_rfl
@[simp] theorem eff_148:MX.eff 148=none:=by kernel_rfl
@[simp] theorem prim_148:MX.prim 148=none:=by kernel_rfl
@[simp] theorem mode_148:MX.mode 148 = { fresh:=true,keepTop:=true }:=rfl
@[simp] theorem mut_148:MX.mutLit 148=true:=by kernel_rfl
@[simp] theorem keep_148a:KK 148 0 [1]∧KK 148 1 [1,8]∧KK 148 2 [2]∧KK 148 3 [1,3]∧KK 148 4 [3,13,14,15]∧KK 148 5 [3,13,14,15,16]∧KK 148 6 [3,5,13,14,15]∧KK 148 7 [3,13,14,15]∧KK 148 8 [3,13,14,15]∧KK 148 9 [2]:=by decide +kernel
@[simp] theorem eff_149:MX.eff 149=some sortA:=by kernel_rfl
@[simp] theorem prim_149:MX.prim 149=none:=by kernel_rfl
@[simp] theorem mode_149:MX.mode 149 = { fresh:=false,keepTop:=false }:=rfl
@[simp] theorem eff_150:MX.eff 150=some compactA:=by kernel_rfl
@[simp] theorem prim_150:MX.prim 150=none:=by kernel_rfl
@[simp] theorem mode_150:MX.mode 150 = { fresh:=false,keepTop:=false }:=rfl
@[simp] theorem fn_151:MX.fn 151=some Tryz.f151:=by kernel_rfl
@[simp] theorem eff_151:MX.eff 151=none:=by kernel_rfl
@[simp] theorem prim_151:MX.prim 151=none:=by kernel_rfl
@[simp] theorem mode_151:MX.mode 151 = { fresh:=true,keepTop:=true }:=rfl
@[simp] theorem mut_151:MX.mutLit 151=false:=by kernel_rfl
@[simp] theorem keep_151a:KK 151 0 [0]∧KK 151 1 [0,4]∧KK 151 2 [2]∧KK 151 3 [2]:=by decide +kernel
@[simp] theorem fn_152:MX.fn 152=some Tryz.f152:=by kernel_rfl
@[simp] theorem eff_152:MX.eff 152=none:=by kernel_rfl
@[simp] theorem prim_152:MX.prim 152=none:=by kernel_rfl
@[simp] theorem mode_152:MF 152:=rfl
@[simp] theorem keep_152a:KK 152 0 [0]∧KK 152 1 [0,8]∧KK 152 2 [2,3]∧KK 152 3 [0,4]∧KK 152 4 [0,4,12]∧KK 152 5 [0,4]∧KK 152 6 [0,4,5]∧KK 152 7 [0,4,5,24]∧KK 152 8 [2,3]∧KK 152 9 [2,3]:=by decide +kernel
@[simp] theorem fn_153:MX.fn 153=some Tryz.f153:=by kernel_rfl
@[simp] theorem eff_153:MX.eff 153=none:=by kernel_rfl
@[simp] theorem prim_153:MX.prim 153=none:=by kernel_rfl
@[simp] theorem mode_153:MF 153:=rfl
@[simp] theorem keep_153a:KK 153 0 [0,1,5]∧KK 153 1 [0,1,5,9]∧KK 153 2 [6]∧KK 153 3 [6]:=by decide +kernel
@[simp] theorem fn_154:MX.fn 154=some Tryz.f154:=by kernel_rfl
@[simp] theorem eff_154:MX.eff 154=none:=by kernel_rfl
@[simp] theorem prim_154:MX.prim 154=none:=by kernel_rfl
@[simp] theorem mode_154:MF 154:=rfl
@[simp] theorem keep_154a:KK 154 0 [0,4,5,6]∧KK 154 1 [0,4,6,7]∧KK 154 2 [0,4,6,7,20]∧KK 154 3 [6,7]∧KK 154 4 [6]∧KK 154 5 [0,4,6,7,37]∧KK 154 6 [6,7]∧KK 154 7 [6]∧KK 154 8 [0,4,6,7,50]∧KK 154 9 [6,7]∧KK 154 10 [6]∧KK 154 11 [0,4,6,7,60]∧KK 154 12 [6,7]∧KK 154 13 [6]:=by decide +kernel
@[simp] theorem keep_154b:KK 154 14 [0,4,6,7,64]∧KK 154 15 [6]∧KK 154 16 [0,6,7,8]∧KK 154 17 [0,6,7,8,9]∧KK 154 18 [0,6,7,8,9,72]∧KK 154 19 [0,6,7,8,9]∧KK 154 20 [0,6,7,8,9,10]∧KK 154 21 [0,6,7,8,9,10,82]∧KK 154 22 [0,6,7,8,9,10]∧KK 154 23 [0,6,7,8,9,10,11]∧KK 154 24 [0,6,7,8,9,10]∧KK 154 25 [0,6,7,8,9,10,110]∧KK 154 26 [6]∧KK 154 27 [6]:=by decide +kernel
@[simp] theorem fn_155:MX.fn 155=some Tryz.f155:=by kernel_rfl
@[simp] theorem eff_155:MX.eff 155=none:=by kernel_rfl
@[simp] theorem prim_155:MX.prim 155=none:=by kernel_rfl
@[simp] theorem mode_155:MF 155:=rfl
@[simp] theorem keep_155a:KK 155 0 [0]∧KK 155 1 [2]:=by decide +kernel
@[simp] theorem fn_156:MX.fn 156=some Tryz.f156:=by kernel_rfl
@[simp] theorem eff_156:MX.eff 156=none:=by kernel_rfl
@[simp] theorem prim_156:MX.prim 156=none:=by kernel_rfl
@[simp] theorem mode_156:MF 156:=rfl
@[simp] theorem keep_156a:KK 156 0 [1,2,3]∧KK 156 1 [1,2,3]∧KK 156 2 [1,2,3,21]∧KK 156 3 [6]∧KK 156 4 [1,2,3,7]∧KK 156 5 [1,2,3,7,30]∧KK 156 6 [1,2,3,7]∧KK 156 7 [1,2,3,7]∧KK 156 8 [6]:=by decide +kernel
@[simp] theorem fn_157:MX.fn 157=some Tryz.f157:=by kernel_rfl
@[simp] theorem eff_157:MX.eff 157=none:=by kernel_rfl
@[simp] theorem prim_157:MX.prim 157=none:=by kernel_rfl
@[simp] theorem mode_157:MF 157:=rfl
@[simp] theorem keep_157a:KK 157 0 [0]∧KK 157 1 [0,13]∧KK 157 2 [2]∧KK 157 3 [0,3]∧KK 157 4 [0,3,17]∧KK 157 5 [0,3]∧KK 157 6 [0,3,4]∧KK 157 7 [0,3,4,5]∧KK 157 8 [0,3,54]∧KK 157 9 [2]∧KK 157 10 [2]:=by decide +kernel
@[simp] theorem fn_158:MX.fn 158=some Tryz.f158:=by kernel_rfl
@[simp] theorem eff_158:MX.eff 158=none:=by kernel_rfl
@[simp] theorem prim_158:MX.prim 158=none:=by kernel_rfl
@[simp] theorem mode_158:MF 158:=rfl
@[simp] theorem keep_158a:KK 158 0 [0,4,5]∧KK 158 1 [0,4,5,12]∧KK 158 2 [6]∧KK 158 3 [0,5,7]∧KK 158 4 [0,5,7,8]∧KK 158 5 [0,5,7,8,21]∧KK 158 6 [6]∧KK 158 7 [0,5,7,8,31]∧KK 158 8 [6]∧KK 158 9 [0,5,7,8,9]∧KK 158 10 [0,5,7,8,9,36]∧KK 158 11 [0,5,7,8,9]∧KK 158 12 [0,5,7,8,9,10]∧KK 158 13 [0,5,7,8,9,10,56]:=by decide +kernel
@[simp] theorem keep_158b:KK 158 14 [6]∧KK 158 15 [6]:=by decide +kernel
@[simp] theorem fn_159:MX.fn 159=some Tryz.f159:=by kernel_rfl
@[simp] theorem eff_159:MX.eff 159=none:=by kernel_rfl
@[simp] theorem prim_159:MX.prim 159=none:=by kernel_rfl
@[simp] theorem mode_159:MX.mode 159 = { }:=rfl
@[simp] theorem keep_159a:KK 159 0 [0,4,5]∧KK 159 1 [5,8,10]∧KK 159 2 [5,8,10,19]∧KK 159 3 [5,8,10]∧KK 159 4 [5,8,10,23]∧KK 159 5 [8,10]∧KK 159 6 [6,7]:=by decide +kernel
@[simp] theorem fn_163:MX.fn 163=some Tryz.f163:=by kernel_rfl
@[simp] theorem eff_163:MX.eff 163=none:=by kernel_rfl
@[simp] theorem prim_163:MX.prim 163=none:=by kernel_rfl
@[simp] theorem mode_163:MX.mode 163 = { fresh:=true,keepTop:=true }:=rfl
@[simp] theorem mut_163:MX.mutLit 163=false:=by kernel_rfl
@[simp] theorem keep_163a:KK 163 0 [0]∧KK 163 1 [0,4]∧KK 163 2 [2]∧KK 163 3 [2]:=by decide +kernel
@[simp] theorem fn_174:MX.fn 174=some Tryz.f174:=by kernel_rfl
@[simp] theorem eff_174:MX.eff 174=none:=by kernel_rfl
@[simp] theorem prim_174:MX.prim 174=none:=by kernel_rfl
@[simp] theorem mode_174:MX.mode 174 = { }:=rfl
@[simp] theorem keep_174a:KK 174 0 [0,3,5]∧KK 174 1 [0,3,5,7]∧KK 174 2 [3,5,7,9]∧KK 174 3 [3,5,7,9,22]∧KK 174 4 [4,5,6]∧KK 174 5 [3,5,7,10]∧KK 174 6 [3,5,7,10,29]∧KK 174 7 [4,5,6]∧KK 174 8 [3,5,7,11]∧KK 174 9 [5,7,12,13]∧KK 174 10 [5,7,12,13,45]∧KK 174 11 [5,7,12,13]∧KK 174 12 [4,5,6]:=by decide +kernel
@[simp] theorem fn_175:MX.fn 175=some Tryz.f175:=by kernel_rfl
@[simp] theorem eff_175:MX.eff 175=none:=by kernel_rfl
@[simp] theorem prim_175:MX.prim 175=none:=by kernel_rfl
@[simp] theorem mode_175:MF 175:=rfl
@[simp] theorem keep_175a:KK 175 0 [0,1]∧KK 175 1 [0,1,7,8]∧KK 175 2 [0,1,7,8,9]∧KK 175 3 [0,1,5,7,8]∧KK 175 4 [0,1,5,7,8,16]∧KK 175 5 [4]∧KK 175 6 [0,1,7,8]∧KK 175 7 [4]:=by decide +kernel
@[simp] theorem fn_176:MX.fn 176=some Tryz.f176:=by kernel_rfl
@[simp] theorem eff_176:MX.eff 176=none:=by kernel_rfl
@[simp] theorem prim_176:MX.prim 176=none:=by kernel_rfl
@[simp] theorem mode_176:MX.mode 176 = { fresh:=false,keepTop:=false }:=rfl
@[simp] theorem keep_176a:KK 176 0 [1,2]∧KK 176 1 [3]:=by decide +kernel
@[simp] theorem fn_177:MX.fn 177=some Tryz.f177:=by kernel_rfl
@[simp] theorem eff_177:MX.eff 177=none:=by kernel_rfl
@[simp] theorem prim_177:MX.prim 177=none:=by kernel_rfl
@[simp] theorem mode_177:MX.mode 177 = { fresh:=false,keepTop:=false }:=rfl
@[simp] theorem keep_177a:KK 177 0 [1,2]∧KK 177 1 [1,2,7]∧KK 177 2 [4]∧KK 177 3 [4]:=by decide +kernel
@[simp] theorem fn_178:MX.fn 178=some Tryz.f178:=by kernel_rfl
@[simp] theorem eff_178:MX.eff 178=none:=by kernel_rfl
@[simp] theorem prim_178:MX.prim 178=none:=by kernel_rfl
@[simp] theorem mode_178:MX.mode 178 = { fresh:=false,keepTop:=false }:=rfl
@[simp] theorem keep_178a:KK 178 0 [0,1,2,3]∧KK 178 1 [4]:=by decide +kernel
@[simp] theorem fn_179:MX.fn 179=some Tryz.f179:=by kernel_rfl
@[simp] theorem eff_179:MX.eff 179=none:=by kernel_rfl
@[simp] theorem prim_179:MX.prim 179=none:=by kernel_rfl
@[simp] theorem mode_179:MX.mode 179 = { fresh:=false,keepTop:=false }:=rfl
@[simp] theorem keep_179a:KK 179 0 [0,1,3,6]∧KK 179 1 [0,1,3,6,8]∧KK 179 2 []∧KK 179 3 [0,1,3,6,15]∧KK 179 4 []:=by decide +kernel
@[simp] theorem fn_180:MX.fn 180=some Tryz.f180:=by kernel_rfl
@[simp] theorem eff_180:MX.eff 180=none:=by kernel_rfl
@[simp] theorem prim_180:MX.prim 180=none:=by kernel_rfl
@[simp] theorem mode_180:MF 180:=rfl
@[simp] theorem keep_180a:KK 180 0 [0]∧KK 180 1 [0,7,8,9]∧KK 180 2 [0,7,8,9,10]∧KK 180 3 [0,3,4,7,8,9]∧KK 180 4 [0,3,4,5,7,8,9]∧KK 180 5 [0,7,8,9,45]∧KK 180 6 [2]∧KK 180 7 [0,7,8,9]∧KK 180 8 [2]:=by decide +kernel
@[simp] theorem fn_181:MX.fn 181=some Tryz.f181:=by kernel_rfl
@[simp] theorem eff_181:MX.eff 181=none:=by kernel_rfl
@[simp] theorem prim_181:MX.prim 181=none:=by kernel_rfl
@[simp] theorem mode_181:MF 181:=rfl
@[simp] theorem keep_181a:KK 181 0 [0,1,2]∧KK 181 1 [6]:=by decide +kernel
@[simp] theorem fn_182:MX.fn 182=some Tryz.f182:=by kernel_rfl
@[simp] theorem eff_182:MX.eff 182=none:=by kernel_rfl
@[simp] theorem prim_182:MX.prim 182=none:=by kernel_rfl
@[simp] theorem mode_182:MX.mode 182 = { }:=rfl
@[simp] theorem keep_182a:KK 182 0 [0,3]∧KK 182 1 [4]:=by decide +kernel
@[simp] theorem eff_184:MX.eff 184=some bitLenA:=by kernel_rfl
@[simp] theorem prim_184:MX.prim 184=none:=by kernel_rfl
@[simp] theorem mode_184:MF 184:=rfl
@[simp] theorem fn_185:MX.fn 185=some Tryz.f185:=by kernel_rfl
@[simp] theorem eff_185:MX.eff 185=none:=by kernel_rfl
@[simp] theorem prim_185:MX.prim 185=none:=by kernel_rfl
@[simp] theorem mode_185:MF 185:=rfl
@[simp] theorem mut_185:MX.mutLit 185=false:=by kernel_rfl
@[simp] theorem keep_185a:KK 185 0 [1,2]∧KK 185 1 [1,2,12]∧KK 185 2 [4]∧KK 185 3 [1,2,32]∧KK 185 4 [4]∧KK 185 5 [1,2,42]∧KK 185 6 [4]∧KK 185 7 [1,2,46]∧KK 185 8 [4]∧KK 185 9 [1,2,5]∧KK 185 10 [1,2,5,51]∧KK 185 11 [1,2,5]∧KK 185 12 [1,2,5,60]∧KK 185 13 [4]:=by decide +kernel
@[simp] theorem keep_185b:KK 185 14 [1,2,5,70]∧KK 185 15 [4]∧KK 185 16 [1,2,6]∧KK 185 17 [1,2,6,75]∧KK 185 18 [1,2,6]∧KK 185 19 [1,2,6,7]∧KK 185 20 [1,2,6,7,86]∧KK 185 21 [4]∧KK 185 22 [1,2,6,7,111]∧KK 185 23 [4]∧KK 185 24 [1,2,6,8]∧KK 185 25 [1,2,6,8,117]∧KK 185 26 [4]∧KK 185 27 [4]:=by decide +kernel
@[simp] theorem fn_186:MX.fn 186=some Tryz.f186:=by kernel_rfl
@[simp] theorem eff_186:MX.eff 186=none:=by kernel_rfl
@[simp] theorem prim_186:MX.prim 186=none:=by kernel_rfl
@[simp] theorem mode_186:MF 186:=rfl
@[simp] theorem keep_186a:KK 186 0 [0,1,5]∧KK 186 1 [0,1,5,14]∧KK 186 2 [6]∧KK 186 3 [0,1,5,7]∧KK 186 4 [0,1,5,7,24]∧KK 186 5 [6]∧KK 186 6 [0,1,5,7,27]∧KK 186 7 [0,1,5,7,8]∧KK 186 8 [6]∧KK 186 9 [0,1,5,7,8,32]∧KK 186 10 [0,1,5,7]∧KK 186 11 [0,1,5,7,8,36]∧KK 186 12 [0,1,5,8,40]∧KK 186 13 [0,1,5,7]:=by decide +kernel
@[simp] theorem keep_186b:KK 186 14 [0,1,5,53]∧KK 186 15 [6]∧KK 186 16 [0,1,5,62]∧KK 186 17 [6]∧KK 186 18 [0,1,5,9]∧KK 186 19 [0,1,5,9,67]∧KK 186 20 [0,1,5,9]∧KK 186 21 [0,1,5,9,10]∧KK 186 22 [0,1,5,9,10,79]∧KK 186 23 [6]∧KK 186 24 [6]:=by decide +kernel
@[simp] theorem fn_187:MX.fn 187=some Tryz.f187:=by kernel_rfl
@[simp] theorem eff_187:MX.eff 187=none:=by kernel_rfl
@[simp] theorem prim_187:MX.prim 187=none:=by kernel_rfl
@[simp] theorem mode_187:MF 187:=rfl
@[simp] theorem keep_187a:KK 187 0 [2,3]∧KK 187 1 [2,3,5]∧KK 187 2 [2,3,5,6]∧KK 187 3 [2,6]∧KK 187 4 [4]:=by decide +kernel
@[simp] theorem fn_188:MX.fn 188=some Tryz.f188:=by kernel_rfl
@[simp] theorem eff_188:MX.eff 188=none:=by kernel_rfl
@[simp] theorem prim_188:MX.prim 188=none:=by kernel_rfl
@[simp] theorem mode_188:MF 188:=rfl
@[simp] theorem keep_188a:KK 188 0 [1]∧KK 188 1 [2]:=by decide +kernel
@[simp] theorem fn_189:MX.fn 189=some Tryz.f189:=by kernel_rfl
@[simp] theorem eff_189:MX.eff 189=none:=by kernel_rfl
@[simp] theorem prim_189:MX.prim 189=none:=by kernel_rfl
@[simp] theorem mode_189:MX.mode 189 = { }:=rfl
@[simp] theorem mut_189:MX.mutLit 189=false:=by kernel_rfl
@[simp] theorem keep_189a:KK 189 0 [0,3]∧KK 189 1 [0,3,11]∧KK 189 2 [4]∧KK 189 3 [0,3,5]∧KK 189 4 [0,3,5,39]∧KK 189 5 [4]∧KK 189 6 [3,6]∧KK 189 7 [3,6,7]∧KK 189 8 [3,6,7,62]∧KK 189 9 [4]∧KK 189 10 [9]∧KK 189 11 [4]:=by decide +kernel
@[simp] theorem fn_193:MX.fn 193=some Tryz.f193:=by kernel_rfl
@[simp] theorem eff_193:MX.eff 193=none:=by kernel_rfl
@[simp] theorem prim_193:MX.prim 193=none:=by kernel_rfl
@[simp] theorem mode_193:MF 193:=rfl
@[simp] theorem keep_193a:KK 193 0 [1]∧KK 193 1 [1,8]∧KK 193 2 [2,3]∧KK 193 3 [1,4,5]∧KK 193 4 [2,3]:=by decide +kernel
@[simp] theorem fn_194:MX.fn 194=some Tryz.f194:=by kernel_rfl
@[simp] theorem eff_194:MX.eff 194=none:=by kernel_rfl
@[simp] theorem prim_194:MX.prim 194=none:=by kernel_rfl
@[simp] theorem mode_194:MF 194:=rfl
@[simp] theorem keep_194a:KK 194 0 [2,3]∧KK 194 1 [2,3,5]∧KK 194 2 [2,3,5,9]∧KK 194 3 [4]∧KK 194 4 [4]:=by decide +kernel
@[simp] theorem fn_195:MX.fn 195=some Tryz.f195:=by kernel_rfl
@[simp] theorem eff_195:MX.eff 195=none:=by kernel_rfl
@[simp] theorem prim_195:MX.prim 195=none:=by kernel_rfl
@[simp] theorem mode_195:MX.mode 195 = { fresh:=false,keepTop:=false }:=rfl
@[simp] theorem mut_195:MX.mutLit 195=false:=by kernel_rfl
@[simp] theorem keep_195a:KK 195 0 [2,3,4,5]∧KK 195 1 [2,3,4,5,10]∧KK 195 2 [2,3,4,5,10,23]∧KK 195 3 [8,9]∧KK 195 4 [2,3,4,5]∧KK 195 5 [2,3,4,5,11]∧KK 195 6 [2,3,4,5,11,41]∧KK 195 7 [8,9]∧KK 195 8 [2,3,4,5,11,44]∧KK 195 9 [11,12]∧KK 195 10 [8,9]∧KK 195 11 [2,3,4,5,11,65]∧KK 195 12 [8,9]∧KK 195 13 [2,3,4,13]:=by decide +kernel
@[simp] theorem keep_195b:KK 195 14 [2,3,4,13,76,77]∧KK 195 15 [2,3,4,13,76,77,78]∧KK 195 16 [2,3,4,13,14,76,77]∧KK 195 17 [2,3,4,13,15,76,77]∧KK 195 18 [2,3,4,13,15,76,77,89,90,91]∧KK 195 19 [2,3,4,13,15,76,77,89,90,91,92]∧KK 195 20 [2,3,4,13,15,17,76,77,89,90,91]∧KK 195 21 [2,3,4,13,15,18,19,76,77,89,90,91]∧KK 195 22 [2,3,4,13,15,18,19,76,77,89,90,91,106]∧KK 195 23 [8,9]∧KK 195 24 [2,3,4,13,15,76,77,89,90,91]∧KK 195 25 [2,3,4,13,15,76,77,89,90,91]∧KK 195 26 [2,3,4,13,76,77]∧KK 195 27 [8,9]:=by decide +kernel
@[simp] theorem fn_196:MX.fn 196=some Tryz.f196:=by kernel_rfl
@[simp] theorem eff_196:MX.eff 196=none:=by kernel_rfl
@[simp] theorem prim_196:MX.prim 196=none:=by kernel_rfl
@[simp] theorem mode_196:MF 196:=rfl
@[simp] theorem keep_196a:KK 196 0 [0,1,2]∧KK 196 1 [6]:=by decide +kernel
@[simp] theorem fn_197:MX.fn 197=some Tryz.f197:=by kernel_rfl
@[simp] theorem eff_197:MX.eff 197=none:=by kernel_rfl
@[simp] theorem prim_197:MX.prim 197=none:=by kernel_rfl
@[simp] theorem mode_197:MX.mode 197 = { }:=rfl
@[simp] theorem keep_197a:KK 197 0 [0]∧KK 197 1 [0,4]∧KK 197 2 [2]∧KK 197 3 [2]:=by decide +kernel
@[simp] theorem fn_198:MX.fn 198=some Tryz.f198:=by kernel_rfl
@[simp] theorem eff_198:MX.eff 198=none:=by kernel_rfl
@[simp] theorem prim_198:MX.prim 198=none:=by kernel_rfl
@[simp] theorem mode_198:MX.mode 198 = { fresh:=false,keepTop:=false }:=rfl
@[simp] theorem keep_198a:KK 198 0 [0]∧KK 198 1 [1]:=by decide +kernel
@[simp] theorem fn_199:MX.fn 199=some Tryz.f199:=by kernel_rfl
@[simp] theorem eff_199:MX.eff 199=none:=by kernel_rfl
@[simp] theorem prim_199:MX.prim 199=none:=by kernel_rfl
@[simp] theorem mode_199:MX.mode 199 = { }:=rfl
@[simp] theorem keep_199a:KK 199 0 [0,1]∧KK 199 1 [0,1,7,8]∧KK 199 2 [0,1,7,8,9]∧KK 199 3 [0,1,5,7,8]∧KK 199 4 [0,1,5,7,8,16]∧KK 199 5 [4]∧KK 199 6 [0,1,7,8]∧KK 199 7 [4]:=by decide +kernel
@[simp] theorem fn_200:MX.fn 200=some Tryz.f200:=by kernel_rfl
@[simp] theorem eff_200:MX.eff 200=none:=by kernel_rfl
@[simp] theorem prim_200:MX.prim 200=none:=by kernel_rfl
@[simp] theorem mode_200:MX.mode 200 = { fresh:=false,keepTop:=false }:=rfl
@[simp] theorem keep_200a:KK 200 0 [1,2]∧KK 200 1 [3]:=by decide +kernel
@[simp] theorem fn_212:MX.fn 212=some Tryz.f212:=by kernel_rfl
@[simp] theorem eff_212:MX.eff 212=none:=by kernel_rfl
@[simp] theorem prim_212:MX.prim 212=none:=by kernel_rfl
@[simp] theorem mode_212:MF 212:=rfl
@[simp] theorem keep_212a:KK 212 0 [0,1]∧KK 212 1 [0,1,5]∧KK 212 2 [0,1,5,10]∧KK 212 3 [0,1,5]∧KK 212 4 [0,1,5,6]∧KK 212 5 [0,1,5,6,20]∧KK 212 6 [0,1,5,6]∧KK 212 7 [0,1,5,6,33]∧KK 212 8 [4]∧KK 212 9 [4]:=by decide +kernel
@[simp] theorem fn_213:MX.fn 213=some Tryz.f213:=by kernel_rfl
@[simp] theorem eff_213:MX.eff 213=none:=by kernel_rfl
@[simp] theorem prim_213:MX.prim 213=none:=by kernel_rfl
@[simp] theorem mode_213:MF 213:=rfl
@[simp] theorem keep_213a:KK 213 0 [2,3,4]∧KK 213 1 [2,3,4,14]∧KK 213 2 [6]∧KK 213 3 [2,3,4,7]∧KK 213 4 [2,3,4,7,19]∧KK 213 5 [2,3,4,7]∧KK 213 6 [2,3,4,7,8]∧KK 213 7 [2,3,4,7,8,30]∧KK 213 8 [6]∧KK 213 9 [2,3,4,7,8,9]∧KK 213 10 [2,3,4,7,8,9,33]∧KK 213 11 [2,3,4,7,8,9]∧KK 213 12 [2,3,4,7,8,9,44]∧KK 213 13 [6]:=by decide +kernel
@[simp] theorem keep_213b:KK 213 14 [2,3,4,7,10]∧KK 213 15 [2,3,4,7,10,52]∧KK 213 16 [6]∧KK 213 17 [6]:=by decide +kernel
@[simp] theorem fn_214:MX.fn 214=some Tryz.f214:=by kernel_rfl
@[simp] theorem eff_214:MX.eff 214=none:=by kernel_rfl
@[simp] theorem prim_214:MX.prim 214=none:=by kernel_rfl
@[simp] theorem mode_214:MX.mode 214 = { fresh:=false,keepTop:=false }:=rfl
@[simp] theorem keep_214a:KK 214 0 [1,2,3,4,5]∧KK 214 1 [1,2,3,4,5]∧KK 214 2 [1,3,4,5,17]∧KK 214 3 [7]∧KK 214 4 [1,4,20,21,22]∧KK 214 5 [1,4,20,21,22,23]∧KK 214 6 [1,4,9,20,21,22]∧KK 214 7 [1,4,20,21,22,31]∧KK 214 8 [7]∧KK 214 9 [1,4,20,21,22]∧KK 214 10 [7]:=by decide +kernel
@[simp] theorem fn_215:MX.fn 215=some Tryz.f215:=by kernel_rfl
@[simp] theorem eff_215:MX.eff 215=none:=by kernel_rfl
@[simp] theorem prim_215:MX.prim 215=none:=by kernel_rfl
@[simp] theorem mode_215:MF 215:=rfl
@[simp] theorem keep_215a:KK 215 0 [0,1]∧KK 215 1 [1,5]∧KK 215 2 [4]∧KK 215 3 [4]:=by decide +kernel
@[simp] theorem fn_216:MX.fn 216=some Tryz.f216:=by kernel_rfl
@[simp] theorem eff_216:MX.eff 216=none:=by kernel_rfl
@[simp] theorem prim_216:MX.prim 216=none:=by kernel_rfl
@[simp] theorem mode_216:MX.mode 216 = { }:=rfl
@[simp] theorem keep_216a:KK 216 0 [0]∧KK 216 1 [2]:=by decide +kernel
@[simp] theorem fn_217:MX.fn 217=some Tryz.f217:=by kernel_rfl
@[simp] theorem eff_217:MX.eff 217=none:=by kernel_rfl
@[simp] theorem prim_217:MX.prim 217=none:=by kernel_rfl
@[simp] theorem mode_217:MF 217:=rfl
@[simp] theorem keep_217a:KK 217 0 [0]∧KK 217 1 [5,6,7]∧KK 217 2 [5,6,7,8]∧KK 217 3 [4,5,6,7]∧KK 217 4 [4,5,6,7,12]∧KK 217 5 [2]∧KK 217 6 [5,6,7]∧KK 217 7 [2]:=by decide +kernel
@[simp] theorem fn_218:MX.fn 218=some Tryz.f218:=by kernel_rfl
@[simp] theorem eff_218:MX.eff 218=none:=by kernel_rfl
@[simp] theorem prim_218:MX.prim 218=none:=by kernel_rfl
@[simp] theorem mode_218:MX.mode 218 = { }:=rfl
@[simp] theorem keep_218a:KK 218 0 [0,3]∧KK 218 1 [4]:=by decide +kernel
@[simp] theorem fn_219:MX.fn 219=some Tryz.f219:=by kernel_rfl
@[simp] theorem eff_219:MX.eff 219=none:=by kernel_rfl
@[simp] theorem prim_219:MX.prim 219=none:=by kernel_rfl
@[simp] theorem mode_219:MX.mode 219 = { fresh:=false,keepTop:=false }:=rfl
@[simp] theorem keep_219a:KK 219 0 [0,1]∧KK 219 1 [1,9,10,11]∧KK 219 2 [1,9,10,11,12]∧KK 219 3 [1,6,7,9,10,11]∧KK 219 4 [1,6,8,9,10,11]∧KK 219 5 [1,6,8,9,10,11,21]∧KK 219 6 [4,5]∧KK 219 7 [1,9,10,11]∧KK 219 8 [4,5]:=by decide +kernel
@[simp] theorem fn_220:MX.fn 220=some Tryz.f220:=by kernel_rfl
@[simp] theorem eff_220:MX.eff 220=none:=by kernel_rfl
@[simp] theorem prim_220:MX.prim 220=none:=by kernel_rfl
@[simp] theorem mode_220:MX.mode 220 = { fresh:=false,keepTop:=false }:=rfl
@[simp] theorem keep_220a:KK 220 0 [0,2,4]∧KK 220 1 [5]:=by decide +kernel
@[simp] theorem fn_230:MX.fn 230=some Tryz.f230:=by kernel_rfl
@[simp] theorem eff_230:MX.eff 230=none:=by kernel_rfl
@[simp] theorem prim_230:MX.prim 230=none:=by kernel_rfl
@[simp] theorem mode_230:MX.mode 230 = { fresh:=false,keepTop:=false }:=rfl
@[simp] theorem keep_230a:KK 230 0 [0,1]∧KK 230 1 [1,9,10,11]∧KK 230 2 [1,9,10,11,12]∧KK 230 3 [1,6,7,9,10,11]∧KK 230 4 [1,6,8,9,10,11]∧KK 230 5 [1,6,8,9,10,11,21]∧KK 230 6 [4,5]∧KK 230 7 [1,9,10,11]∧KK 230 8 [4,5]:=by decide +kernel
@[simp] theorem fn_231:MX.fn 231=some Tryz.f231:=by kernel_rfl
@[simp] theorem eff_231:MX.eff 231=none:=by kernel_rfl
@[simp] theorem prim_231:MX.prim 231=none:=by kernel_rfl
@[simp] theorem mode_231:MX.mode 231 = { fresh:=false,keepTop:=false }:=rfl
@[simp] theorem mut_231:MX.mutLit 231=false:=by kernel_rfl
@[simp] theorem keep_231a:KK 231 0 [0,2,3,4,6]∧KK 231 1 [3,4,6,8]∧KK 231 2 [4,6,8]∧KK 231 3 [4,8,27,28,29]∧KK 231 4 [4,8,27,28,29,30]∧KK 231 5 [4,8,10,27,28,29]∧KK 231 6 [4,8,27,28,29]∧KK 231 7 [4,8,27,28,29]∧KK 231 8 [7]:=by decide +kernel
@[simp] theorem fn_232:MX.fn 232=some Tryz.f232:=by kernel_rfl
@[simp] theorem eff_232:MX.eff 232=none:=by kernel_rfl
@[simp] theorem prim_232:MX.prim 232=none:=by kernel_rfl
@[simp] theorem mode_232:MF 232:=rfl
@[simp] theorem mut_232:MX.mutLit 232=false:=by kernel_rfl
@[simp] theorem keep_232a:KK 232 0 [2,3,4,5]∧KK 232 1 [3,4,5,9]∧KK 232 2 [3,4,5,9,38]∧KK 232 3 [8]∧KK 232 4 [3,4,5,11]∧KK 232 5 [3,4,5,11,48]∧KK 232 6 [8]∧KK 232 7 [3,4,5]∧KK 232 8 [4,5,12]∧KK 232 9 [9]∧KK 232 10 [8]:=by decide +kernel
@[simp] theorem fn_234:MX.fn 234=some Tryz.f234:=by kernel_rfl
@[simp] theorem eff_234:MX.eff 234=none:=by kernel_rfl
@[simp] theorem prim_234:MX.prim 234=none:=by kernel_rfl
@[simp] theorem mode_234:MF 234:=rfl
@[simp] theorem keep_234a:KK 234 0 [2,3]∧KK 234 1 [2,3,5]∧KK 234 2 [2,3,5,6]∧KK 234 3 [2,6]∧KK 234 4 [4]:=by decide +kernel
@[simp] theorem fn_235:MX.fn 235=some Tryz.f235:=by kernel_rfl
@[simp] theorem eff_235:MX.eff 235=none:=by kernel_rfl
@[simp] theorem prim_235:MX.prim 235=none:=by kernel_rfl
@[simp] theorem mode_235:MF 235:=rfl
@[simp] theorem keep_235a:KK 235 0 [1]∧KK 235 1 [2]:=by decide +kernel
@[simp] theorem fn_236:MX.fn 236=some Tryz.f236:=by kernel_rfl
@[simp] theorem eff_236:MX.eff 236=none:=by kernel_rfl
@[simp] theorem prim_236:MX.prim 236=none:=by kernel_rfl
@[simp] theorem mode_236:MF 236:=rfl
@[simp] theorem keep_236a:KK 236 0 [2,3]∧KK 236 1 [2,3,5]∧KK 236 2 [2,3,5,11]∧KK 236 3 [4]∧KK 236 4 [2,3,5,11,12]∧KK 236 5 [2,3,5,19]∧KK 236 6 [4]∧KK 236 7 [2,3,5,11,20]∧KK 236 8 [2,3,5,6,7]∧KK 236 9 [2,3,5,6,29]∧KK 236 10 [2,3,5]∧KK 236 11 [2,3,5,34]∧KK 236 12 [2,3,5]∧KK 236 13 [2,3,5,38]:=by decide +kernel
@[simp] theorem keep_236b:KK 236 14 [4]∧KK 236 15 [2,3,5,42]∧KK 236 16 [2,3,48]∧KK 236 17 [4]∧KK 236 18 [2,3,57]∧KK 236 19 [4]∧KK 236 20 [9]∧KK 236 21 [4]:=by decide +kernel
@[simp] theorem fn_237:MX.fn 237=some Tryz.f237:=by kernel_rfl
@[simp] theorem eff_237:MX.eff 237=none:=by kernel_rfl
@[simp] theorem prim_237:MX.prim 237=none:=by kernel_rfl
@[simp] theorem mode_237:MX.mode 237 = { fresh:=true,keepTop:=true }:=rfl
@[simp] theorem mut_237:MX.mutLit 237=false:=by kernel_rfl
@[simp] theorem keep_237a:KK 237 0 [2,3]∧KK 237 1 [3,5,6]∧KK 237 2 [3,5,21]∧KK 237 3 [4]∧KK 237 4 [3,5,7]∧KK 237 5 [3,5,7,26,27,28]∧KK 237 6 [3,5,7,26,27,28,29]∧KK 237 7 [3,5,7,9,26,27,28]∧KK 237 8 [3,5,7,9,10,26,27,28]∧KK 237 9 [3,5,7,10,26,27,28,36,37,38]∧KK 237 10 [3,5,7,10,26,27,28,36,37,38,39]∧KK 237 11 [3,5,7,10,12,26,27,28,36,37,38]∧KK 237 12 [3,5,7,10,26,27,28,36,37,38]∧KK 237 13 [3,5,7,10,26,27,28,36,37,38]:=by decide +kernel
@[simp] theorem keep_237b:KK 237 14 [3,5,7,26,27,28]∧KK 237 15 [3,5,7,26,27,28]∧KK 237 16 [4]:=by decide +kernel
@[simp] theorem fn_238:MX.fn 238=some Tryz.f238:=by kernel_rfl
@[simp] theorem eff_238:MX.eff 238=none:=by kernel_rfl
@[simp] theorem prim_238:MX.prim 238=none:=by kernel_rfl
@[simp] theorem mode_238:MX.mode 238 = { }:=rfl
@[simp] theorem keep_238a:KK 238 0 [0]∧KK 238 1 [2]:=by decide +kernel
@[simp] theorem fn_239:MX.fn 239=some Tryz.f239:=by kernel_rfl
@[simp] theorem eff_239:MX.eff 239=none:=by kernel_rfl
@[simp] theorem prim_239:MX.prim 239=none:=by kernel_rfl
@[simp] theorem mode_239:MX.mode 239 = { }:=rfl
@[simp] theorem keep_239a:KK 239 0 [0]∧KK 239 1 [0,3]∧KK 239 2 [3,9,10,11]∧KK 239 3 [3,9,10,11,12]∧KK 239 4 [3,5,9,10,11]∧KK 239 5 [3,9,10,11]∧KK 239 6 [3,9,10,11]∧KK 239 7 [2]:=by decide +kernel
@[simp] theorem fn_246:MX.fn 246=some Tryz.f246:=by kernel_rfl
@[simp] theorem eff_246:MX.eff 246=none:=by kernel_rfl
@[simp] theorem prim_246:MX.prim 246=none:=by kernel_rfl
@[simp] theorem mode_246:MX.mode 246 = { }:=rfl
@[simp] theorem keep_246a:KK 246 0 [0,1]∧KK 246 1 [0,1,7,8]∧KK 246 2 [0,1,7,8,9]∧KK 246 3 [0,1,5,7,8]∧KK 246 4 [0,1,5,7,8,16]∧KK 246 5 [4]∧KK 246 6 [0,1,7,8]∧KK 246 7 [4]:=by decide +kernel
@[simp] theorem fn_247:MX.fn 247=some Tryz.f247:=by kernel_rfl
@[simp] theorem eff_247:MX.eff 247=none:=by kernel_rfl
@[simp] theorem prim_247:MX.prim 247=none:=by kernel_rfl
@[simp] theorem mode_247:MX.mode 247 = { fresh:=false,keepTop:=false }:=rfl
@[simp] theorem keep_247a:KK 247 0 [1,2]∧KK 247 1 [3]:=by decide +kernel
@[simp] theorem fn_252:MX.fn 252=some Tryz.f252:=by kernel_rfl
@[simp] theorem eff_252:MX.eff 252=none:=by kernel_rfl
@[simp] theorem prim_252:MX.prim 252=none:=by kernel_rfl
@[simp] theorem mode_252:MF 252:=rfl
@[simp] theorem mut_252:MX.mutLit 252=false:=by kernel_rfl
@[simp] theorem keep_252a:KK 252 0 [0,1]∧KK 252 1 [4]:=by decide +kernel
@[simp] theorem fn_253:MX.fn 253=some Tryz.f253:=by kernel_rfl
@[simp] theorem eff_253:MX.eff 253=none:=by kernel_rfl
@[simp] theorem prim_253:MX.prim 253=none:=by kernel_rfl
@[simp] theorem mode_253:MX.mode 253 = { fresh:=false,keepTop:=false }:=rfl
@[simp] theorem keep_253a:KK 253 0 [0,1]∧KK 253 1 [1,9,10,11]∧KK 253 2 [1,9,10,11,12]∧KK 253 3 [1,6,7,9,10,11]∧KK 253 4 [1,6,8,9,10,11]∧KK 253 5 [1,6,8,9,10,11,21]∧KK 253 6 [4,5]∧KK 253 7 [1,9,10,11]∧KK 253 8 [4,5]:=by decide +kernel
@[simp] theorem fn_254:MX.fn 254=some Tryz.f254:=by kernel_rfl
@[simp] theorem eff_254:MX.eff 254=none:=by kernel_rfl
@[simp] theorem prim_254:MX.prim 254=none:=by kernel_rfl
@[simp] theorem mode_254:MX.mode 254 = { fresh:=false,keepTop:=false }:=rfl
@[simp] theorem keep_254a:KK 254 0 [0,1,2]∧KK 254 1 [5]:=by decide +kernel
@[simp] theorem fn_255:MX.fn 255=some Tryz.f255:=by kernel_rfl
@[simp] theorem eff_255:MX.eff 255=none:=by kernel_rfl
@[simp] theorem prim_255:MX.prim 255=none:=by kernel_rfl
@[simp] theorem mode_255:MX.mode 255 = { fresh:=false,keepTop:=false }:=rfl
@[simp] theorem keep_255a:KK 255 0 [0,1]∧KK 255 1 [1,9,10,11]∧KK 255 2 [1,9,10,11,12]∧KK 255 3 [1,6,7,9,10,11]∧KK 255 4 [1,6,8,9,10,11]∧KK 255 5 [1,6,8,9,10,11,21]∧KK 255 6 [4,5]∧KK 255 7 [1,9,10,11]∧KK 255 8 [4,5]:=by decide +kernel
@[simp] theorem fn_256:MX.fn 256=some Tryz.f256:=by kernel_rfl
@[simp] theorem eff_256:MX.eff 256=none:=by kernel_rfl
@[simp] theorem prim_256:MX.prim 256=none:=by kernel_rfl
@[simp] theorem mode_256:MX.mode 256 = { fresh:=false,keepTop:=false }:=rfl
@[simp] theorem mut_256:MX.mutLit 256=false:=by kernel_rfl
@[simp] theorem keep_256a:KK 256 0 [2,3,5]∧KK 256 1 [2,3,5,7]∧KK 256 2 [2,3,5,7,23]∧KK 256 3 [6]∧KK 256 4 [3,5]∧KK 256 5 [3,5,8]∧KK 256 6 [10]∧KK 256 7 [6]:=by decide +kernel
@[simp] theorem fn_257:MX.fn 257=some Tryz.f257:=by kernel_rfl
@[simp] theorem eff_257:MX.eff 257=none:=by kernel_rfl
@[simp] theorem prim_257:MX.prim 257=none:=by kernel_rfl
@[simp] theorem mode_257:MX.mode 257 = { fresh:=false,keepTop:=false }:=rfl
@[simp] theorem keep_257a:KK 257 0 [0,1]∧KK 257 1 [1,9,10,11]∧KK 257 2 [1,9,10,11,12]∧KK 257 3 [1,6,7,9,10,11]∧KK 257 4 [1,6,8,9,10,11]∧KK 257 5 [1,6,8,9,10,11,21]∧KK 257 6 [4,5]∧KK 257 7 [1,9,10,11]∧KK 257 8 [4,5]:=by decide +kernel
@[simp] theorem fn_258:MX.fn 258=some Tryz.f258:=by kernel_rfl
@[simp] theorem eff_258:MX.eff 258=none:=by kernel_rfl
@[simp] theorem prim_258:MX.prim 258=none:=by kernel_rfl
@[simp] theorem mode_258:MX.mode 258 = { fresh:=false,keepTop:=false }:=rfl
@[simp] theorem mut_258:MX.mutLit 258=false:=by kernel_rfl
@[simp] theorem keep_258a:KK 258 0 [2,3,5]∧KK 258 1 [2,3,5,7]∧KK 258 2 [2,3,5,7,13]∧KK 258 3 [6]∧KK 258 4 [3,5]∧KK 258 5 [6]:=by decide +kernel
@[simp] theorem fn_259:MX.fn 259=some Tryz.f259:=by kernel_rfl
@[simp] theorem eff_259:MX.eff 259=none:=by kernel_rfl
@[simp] theorem prim_259:MX.prim 259=none:=by kernel_rfl
@[simp] theorem mode_259:MX.mode 259 = { fresh:=false,keepTop:=false }:=rfl
@[simp] theorem keep_259a:KK 259 0 [1,2,3,4,5]∧KK 259 1 [1,2,3,4,5]∧KK 259 2 [1,3,4,5,17]∧KK 259 3 [7]∧KK 259 4 [1,4,20,21,22]∧KK 259 5 [1,4,20,21,22,23]∧KK 259 6 [1,4,9,20,21,22]∧KK 259 7 [1,4,20,21,22,31]∧KK 259 8 [7]∧KK 259 9 [1,4,20,21,22]∧KK 259 10 [7]:=by decide +kernel
@[simp] theorem fn_260:MX.fn 260=some Tryz.f260:=by kernel_rfl
@[simp] theorem eff_260:MX.eff 260=none:=by kernel_rfl
@[simp] theorem prim_260:MX.prim 260=none:=by kernel_rfl
@[simp] theorem mode_260:MF 260:=rfl
@[simp] theorem keep_260a:KK 260 0 [0,1]∧KK 260 1 [4]:=by decide +kernel
@[simp] theorem fn_261:MX.fn 261=some Tryz.f261:=by kernel_rfl
@[simp] theorem eff_261:MX.eff 261=none:=by kernel_rfl
@[simp] theorem prim_261:MX.prim 261=none:=by kernel_rfl
@[simp] theorem mode_261:MF 261:=rfl
@[simp] theorem keep_261a:KK 261 0 [2,3,4]∧KK 261 1 [2,4,6]∧KK 261 2 [2,4,6,12]∧KK 261 3 [4,5]∧KK 261 4 [4,5]:=by decide +kernel
@[simp] theorem fn_262:MX.fn 262=some Tryz.f262:=by kernel_rfl
@[simp] theorem eff_262:MX.eff 262=none:=by kernel_rfl
@[simp] theorem prim_262:MX.prim 262=none:=by kernel_rfl
@[simp] theorem mode_262:MX.mode 262 = { fresh:=false,keepTop:=false }:=rfl
@[simp] theorem keep_262a:KK 262 0 [0,1]∧KK 262 1 [1,9,10,11]∧KK 262 2 [1,9,10,11,12]∧KK 262 3 [1,6,7,9,10,11]∧KK 262 4 [1,6,8,9,10,11]∧KK 262 5 [1,6,8,9,10,11,21]∧KK 262 6 [4,5]∧KK 262 7 [1,9,10,11]∧KK 262 8 [4,5]:=by decide +kernel
@[simp] theorem fn_263:MX.fn 263=some Tryz.f263:=by kernel_rfl
@[simp] theorem eff_263:MX.eff 263=none:=by kernel_rfl
@[simp] theorem prim_263:MX.prim 263=none:=by kernel_rfl
@[simp] theorem mode_263:MX.mode 263 = { fresh:=false,keepTop:=false }:=rfl
@[simp] theorem keep_263a:KK 263 0 [2,4]∧KK 263 1 [5]:=by decide +kernel
@[simp] theorem fn_264:MX.fn 264=some Tryz.f264:=by kernel_rfl
@[simp] theorem eff_264:MX.eff 264=none:=by kernel_rfl
@[simp] theorem prim_264:MX.prim 264=none:=by kernel_rfl
@[simp] theorem mode_264:MF 264:=rfl
@[simp] theorem mut_264:MX.mutLit 264=false:=by kernel_rfl
@[simp] theorem keep_264a:KK 264 0 [1,2,3,6]∧KK 264 1 [1,2,3,6,7]∧KK 264 2 [1,2,3,6,7,21]∧KK 264 3 [6]∧KK 264 4 [1,2,3,6,8]∧KK 264 5 [1,2,3,6,8]∧KK 264 6 [1,2,6,8,30,31,32]∧KK 264 7 [1,2,6,8,30,31,32,33]∧KK 264 8 [1,2,6,8,10,30,31,32]∧KK 264 9 [1,2,6,8,30,31,32]∧KK 264 10 [1,2,6,8,30,31,32]∧KK 264 11 [6]:=by decide +kernel
@[simp] theorem fn_265:MX.fn 265=some Tryz.f265:=by kernel_rfl
@[simp] theorem eff_265:MX.eff 265=none:=by kernel_rfl
@[simp] theorem prim_265:MX.prim 265=none:=by kernel_rfl
@[simp] theorem mode_265:MX.mode 265 = { }:=rfl
@[simp] theorem keep_265a:KK 265 0 [1]∧KK 265 1 [1,3]∧KK 265 2 [3,7,8,9]∧KK 265 3 [3,7,8,9,10]∧KK 265 4 [3,5,7,8,9]∧KK 265 5 [3,7,8,9]∧KK 265 6 [3,7,8,9]∧KK 265 7 [2]:=by decide +kernel
@[simp] theorem fn_268:MX.fn 268=some Tryz.f268:=by kernel_rfl
@[simp] theorem eff_268:MX.eff 268=none:=by kernel_rfl
@[simp] theorem prim_268:MX.prim 268=none:=by kernel_rfl
@[simp] theorem mode_268:MF 268:=rfl
@[simp] theorem keep_268a:KK 268 0 [0]∧KK 268 1 [0,7,8,9]∧KK 268 2 [0,7,8,9,10]∧KK 268 3 [0,3,4,7,8,9]∧KK 268 4 [0,3,4,5,7,8,9]∧KK 268 5 [0,7,8,9,45]∧KK 268 6 [2]∧KK 268 7 [0,7,8,9]∧KK 268 8 [2]:=by decide +kernel
@[simp] theorem fn_269:MX.fn 269=some Tryz.f269:=by kernel_rfl
@[simp] theorem eff_269:MX.eff 269=none:=by kernel_rfl
@[simp] theorem prim_269:MX.prim 269=none:=by kernel_rfl
@[simp] theorem mode_269:MF 269:=rfl
@[simp] theorem keep_269a:KK 269 0 [0,1]∧KK 269 1 [0,1,7,8]∧KK 269 2 [0,1,7,8,9]∧KK 269 3 [0,1,5,7,8]∧KK 269 4 [0,1,5,7,8,16]∧KK 269 5 [4]∧KK 269 6 [0,1,7,8]∧KK 269 7 [4]:=by decide +kernel
@[simp] theorem fn_270:MX.fn 270=some Tryz.f270:=by kernel_rfl
@[simp] theorem eff_270:MX.eff 270=none:=by kernel_rfl
@[simp] theorem prim_270:MX.prim 270=none:=by kernel_rfl
@[simp] theorem mode_270:MX.mode 270 = { fresh:=false,keepTop:=false }:=rfl
@[simp] theorem keep_270a:KK 270 0 [1,2]∧KK 270 1 [3]:=by decide +kernel
theorem bef_7_5:befOf (opsF Tryz.f7 5)=[[],[0],[],[0,1,2],[0,1,2,3],[0,1,2,3,4],[0,1,2,3,4],[0,1,2,3,4,5],[0,1,2,3,4,5,6,7]]:=by kernel_rfl
theorem bef_7_6:befOf (opsF Tryz.f7 6)=[[],[0],[],[0,1,2],[0,1,2,3],[0,1,2,3,4],[0,1,2,3,4],[0,1,2,3,4,5],[0,1,2,3,4,5,6,7]]:=by kernel_rfl
theorem bef_7_7:befOf (opsF Tryz.f7 7)=[[],[0],[],[0,1,2],[0,1,2,3],[0,1,2,3,4],[0,1,2,3,4],[0,1,2,3,4,5],[0,1,2,3,4,5,6,7]]:=by kernel_rfl
theorem bef_7_8:befOf (opsF Tryz.f7 8)=[[],[0],[0,1],[],[3],[],[0,1,2,3,4,5],[0,1,2,3,4,5,6],[0,1,2,3,4,5,6,7],[0,1,2,3,4,5,6,7],[],[0,1,2,3,4,5,6,7,8,10],[0,1,2,3,4,5,6,7,8,9,10,11]]:=by kernel_rfl
theorem bef_7_12:befOf (opsF Tryz.f7 12)=[[],[0],[0,1],[0,1,2],[0,1,2],[0,1,2,3,4],[0,1,2,3,4,5],[0,1,2,3,4,5,6],[0,1,2,3,4,5,6],[0,1,2,3,4,5,6,7,8],[0,1,2,3,4,5,6,7,8,9],[0,1,2,3,4,5,6,7,8,9,10],[0,1,2,3,4,5,6,7,8,9,10,11],[0,1,2,3,4,5,6,7,8,9,10,11,12],[0,1,2,3,4,5,6,7,8,9,10,11,12,13],[0,1,2,3,4,5,6,7,8,9,10,11,12,13,14],[0,1,2,3,4,5,6,7,8,9,10,11,12,13,14,15],[0,1,2,3,4,5,6,7,8,9,10,11,12,13,14,15,16],[0,1,2,3,4,5,6,7,8,9,10,11,12,13,14,15,16,17],[0,1,2,3,4,5,6,7,8,9,10,11,12,13,14,15,16,17,18],[0,1,2,3,4,5,6,7,8,9,10,11,12,13,14,15,16,17,18,19],[0,1,2,3,4,5,6,7,8,9,10,11,12,13,14,15,16,17,18,19],[0,1,2,3,4,5,6,7,8,9,10,11,12,13,14,15,16,17,18,19,21],[0,1,2,3,4,5,6,7,8,9,10,11,12,13,14,15,16,17,18,19,20,21,22],[0,1,2,3,4,5,6,7,8,9,10,11,12,13,14,15,16,17,18,19,20,21,22,23],[0,1,2,3,4,5,6,7,8,9,10,11,12,13,14,15,16,17,18,19,20,21,22,23,24],[0,1,2,3,4,5,6,7,8,9,10,11,12,13,14,15,16,17,18,19,20,21,22,23,24,25],[0,1,2,3,4,5,6,7,8,9,10,11,12,13,14,15,16,17,18,19,20,21,22,23,24,25,26]]:=by kernel_rfl
theorem bef_7_19:befOf (opsF Tryz.f7 19)=[[],[0],[0,1],[0,1,2],[],[0,1,2,3,4],[0,1,2,3,4,5]]:=by kernel_rfl
theorem bef_7_24:befOf (opsF Tryz.f7 24)=[[],[0],[0,1],[0,1,2],[],[0,1,2,3,4],[0,1,2,3,4,5]]:=by kernel_rfl
theorem bef_7_30:befOf (opsF Tryz.f7 30)=[[],[],[0,1],[0,1,2],[0,1,2,3],[],[],[5,6],[5,6,7],[5,6,7,8],[0,1,2,3,4,5,6,7,8,9],[0,1,2,3,4,5,6,7,8,9,10],[0,1,2,3,4,5,6,7,8,9,10,11],[0,1,2,3,4,5,6,7,8,9,10,11],[0,1,2,3,4,5,6,7,8,9,10,11,12,13],[0,1,2,3,4,5,6,7,8,9,10,11,12,13,14],[0,1,2,3,4,5,6,7,8,9,10,11,12,13,14,15],[0,1,2,3,4,5,6,7,8,9,10,11],[0,1,2,3,4,5,6,7,8,9,10,11],[0,1,2,3,4,5,6,7,8,9,10,11,17,18],[0,1,2,3,4,5,6,7,8,9,10,11,17,18,19],[0,1,2,3,4,5,6,7,8,9,10,11,17,18,19,20],[0,1,2,3,4,5,6,7,8,9,10,11,12,13,14,15,16,17,18,19,20,21],[0,1,2,3,4,5,6,7,8,9,10,11,12,13,14,15,16,17,18,19,20,21,22],[0,1,2,3,4,5,6,7,8,9,10,11,12,13,14,15,16,17,18,19,20,21,22,23]]:=by kernel_rfl
theorem bef_7_33:befOf (opsF Tryz.f7 33)=[[],[0],[],[2],[2,3],[2,3,4],[],[2,3,4,5,6],[0,1,2,3,4,5,6,7],[0,1,2,3,4,5,6,7,8]]:=by kernel_rfl
theorem bef_7_34:befOf (opsF Tryz.f7 34)=[[],[],[1],[0,1,2],[0,1,2,3],[0,1,2,3,4],[0,1,2,3,4],[0,1,2,3,4,5],[0,1,2,3,4,5,6,7]]:=by kernel_rfl
theorem bef_15_1:befOf (opsF Tryz.f15 1)=[[],[0],[0,1],[],[3],[],[],[6],[0,1,2,5,6,7],[0,1,2,3,4,5,6,7,8],[0,1,2,3,4,5,6,7,8,9]]:=by kernel_rfl
theorem bef_18_6:befOf (opsF Tryz.f18 6)=[[],[0],[],[0,1,2],[0,1,2,3],[],[5],[],[5,6,7],[5,6,7,8],[0,1,2,3,4,5,6,7,8,9],[0,1,2,3,4,5,6,7,8,9,10]]:=by kernel_rfl
theorem bef_23_4:befOf (opsF Tryz.f23 4)=[[],[],[0,1],[0,1,2],[],[0,1,2,3,4]]:=by kernel_rfl
theorem bef_31_5:befOf (opsF Tryz.f31 5)=[[],[],[0,1],[0,1,2],[0,1,2,3],[],[],[5,6],[5,6,7],[5,6,7,8],[5,6,7,8,9],[0,1,2,3,4,5,6,7,8,9,10],[],[0,1,2,3,4,5,6,7,8,9,10,11,12]]:=by kernel_rfl
theorem bef_31_10:befOf (opsF Tryz.f31 10)=[[],[0],[],[2],[],[4],[4,5],[2,3,4,5,6],[2,3,4,5,6,7],[0,1,2,3,4,5,6,7,8],[0,1,2,3,4,5,6,7,8,9],[0,1,2,3,4,5,6,7,8,9,10]]:=by kernel_rfl
theorem bef_32_11:befOf (opsF Tryz.f32 11)=[[],[0],[],[2],[],[4],[],[4,5,6],[4,5,6,7],[0,1,2,3,4,5,6,7,8],[0,1,2,3,4,5,6,7,8,9]]:=by kernel_rfl
theorem bef_35_10:befOf (opsF Tryz.f35 10)=[[],[],[0,1],[],[],[3,4],[3,4,5],[0,1,2,3,4,5,6]]:=by kernel_rfl
theorem bef_39_10:befOf (opsF Tryz.f39 10)=[[],[0],[],[0,1,2],[0,1,2,3],[],[5],[],[5,6,7],[5,6,7,8],[0,1,2,3,4,5,6,7,8,9],[0,1,2,3,4,5,6,7,8,9,10]]:=by kernel_rfl
theorem bef_41_4:befOf (opsF Tryz.f41 4)=[[],[0],[0,1],[0,1,2],[],[0,1,2,3,4],[0,1,2,3,4,5],[0,1,2,3,4,5,6]]:=by kernel_rfl
theorem bef_42_4:befOf (opsF Tryz.f42 4)=[[],[0],[0,1],[0,1,2],[],[0,1,2,3,4],[0,1,2,3,4,5]]:=by kernel_rfl
theorem bef_42_6:befOf (opsF Tryz.f42 6)=[[],[0],[0,1],[0,1,2],[],[0,1,2,3,4],[0,1,2,3,4,5],[0,1,2,3,4,5,6]]:=by kernel_rfl
theorem bef_45_6:befOf (opsF Tryz.f45 6)=[[],[0],[],[0,1,2],[0,1,2,3],[],[5],[],[5,6,7],[5,6,7,8],[0,1,2,3,4,5,6,7,8,9],[0,1,2,3,4,5,6,7,8,9,10]]:=by kernel_rfl
theorem bef_46_7:befOf (opsF Tryz.f46 7)=[[],[0],[],[2],[],[2,3,4],[2,3,4,5],[2,3,4,5,6],[2,3,4,5,6,7],[0,1,2,3,4,5,6,7,8],[0,1,2,3,4,5,6,7,8,9],[0,1,2,3,4,5,6,7,8,9,10]]:=by kernel_rfl
theorem bef_47_2:befOf (opsF Tryz.f47 2)=[[],[0],[],[2],[0,1,2,3],[0,1,2,3,4],[0,1,2,3,4,5]]:=by kernel_rfl
theorem bef_47_7:befOf (opsF Tryz.f47 7)=[[],[],[1],[],[1,2,3],[1,2,3,4],[],[6],[],[6,7,8],[6,7,8,9],[1,2,3,4,5,6,7,8,9,10],[0,1,2,3,4,5,6,7,8,9,10,11],[0,1,2,3,4,5,6,7,8,9,10,11,12]]:=by kernel_rfl
theorem bef_48_5:befOf (opsF Tryz.f48 5)=[[],[],[0,1],[0,1,2],[0,1,2,3],[],[5],[0,1,2,3,4,5,6]]:=by kernel_rfl
theorem bef_48_12:befOf (opsF Tryz.f48 12)=[[],[0],[],[2],[],[2,3,4],[2,3,4,5],[],[2,3,4,5,6,7],[2,3,4,5,6,7,8],[0,1,2,3,4,5,6,7,8,9],[0,1,2,3,4,5,6,7,8,9,10],[0,1,2,3,4,5,6,7,8,9,10,11]]:=by kernel_rfl
theorem bef_49_6:befOf (opsF Tryz.f49 6)=[[],[0],[],[2],[],[2,3,4],[2,3,4,5],[2,3,4,5,6],[2,3,4,5,6,7],[0,1,2,3,4,5,6,7,8],[0,1,2,3,4,5,6,7,8,9],[0,1,2,3,4,5,6,7,8,9,10]]:=by kernel_rfl
theorem bef_68_13:befOf (opsF Tryz.f68 13)=[[],[0],[],[2],[],[4],[],[6],[],[8],[4,5,6,7,8,9],[2,3,4,5,6,7,8,9,10],[2,3,4,5,6,7,8,9,10,11],[0,1,2,3,4,5,6,7,8,9,10,11,12],[0,1,2,3,4,5,6,7,8,9,10,11,12,13],[0,1,2,3,4,5,6,7,8,9,10,11,12,13,14]]:=by kernel_rfl
theorem bef_71_4:befOf (opsF Tryz.f71 4)=[[],[0],[],[2],[2,3],[2,3,4],[2,3,4,5],[0,1,2,3,4,5,6],[0,1,2,3,4,5,6,7]]:=by kernel_rfl
theorem bef_71_13:befOf (opsF Tryz.f71 13)=[[],[0],[0,1],[],[],[3,4],[3,4,5],[3,4,5,6],[3,4,5,6,7],[0,1,2,3,4,5,6,7,8]]:=by kernel_rfl
theorem bef_71_18:befOf (opsF Tryz.f71 18)=[[],[],[],[1,2],[1,2,3],[1,2,3,4],[],[1,2,3,4,5,6],[1,2,3,4,5,6,7],[1,2,3,4,5,6,7,8],[],[10],[],[10,11,12],[10,11,12,13],[0,1,2,3,4,5,6,7,8,9,10,11,12,13,14],[0,1,2,3,4,5,6,7,8,9,10,11,12,13,14,15]]:=by kernel_rfl
theorem bef_81_5:befOf (opsF Tryz.f81 5)=[[],[],[],[1,2],[1,2,3],[1,2,3,4],[],[],[6,7],[6,7,8],[6,7,8,9],[6,7,8,9,10],[1,2,3,4,5,6,7,8,9,10,11],[1,2,3,4,5,6,7,8,9,10,11,12],[0,1,2,3,4,5,6,7,8,9,10,11,12,13],[0,1,2,3,4,5,6,7,8,9,10,11,12,13,14]]:=by kernel_rfl
theorem bef_87_16:befOf (opsF Tryz.f87 16)=[[],[0],[],[2],[2,3],[2,3,4],[2,3,4,5],[0,1,2,3,4,5,6],[0,1,2,3,4,5,6,7]]:=by kernel_rfl
theorem bef_91_8:befOf (opsF Tryz.f91 8)=[[],[0],[],[2],[0,1,2,3],[0,1,2,3,4],[0,1,2,3,4,5],[0,1,2,3,4,5,6],[0,1,2,3,4,5],[0,1,2,3,4,5,6,7,8],[0,1,2,3,4,5,6,7,8,9],[0,1,2,3,4,5],[0,1,2,3,4,5,11],[0,1,2,3,4,5],[0,1,2,3,4,5,11,12,13],[0,1,2,3,4,5,11,12,13,14],[0,1,2,3,4,5,6,7,8,9,10,11,12,13,14,15],[0,1,2,3,4,5,6,7,8,9,10,11,12,13,14,15,16],[0,1,2,3,4,5,6,7,8,9,10,11,12,13,14,15,16,17]]:=by kernel_rfl
theorem bef_94_2:befOf (opsF Tryz.f94 2)=[[],[0],[],[2],[0,1,2,3],[0,1,2,3,4],[0,1,2,3,4,5]]:=by kernel_rfl
theorem bef_94_7:befOf (opsF Tryz.f94 7)=[[],[],[],[2],[],[2,3,4],[2,3,4,5],[1,2,3,4,5,6],[0,1,2,3,4,5,6,7],[0,1,2,3,4,5,6,7,8]]:=by kernel_rfl
theorem bef_96_7:befOf (opsF Tryz.f96 7)=[[],[0],[],[2],[2,3],[0,1,2,3,4],[0,1,2,3,4,5],[0,1,2,3,4,5,6]]:=by kernel_rfl
theorem bef_113_5:befOf (opsF Tryz.f113 5)=[[],[0],[],[],[3],[0,1,2,3,4],[0,1,2,3,4,5]]:=by kernel_rfl
theorem bef_119_5:befOf (opsF Tryz.f119 5)=[[],[],[0,1],[0,1,2],[],[4],[0,1,2,3,4,5]]:=by kernel_rfl
theorem bef_119_12:befOf (opsF Tryz.f119 12)=[[],[0],[],[2],[],[2,3,4],[2,3,4,5],[],[],[2,3,4,5,6,7,8],[2,3,4,5,6,7,8,9],[0,1,2,3,4,5,6,7,8,9,10],[0,1,2,3,4,5,6,7,8,9,10,11],[0,1,2,3,4,5,6,7,8,9,10,11,12]]:=by kernel_rfl
theorem bef_142_6:befOf (opsF Tryz.f142 6)=[[],[0],[],[2],[],[2,3,4],[2,3,4,5],[2,3,4,5,6],[2,3,4,5,6,7],[0,1,2,3,4,5,6,7,8],[0,1,2,3,4,5,6,7,8,9],[0,1,2,3,4,5,6,7,8,9,10]]:=by kernel_rfl
theorem bef_144_5:befOf (opsF Tryz.f144 5)=[[],[0],[0,1],[0,1,2],[],[0,1,2,3,4],[0,1,2,3,4,5],[0,1,2,3,4,5,6],[0,1,2,3,4,5,6,7]]:=by kernel_rfl
theorem bef_144_13:befOf (opsF Tryz.f144 13)=[[],[],[],[2],[],[2,3,4],[2,3,4,5],[],[0,1,2,3,4,5,6,7]]:=by kernel_rfl
theorem bef_144_23:befOf (opsF Tryz.f144 23)=[[],[0],[],[],[3],[],[2,3,4,5],[2,3,4,5,6],[0,1,2,3,4,5,6,7],[0,1,2,3,4,5,6,7,8],[0,1,2,3,4,5,6,7,8,9]]:=by kernel_rfl
theorem bef_144_25:befOf (opsF Tryz.f144 25)=[[],[],[1],[1,2],[1,2,3],[],[5],[1,2,3,4,5,6],[0,1,2,3,4,5,6,7],[0,1,2,3,4,5,6,7,8],[0,1,2,3,4,5,6,7,8,9]]:=by kernel_rfl
theorem bef_147_8:befOf (opsF Tryz.f147 8)=[[],[0],[0,1],[],[],[0,1,2,4],[0,1,2,4,5],[0,1,2,4,5,6],[0,1,2,4,5,6,7],[0,1,2,4,5,6,7,8],[0,1,2,4,5,6,7],[0,1,2,4,5,6,7,10],[0,1,2,4,5,6,7,10,11],[0,1,2,4,5,6,7,10,11,12],[0,1,2,4,5,6,7,10,11,12,13],[0,1,2,4,5,6,7,10,11,12,13,14],[0,1,2,4,5,6,7,8,9,10,11,12,13,14,15],[0,1,2,4,5,6,7,8,9,10,11,12,13,14,15,16],[0,1,2,4,5,6,7,8,9,10,11,12,13,14,15,16,17],[0,1,2,3,4,5,6,7,8,9,10,11,12,13,14,15,16,17,18],[0,1,2,3,4,5,6,7,8,9,10,11,12,13,14,15,16,17,18,19],[0,1,2,3,4,5,6,7,8,9,10,11,12,13,14,15,16,17,18,19,20]]:=by kernel_rfl
theorem bef_147_13:befOf (opsF Tryz.f147 13)=[[],[0],[0,1],[],[3],[3,4],[3,4,5],[],[3,4,5,6,7],[3,4,5,6,7,8],[3,4,5,6,7,8,9],[3,4,5,6,7,8,9,10],[0,1,2,3,4,5,6,7,8,9,10,11]]:=by kernel_rfl
theorem bef_147_18:befOf (opsF Tryz.f147 18)=[[],[0],[0,1],[0,1,2],[],[0,1,2,3,4],[0,1,2,3,4,5],[0,1,2,3,4,5,6],[],[0,1,2,3,4,5,6,7,8],[0,1,2,3,4,5,6,7,8,9],[],[0,1,2,3,4,5,6,7,8,9,10,11],[0,1,2,3,4,5,6,7,8,9,10,11,12]]:=by kernel_rfl
theorem bef_154_23:befOf (opsF Tryz.f154 23)=[[],[],[],[1,2],[1,2,3],[1,2,3,4],[],[1,2,3,4,5,6],[1,2,3,4,5,6,7],[1,2,3,4,5,6,7,8],[],[10],[],[12],[12,13],[10,11,12,13,14],[0,1,2,3,4,5,6,7,8,9,10,11,12,13,14,15],[],[0,1,2,3,4,5,6,7,8,9,10,11,12,13,14,15,16,17]]:=by kernel_rfl
theorem bef_154_24:befOf (opsF Tryz.f154 24)=[[],[0],[],[2],[0,1],[0,1,4],[0,1,2,3,4,5],[0,1,2,3,4,5,6]]:=by kernel_rfl
theorem bef_158_7:befOf (opsF Tryz.f158 7)=[[],[0],[0,1],[],[],[3,4],[3,4,5],[3,4,5,6],[3,4,5,6,7],[0,1,2,3,4,5,6,7,8]]:=by kernel_rfl
theorem bef_158_12:befOf (opsF Tryz.f158 12)=[[],[],[],[1,2],[1,2,3],[1,2,3,4],[],[1,2,3,4,5,6],[1,2,3,4,5,6,7],[1,2,3,4,5,6,7,8],[],[10],[],[10,11,12],[10,11,12,13],[0,1,2,3,4,5,6,7,8,9,10,11,12,13,14],[0,1,2,3,4,5,6,7,8,9,10,11,12,13,14,15]]:=by kernel_rfl
theorem bef_174_4:befOf (opsF Tryz.f174 4)=[[],[],[],[0,2],[0,1,2,3]]:=by kernel_rfl
theorem bef_174_7:befOf (opsF Tryz.f174 7)=[[],[],[],[0,2],[0,1,2,3]]:=by kernel_rfl
theorem bef_174_12:befOf (opsF Tryz.f174 12)=[[],[],[],[0],[0,1,3],[0,1,2,3,4]]:=by kernel_rfl
theorem bef_178_1:befOf (opsF Tryz.f178 1)=[[],[],[1],[],[1,2,3],[1,2,3,4],[],[0,1,2,3,4,5,6],[0,1,2,3,4,5,6,7]]:=by kernel_rfl
theorem bef_189_2:befOf (opsF Tryz.f189 2)=[[],[0],[0,1],[0,1,2],[0,1,2,3],[0,1,2,3,4],[0,1,2,3,4,5],[0,1,2,3,4,5,6],[0,1,2,3,4,5,6,7],[0,1,2,3,4,5,6,7,8],[],[10],[],[12],[12,13],[12,13,14],[12,13,14,15],[12,13,14,15,16],[0,1,2,3,4,5,6,7,8,9,10,11,12,13,14,15,16,17],[0,1,2,3,4,5,6,7,8,9,10,11,12,13,14,15,16,17,18],[0,1,2,3,4,5,6,7,8,9,10,11,12,13,14,15,16,17,18,19],[0,1,2,3,4,5,6,7,8,9,10,11,12,13,14,15,16,17,18,19,20],[0,1,2,3,4,5,6,7,8,9,10,11,12,13,14,15,16,17,18,19,20,21]]:=by kernel_rfl
theorem bef_189_7:befOf (opsF Tryz.f189 7)=[[],[0],[0,1],[0,1,2],[],[4],[4,5],[],[7],[7,8],[4,5,6,7,8,9],[0,1,2,3,4,5,6,7,8,9,10],[0,1,2,3,4,5,6,7,8,9,10,11],[0,1,2,3,4,5,6,7,8,9,10,11,12],[0,1,2,3,4,5,6,7,8,9,10,11,12,13]]:=by kernel_rfl
theorem bef_195_10:befOf (opsF Tryz.f195 10)=[[],[0],[0,1],[0,1,2],[],[4],[4,5],[4,5,6],[],[8],[4,5,6,7,8,9],[4,5,6,7,8,9,10],[],[4,5,6,7,8,9,10,11,12],[4,5,6,7,8,9,10,11,12,13],[0,1,2,3,4,5,6,7,8,9,10,11,12,13,14],[0,1,2,3,4,5,6,7,8,9,10,11,12,13,14,15]]:=by kernel_rfl
theorem bef_220_1:befOf (opsF Tryz.f220 1)=[[],[0],[],[0,1,2],[0,1,2,3],[],[0,1,2,3,4,5],[0,1,2,3,4,5,6]]:=by kernel_rfl
theorem bef_231_1:befOf (opsF Tryz.f231 1)=[[],[],[0,1],[0,1,2],[],[],[5],[],[5,6,7],[0,1,2,3,4,5,6,7,8],[0,1,2,3,4,5,6,7,8,9]]:=by kernel_rfl
theorem bef_232_1:befOf (opsF Tryz.f232 1)=[[],[0],[],[],[2,3],[0,1,2,3,4],[],[6],[6,7],[6,7,8],[0,1,2,3,4,5,6,7,8,9],[0,1,2,3,4,5,6,7,8,9,10],[0,1,2,3,4,5,6,7,8,9,10,11],[0,1,2,3,4,5,6,7,8,9,10,11,12],[0,1,2,3,4,5,6,7,8,9,10,11,12,13],[0,1,2,3,4,5,6,7,8,9,10,11,12,13,14],[0,1,2,3,4,5,6,7,8,9,10,11,12,13,14,15],[],[17],[17,18],[17,18,19],[0,1,2,3,4,5,6,7,8,9,10,11,12,13,14,15,16,17,18,19,20],[0,1,2,3,4,5,6,7,8,9,10,11,12,13,14,15,16,17,18,19,20,21],[0,1,2,3,4,5,6,7,8,9,10,11,12,13,14,15,16,17,18,19,20,21,22],[0,1,2,3,4,5,6,7,8,9,10,11,12,13,14,15,16,17,18,19,20,21,22,23]]:=by kernel_rfl
theorem bef_237_12:befOf (opsF Tryz.f237 12)=[[],[0],[],[2],[],[4],[],[6],[],[8],[4,5,6,7,8,9],[2,3,4,5,6,7,8,9,10],[2,3,4,5,6,7,8,9,10,11],[0,1,2,3,4,5,6,7,8,9,10,11,12],[0,1,2,3,4,5,6,7,8,9,10,11,12,13],[0,1,2,3,4,5,6,7,8,9,10,11,12,13,14]]:=by kernel_rfl
theorem bef_256_1:befOf (opsF Tryz.f256 1)=[[],[0],[],[0,1,2],[],[4],[4,5],[4,5,6],[0,1,2,3,4,5,6,7],[0,1,2,3,4,5,6,7,8],[0,1,2,3,4,5,6,7,8,9],[0,1,2,3,4,5,6,7,8,9,10]]:=by kernel_rfl
theorem bef_264_9:befOf (opsF Tryz.f264 9)=[[],[0],[],[],[],[2,3,4],[2,3,4,5],[0,1,2,3,4,5,6],[0,1,2,3,4,5,6,7],[0,1,2,3,4,5,6,7,8]]:=by kernel_rfl
@[simp] theorem al_100:zeroC MX.ty 100=some [.nils]:=by kernel_rfl
@[simp] theorem al_103:zeroC MX.ty 103=some [(.str []),.nils,.nils]:=by kernel_rfl
@[simp] theorem al_106:zeroC MX.ty 106=some [(.str []),.nils]:=by kernel_rfl
@[simp] theorem al_109:zeroC MX.ty 109=some [(.str []),(.int .i64 (0)),(.int .i64 (0)),(.str []),.nils]:=by kernel_rfl
@[simp] theorem al_162:zeroC MX.ty 162=some [(.str []),.nils]:=by kernel_rfl
@[simp] theorem al_196:zeroC MX.ty 196=some [(.int .i64 (0)),(.int .i64 (0)),(.int .i64 (0))]:=by kernel_rfl
@[simp] theorem al_221:zeroC MX.ty 221=some [.nils,.nils]:=by kernel_rfl
@[simp] theorem al_231:zeroC MX.ty 231=some [(.int .i64 (0)),(.int .i64 (0)),(.str []),.nils,(.int .i64 (0))]:=by kernel_rfl
@[simp] theorem al_25:zeroC MX.ty 25=some [(.int .i64 (0)),(.int .i64 (0)),(.str []),.nils]:=by kernel_rfl
@[simp] theorem al_264:zeroC MX.ty 264=some [.nilf]:=by kernel_rfl
@[simp] theorem al_270:zeroC MX.ty 270=some [(.str []),.nils,.nils]:=by kernel_rfl
@[simp] theorem al_28:zeroC MX.ty 28=some [.nils,(.int .i64 (0)),(.int .i64 (0)),(.str []),.nils,.nils]:=by kernel_rfl
@[simp] theorem al_3:zeroC MX.ty 3=some [(.int .i64 (0))]:=by kernel_rfl
@[simp] theorem al_301:zeroC MX.ty 301=some [.nilf]:=by kernel_rfl
@[simp] theorem al_34:zeroC MX.ty 34=some [(.str []),(.int .i64 (0)),.nils]:=by kernel_rfl
@[simp] theorem al_62:zeroC MX.ty 62=some [(.int .i64 (0)),(.int .i64 (0)),(.str []),.nils]:=by kernel_rfl
@[simp] theorem ap_100_100:∀ s x h,builtinA MX.ty .append [100,100] [s,x] h=OR.ofVH (apA 1 16 s x h):=fun s x h=>by cases x <;> kernel_rfl
@[simp] theorem ap_101_101:∀ s x h,builtinA MX.ty .append [101,101] [s,x] h=OR.ofVH (apA 2 40 s x h):=fun s x h=>by cases x <;> kernel_rfl
@[simp] theorem ap_104_104:∀ s x h,builtinA MX.ty .append [104,104] [s,x] h=OR.ofVH (apA 5 72 s x h):=fun s x h=>by cases x <;> kernel_rfl
@[simp] theorem ap_157_157:∀ s x h,builtinA MX.ty .append [157,157] [s,x] h=OR.ofVH (apA 2 40 s x h):=fun s x h=>by cases x <;> kernel_rfl
@[simp] theorem ap_160_160:∀ s x h,builtinA MX.ty .append [160,160] [s,x] h=OR.ofVH (apA 1 8 s x h):=fun s x h=>by cases x <;> kernel_rfl
@[simp] theorem ap_22_22:∀ s x h,builtinA MX.ty .append [22,22] [s,x] h=OR.ofVH (apA 3 64 s x h):=fun s x h=>by cases x <;> kernel_rfl
@[simp] theorem ap_23_23:∀ s x h,builtinA MX.ty .append [23,23] [s,x] h=OR.ofVH (apA 4 56 s x h):=fun s x h=>by cases x <;> kernel_rfl
@[simp] theorem ap_232_232:∀ s x h,builtinA MX.ty .append [232,232] [s,x] h=OR.ofVH (apA 5 64 s x h):=fun s x h=>by cases x <;> kernel_rfl
@[simp] theorem ap_26_26:∀ s x h,builtinA MX.ty .append [26,26] [s,x] h=OR.ofVH (apA 4 56 s x h):=fun s x h=>by cases x <;> kernel_rfl
@[simp] theorem ap_265_265:∀ s x h,builtinA MX.ty .append [265,265] [s,x] h=OR.ofVH (apA 3 64 s x h):=fun s x h=>by cases x <;> kernel_rfl
@[simp] theorem ap_268_268:∀ s x h,builtinA MX.ty .append [268,268] [s,x] h=OR.ofVH (apA 1 8 s x h):=fun s x h=>by cases x <;> kernel_rfl
@[simp] theorem ap_32_32:∀ s x h,builtinA MX.ty .append [32,32] [s,x] h=OR.ofVH (apA 3 48 s x h):=fun s x h=>by cases x <;> kernel_rfl
@[simp] theorem ap_70_70:∀ s x h,builtinA MX.ty .append [70,70] [s,x] h=OR.ofVH (apA 4 64 s x h):=fun s x h=>by cases x <;> kernel_rfl
@[simp] theorem bd_103_:buildA MX.ty 103 []=(fillC [(.str []),.nils,.nils] []).map .agg:=bd_of [] [] (by kernel_rfl) (by kernel_rfl) (by kernel_rfl)
@[simp] theorem bd_103_0_1:∀ v0 v1,buildA MX.ty 103 [(0,v0),(1,v1)]=(fillC [(.str []),.nils,.nils] [(0,1,v0),(1,1,v1)]).map .agg:=fun v0 v1=>bd_of [(0,0,1),(1,1,1)] [v0,v1] (by kernel_rfl) (by kernel_rfl) (by kernel_rfl)
@[simp] theorem bd_103_2:∀ v2,buildA MX.ty 103 [(2,v2)]=(fillC [(.str []),.nils,.nils] [(2,1,v2)]).map .agg:=fun v2=>bd_of [(2,2,1)] [v2] (by kernel_rfl) (by kernel_rfl) (by kernel_rfl)
@[simp] theorem bd_106_0_1:∀ v0 v1,buildA MX.ty 106 [(0,v0),(1,v1)]=(fillC [(.str []),.nils] [(0,1,v0),(1,1,v1)]).map .agg:=fun v0 v1=>bd_of [(0,0,1),(1,1,1)] [v0,v1] (by kernel_rfl) (by kernel_rfl) (by kernel_rfl)
@[simp] theorem bd_106_0:∀ v0,buildA MX.ty 106 [(0,v0)]=(fillC [(.str []),.nils] [(0,1,v0)]).map .agg:=fun v0=>bd_of [(0,0,1)] [v0] (by kernel_rfl) (by kernel_rfl) (by kernel_rfl)
@[simp] theorem bd_109_0_1:∀ v0 v1,buildA MX.ty 109 [(0,v0),(1,v1)]=(fillC [(.str []),(.int .i64 (0)),(.int .i64 (0)),(.str []),.nils] [(0,1,v0),(1,4,v1)]).map .agg:=fun v0 v1=>bd_of [(0,0,1),(1,1,4)] [v0,v1] (by kernel_rfl) (by kernel_rfl) (by kernel_rfl)
@[simp] theorem bd_159_:buildA MX.ty 159 []=(fillC [(.int .i64 (0)),.nils] []).map .agg:=bd_of [] [] (by kernel_rfl) (by kernel_rfl) (by kernel_rfl)
@[simp] theorem bd_159_0:∀ v0,buildA MX.ty 159 [(0,v0)]=(fillC [(.int .i64 (0)),.nils] [(0,1,v0)]).map .agg:=fun v0=>bd_of [(0,0,1)] [v0] (by kernel_rfl) (by kernel_rfl) (by kernel_rfl)
@[simp] theorem bd_159_1:∀ v1,buildA MX.ty 159 [(1,v1)]=(fillC [(.int .i64 (0)),.nils] [(1,1,v1)]).map .agg:=fun v1=>bd_of [(1,1,1)] [v1] (by kernel_rfl) (by kernel_rfl) (by kernel_rfl)
@[simp] theorem bd_162_0:∀ v0,buildA MX.ty 162 [(0,v0)]=(fillC [(.str []),.nils] [(0,1,v0)]).map .agg:=fun v0=>bd_of [(0,0,1)] [v0] (by kernel_rfl) (by kernel_rfl) (by kernel_rfl)
@[simp] theorem bd_196_:buildA MX.ty 196 []=(fillC [(.int .i64 (0)),(.int .i64 (0)),(.int .i64 (0))] []).map .agg:=bd_of [] [] (by kernel_rfl) (by kernel_rfl) (by kernel_rfl)
@[simp] theorem bd_196_0_2:∀ v0 v2,buildA MX.ty 196 [(0,v0),(2,v2)]=(fillC [(.int .i64 (0)),(.int .i64 (0)),(.int .i64 (0))] [(0,1,v0),(2,1,v2)]).map .agg:=fun v0 v2=>bd_of [(0,0,1),(2,2,1)] [v0,v2] (by kernel_rfl) (by kernel_rfl) (by kernel_rfl)
@[simp] theorem bd_221_0:∀ v0,buildA MX.ty 221 [(0,v0)]=(fillC [.nils,.nils] [(0,1,v0)]).map .agg:=fun v0=>bd_of [(0,0,1)] [v0] (by kernel_rfl) (by kernel_rfl) (by kernel_rfl)
@[simp] theorem bd_231_0_1:∀ v0 v1,buildA MX.ty 231 [(0,v0),(1,v1)]=(fillC [(.int .i64 (0)),(.int .i64 (0)),(.str []),.nils,(.int .i64 (0))] [(0,4,v0),(4,1,v1)]).map .agg:=fun v0 v1=>bd_of [(0,0,4),(1,4,1)] [v0,v1] (by kernel_rfl) (by kernel_rfl) (by kernel_rfl)
@[simp] theorem bd_267_0:∀ v0,buildA MX.ty 267 [(0,v0)]=(fillC [(.int .i64 (0)),.nils] [(0,1,v0)]).map .agg:=fun v0=>bd_of [(0,0,1)] [v0] (by kernel_rfl) (by kernel_rfl) (by kernel_rfl)
@[simp] theorem bd_267_1:∀ v1,buildA MX.ty 267 [(1,v1)]=(fillC [(.int .i64 (0)),.nils] [(1,1,v1)]).map .agg:=fun v1=>bd_of [(1,1,1)] [v1] (by kernel_rfl) (by kernel_rfl) (by kernel_rfl)
@[simp] theorem bd_270_0:∀ v0,buildA MX.ty 270 [(0,v0)]=(fillC [(.str []),.nils,.nils] [(0,1,v0)]).map .agg:=fun v0=>bd_of [(0,0,1)] [v0] (by kernel_rfl) (by kernel_rfl) (by kernel_rfl)
@[simp] theorem bd_28_0_1_2:∀ v0 v1 v2,buildA MX.ty 28 [(0,v0),(1,v1),(2,v2)]=(fillC [.nils,(.int .i64 (0)),(.int .i64 (0)),(.str []),.nils,.nils] [(0,1,v0),(1,4,v1),(5,1,v2)]).map .agg:=fun v0 v1 v2=>bd_of [(0,0,1),(1,1,4),(2,5,1)] [v0,v1,v2] (by kernel_rfl) (by kernel_rfl) (by kernel_rfl)
@[simp] theorem bd_62_:buildA MX.ty 62 []=(fillC [(.int .i64 (0)),(.int .i64 (0)),(.str []),.nils] []).map .agg:=bd_of [] [] (by kernel_rfl) (by kernel_rfl) (by kernel_rfl)
@[simp] theorem bd_62_0_1:∀ v0 v1,buildA MX.ty 62 [(0,v0),(1,v1)]=(fillC [(.int .i64 (0)),(.int .i64 (0)),(.str []),.nils] [(0,1,v0),(1,1,v1)]).map .agg:=fun v0 v1=>bd_of [(0,0,1),(1,1,1)] [v0,v1] (by kernel_rfl) (by kernel_rfl) (by kernel_rfl)
@[simp] theorem bd_62_0_2:∀ v0 v2,buildA MX.ty 62 [(0,v0),(2,v2)]=(fillC [(.int .i64 (0)),(.int .i64 (0)),(.str []),.nils] [(0,1,v0),(2,1,v2)]).map .agg:=fun v0 v2=>bd_of [(0,0,1),(2,2,1)] [v0,v2] (by kernel_rfl) (by kernel_rfl) (by kernel_rfl)
@[simp] theorem bd_80_0_1:∀ v0 v1,buildA MX.ty 80 [(0,v0),(1,v1)]=(fillC [(.str []),(.str []),(.int .i64 (0)),.nils] [(0,1,v0),(1,3,v1)]).map .agg:=fun v0 v1=>bd_of [(0,0,1),(1,1,3)] [v0,v1] (by kernel_rfl) (by kernel_rfl) (by kernel_rfl)
@[simp] theorem bs_100_0:∀ ml ps h,buildSliceA MX.ty ml 100 0 ps h=bsA 1 [(.str [])] ml 0 ps h:=fun _ _ _=>by kernel_rfl
@[simp] theorem bs_100_1:∀ ml ps h,buildSliceA MX.ty ml 100 1 ps h=bsA 1 [(.str [])] ml 1 ps h:=fun _ _ _=>by kernel_rfl
@[simp] theorem bs_100_2:∀ ml ps h,buildSliceA MX.ty ml 100 2 ps h=bsA 1 [(.str [])] ml 2 ps h:=fun _ _ _=>by kernel_rfl
@[simp] theorem bs_100_3:∀ ml ps h,buildSliceA MX.ty ml 100 3 ps h=bsA 1 [(.str [])] ml 3 ps h:=fun _ _ _=>by kernel_rfl
@[simp] theorem bs_101_1:∀ ml ps h,buildSliceA MX.ty ml 101 1 ps h=bsA 2 [(.str []),.nils] ml 1 ps h:=fun _ _ _=>by kernel_rfl
@[simp] theorem bs_101_2:∀ ml ps h,buildSliceA MX.ty ml 101 2 ps h=bsA 2 [(.str []),.nils] ml 2 ps h:=fun _ _ _=>by kernel_rfl
@[simp] theorem bs_104_1:∀ ml ps h,buildSliceA MX.ty ml 104 1 ps h=bsA 5 [(.str []),(.int .i64 (0)),(.int .i64 (0)),(.str []),.nils] ml 1 ps h:=fun _ _ _=>by kernel_rfl
@[simp] theorem bs_157_1:∀ ml ps h,buildSliceA MX.ty ml 157 1 ps h=bsA 2 [(.str []),.nils] ml 1 ps h:=fun _ _ _=>by kernel_rfl
@[simp] theorem bs_157_2:∀ ml ps h,buildSliceA MX.ty ml 157 2 ps h=bsA 2 [(.str []),.nils] ml 2 ps h:=fun _ _ _=>by kernel_rfl
@[simp] theorem bs_160_1:∀ ml ps h,buildSliceA MX.ty ml 160 1 ps h=bsA 1 [.nilp] ml 1 ps h:=fun _ _ _=>by kernel_rfl
@[simp] theorem bs_204_2:∀ ml ps h,buildSliceA MX.ty ml 204 2 ps h=bsA 1 [(.int .i64 (0))] ml 2 ps h:=fun _ _ _=>by kernel_rfl
@[simp] theorem bs_204_3:∀ ml ps h,buildSliceA MX.ty ml 204 3 ps h=bsA 1 [(.int .i64 (0))] ml 3 ps h:=fun _ _ _=>by kernel_rfl
@[simp] theorem bs_22_1:∀ ml ps h,buildSliceA MX.ty ml 22 1 ps h=bsA 3 [(.str []),.nils,.nils] ml 1 ps h:=fun _ _ _=>by kernel_rfl
@[simp] theorem bs_23_1:∀ ml ps h,buildSliceA MX.ty ml 23 1 ps h=bsA 4 [(.int .i64 (0)),(.int .i64 (0)),(.str []),.nils] ml 1 ps h:=fun _ _ _=>by kernel_rfl
@[simp] theorem bs_232_1:∀ ml ps h,buildSliceA MX.ty ml 232 1 ps h=bsA 5 [(.int .i64 (0)),(.int .i64 (0)),(.str []),.nils,(.int .i64 (0))] ml 1 ps h:=fun _ _ _=>by kernel_rfl
@[simp] theorem bs_26_0:∀ ml ps h,buildSliceA MX.ty ml 26 0 ps h=bsA 4 [(.int .i64 (0)),(.int .i64 (0)),(.str []),.nils] ml 0 ps h:=fun _ _ _=>by kernel_rfl
@[simp] theorem bs_26_1:∀ ml ps h,buildSliceA MX.ty ml 26 1 ps h=bsA 4 [(.int .i64 (0)),(.int .i64 (0)),(.str []),.nils] ml 1 ps h:=fun _ _ _=>by kernel_rfl
@[simp] theorem bs_265_1:∀ ml ps h,buildSliceA MX.ty ml 265 1 ps h=bsA 3 [(.str []),.nils,.nils] ml 1 ps h:=fun _ _ _=>by kernel_rfl
@[simp] theorem bs_265_2:∀ ml ps h,buildSliceA MX.ty ml 265 2 ps h=bsA 3 [(.str []),.nils,.nils] ml 2 ps h:=fun _ _ _=>by kernel_rfl
@[simp] theorem bs_268_1:∀ ml ps h,buildSliceA MX.ty ml 268 1 ps h=bsA 1 [.nilp] ml 1 ps h:=fun _ _ _=>by kernel_rfl
@[simp] theorem bs_32_0:∀ ml ps h,buildSliceA MX.ty ml 32 0 ps h=bsA 3 [(.str []),(.int .i64 (0)),.nils] ml 0 ps h:=fun _ _ _=>by kernel_rfl
@[simp] theorem bs_32_1:∀ ml ps h,buildSliceA MX.ty ml 32 1 ps h=bsA 3 [(.str []),(.int .i64 (0)),.nils] ml 1 ps h:=fun _ _ _=>by kernel_rfl
@[simp] theorem bs_70_1:∀ ml ps h,buildSliceA MX.ty ml 70 1 ps h=bsA 4 [(.str []),(.str []),(.int .i64 (0)),.nils] ml 1 ps h:=fun _ _ _=>by kernel_rfl
@[simp] theorem cv_3_236:∀ x h,convertA MX.ty 3 236 x h=cvI .u64 x h:=fun x h=>by cases x <;> kernel_rfl
@[simp] theorem cv_9_247:∀ x h,convertA MX.ty 9 247 x h=cvB x h:=fun x h=>by cases x <;> kernel_rfl
@[simp] theorem fa_103_0:∀ p,fieldAddrA MX.ty 103 p 0=faA 0 p:=fun p=>by cases p <;> kernel_rfl
@[simp] theorem fa_103_1:∀ p,fieldAddrA MX.ty 103 p 1=faA 1 p:=fun p=>by cases p <;> kernel_rfl
@[simp] theorem fa_103_2:∀ p,fieldAddrA MX.ty 103 p 2=faA 2 p:=fun p=>by cases p <;> kernel_rfl
@[simp] theorem fa_106_0:∀ p,fieldAddrA MX.ty 106 p 0=faA 0 p:=fun p=>by cases p <;> kernel_rfl
@[simp] theorem fa_106_1:∀ p,fieldAddrA MX.ty 106 p 1=faA 1 p:=fun p=>by cases p <;> kernel_rfl
@[simp] theorem fa_109_0:∀ p,fieldAddrA MX.ty 109 p 0=faA 0 p:=fun p=>by cases p <;> kernel_rfl
@[simp] theorem fa_109_1:∀ p,fieldAddrA MX.ty 109 p 1=faA 1 p:=fun p=>by cases p <;> kernel_rfl
@[simp] theorem fa_159_0:∀ p,fieldAddrA MX.ty 159 p 0=faA 0 p:=fun p=>by cases p <;> kernel_rfl
@[simp] theorem fa_159_1:∀ p,fieldAddrA MX.ty 159 p 1=faA 1 p:=fun p=>by cases p <;> kernel_rfl
@[simp] theorem fa_162_0:∀ p,fieldAddrA MX.ty 162 p 0=faA 0 p:=fun p=>by cases p <;> kernel_rfl
@[simp] theorem fa_162_1:∀ p,fieldAddrA MX.ty 162 p 1=faA 1 p:=fun p=>by cases p <;> kernel_rfl
@[simp] theorem fa_196_0:∀ p,fieldAddrA MX.ty 196 p 0=faA 0 p:=fun p=>by cases p <;> kernel_rfl
@[simp] theorem fa_196_1:∀ p,fieldAddrA MX.ty 196 p 1=faA 1 p:=fun p=>by cases p <;> kernel_rfl
@[simp] theorem fa_196_2:∀ p,fieldAddrA MX.ty 196 p 2=faA 2 p:=fun p=>by cases p <;> kernel_rfl
@[simp] theorem fa_221_0:∀ p,fieldAddrA MX.ty 221 p 0=faA 0 p:=fun p=>by cases p <;> kernel_rfl
@[simp] theorem fa_221_1:∀ p,fieldAddrA MX.ty 221 p 1=faA 1 p:=fun p=>by cases p <;> kernel_rfl
@[simp] theorem fa_231_0:∀ p,fieldAddrA MX.ty 231 p 0=faA 0 p:=fun p=>by cases p <;> kernel_rfl
@[simp] theorem fa_231_1:∀ p,fieldAddrA MX.ty 231 p 1=faA 4 p:=fun p=>by cases p <;> kernel_rfl
@[simp] theorem fa_25_0:∀ p,fieldAddrA MX.ty 25 p 0=faA 0 p:=fun p=>by cases p <;> kernel_rfl
@[simp] theorem fa_25_1:∀ p,fieldAddrA MX.ty 25 p 1=faA 1 p:=fun p=>by cases p <;> kernel_rfl
@[simp] theorem fa_25_2:∀ p,fieldAddrA MX.ty 25 p 2=faA 2 p:=fun p=>by cases p <;> kernel_rfl
@[simp] theorem fa_25_3:∀ p,fieldAddrA MX.ty 25 p 3=faA 3 p:=fun p=>by cases p <;> kernel_rfl
@[simp] theorem fa_267_0:∀ p,fieldAddrA MX.ty 267 p 0=faA 0 p:=fun p=>by cases p <;> kernel_rfl
@[simp] theorem fa_267_1:∀ p,fieldAddrA MX.ty 267 p 1=faA 1 p:=fun p=>by cases p <;> kernel_rfl
@[simp] theorem fa_270_0:∀ p,fieldAddrA MX.ty 270 p 0=faA 0 p:=fun p=>by cases p <;> kernel_rfl
@[simp] theorem fa_270_1:∀ p,fieldAddrA MX.ty 270 p 1=faA 1 p:=fun p=>by cases p <;> kernel_rfl
@[simp] theorem fa_270_2:∀ p,fieldAddrA MX.ty 270 p 2=faA 2 p:=fun p=>by cases p <;> kernel_rfl
@[simp] theorem fa_28_0:∀ p,fieldAddrA MX.ty 28 p 0=faA 0 p:=fun p=>by cases p <;> kernel_rfl
@[simp] theorem fa_28_1:∀ p,fieldAddrA MX.ty 28 p 1=faA 1 p:=fun p=>by cases p <;> kernel_rfl
@[simp] theorem fa_28_2:∀ p,fieldAddrA MX.ty 28 p 2=faA 5 p:=fun p=>by cases p <;> kernel_rfl
@[simp] theorem fa_34_0:∀ p,fieldAddrA MX.ty 34 p 0=faA 0 p:=fun p=>by cases p <;> kernel_rfl
@[simp] theorem fa_34_1:∀ p,fieldAddrA MX.ty 34 p 1=faA 1 p:=fun p=>by cases p <;> kernel_rfl
@[simp] theorem fa_34_2:∀ p,fieldAddrA MX.ty 34 p 2=faA 2 p:=fun p=>by cases p <;> kernel_rfl
@[simp] theorem fa_62_0:∀ p,fieldAddrA MX.ty 62 p 0=faA 0 p:=fun p=>by cases p <;> kernel_rfl
@[simp] theorem fa_62_1:∀ p,fieldAddrA MX.ty 62 p 1=faA 1 p:=fun p=>by cases p <;> kernel_rfl
@[simp] theorem fa_62_2:∀ p,fieldAddrA MX.ty 62 p 2=faA 2 p:=fun p=>by cases p <;> kernel_rfl
@[simp] theorem fa_62_3:∀ p,fieldAddrA MX.ty 62 p 3=faA 3 p:=fun p=>by cases p <;> kernel_rfl
@[simp] theorem fa_80_0:∀ p,fieldAddrA MX.ty 80 p 0=faA 0 p:=fun p=>by cases p <;> kernel_rfl
@[simp] theorem fa_80_1:∀ p,fieldAddrA MX.ty 80 p 1=faA 1 p:=fun p=>by cases p <;> kernel_rfl
@[simp] theorem ixs_9:∀ x i,indexA MX.ty 9 x i=ixS x i:=fun x i=>by cases x <;> cases i <;> kernel_rfl
@[simp] theorem ix_100:∀ x i,indexAddrA MX.ty 100 x i=ixA 1 x i:=fun x i=>by cases x <;> cases i <;> kernel_rfl
@[simp] theorem ix_101:∀ x i,indexAddrA MX.ty 101 x i=ixA 2 x i:=fun x i=>by cases x <;> cases i <;> kernel_rfl
@[simp] theorem ix_104:∀ x i,indexAddrA MX.ty 104 x i=ixA 5 x i:=fun x i=>by cases x <;> cases i <;> kernel_rfl
@[simp] theorem ix_157:∀ x i,indexAddrA MX.ty 157 x i=ixA 2 x i:=fun x i=>by cases x <;> cases i <;> kernel_rfl
@[simp] theorem ix_160:∀ x i,indexAddrA MX.ty 160 x i=ixA 1 x i:=fun x i=>by cases x <;> cases i <;> kernel_rfl
@[simp] theorem ix_204:∀ x i,indexAddrA MX.ty 204 x i=ixA 1 x i:=fun x i=>by cases x <;> cases i <;> kernel_rfl
@[simp] theorem ix_22:∀ x i,indexAddrA MX.ty 22 x i=ixA 3 x i:=fun x i=>by cases x <;> cases i <;> kernel_rfl
@[simp] theorem ix_23:∀ x i,indexAddrA MX.ty 23 x i=ixA 4 x i:=fun x i=>by cases x <;> cases i <;> kernel_rfl
@[simp] theorem ix_232:∀ x i,indexAddrA MX.ty 232 x i=ixA 5 x i:=fun x i=>by cases x <;> cases i <;> kernel_rfl
@[simp] theorem ix_247:∀ x i,indexAddrA MX.ty 247 x i=ixA 1 x i:=fun x i=>by cases x <;> cases i <;> kernel_rfl
@[simp] theorem ix_26:∀ x i,indexAddrA MX.ty 26 x i=ixA 4 x i:=fun x i=>by cases x <;> cases i <;> kernel_rfl
@[simp] theorem ix_265:∀ x i,indexAddrA MX.ty 265 x i=ixA 3 x i:=fun x i=>by cases x <;> cases i <;> kernel_rfl
@[simp] theorem ix_268:∀ x i,indexAddrA MX.ty 268 x i=ixA 1 x i:=fun x i=>by cases x <;> cases i <;> kernel_rfl
@[simp] theorem ix_32:∀ x i,indexAddrA MX.ty 32 x i=ixA 3 x i:=fun x i=>by cases x <;> cases i <;> kernel_rfl
@[simp] theorem ix_70:∀ x i,indexAddrA MX.ty 70 x i=ixA 4 x i:=fun x i=>by cases x <;> cases i <;> kernel_rfl
@[simp] theorem len_100:∀ x h,builtinA MX.ty .len [100] [x] h=lenSl x h:=fun x h=>by cases x <;> kernel_rfl
@[simp] theorem len_101:∀ x h,builtinA MX.ty .len [101] [x] h=lenSl x h:=fun x h=>by cases x <;> kernel_rfl
@[simp] theorem len_104:∀ x h,builtinA MX.ty .len [104] [x] h=lenSl x h:=fun x h=>by cases x <;> kernel_rfl
@[simp] theorem len_157:∀ x h,builtinA MX.ty .len [157] [x] h=lenSl x h:=fun x h=>by cases x <;> kernel_rfl
@[simp] theorem len_160:∀ x h,builtinA MX.ty .len [160] [x] h=lenSl x h:=fun x h=>by cases x <;> kernel_rfl
@[simp] theorem len_204:∀ x h,builtinA MX.ty .len [204] [x] h=lenSl x h:=fun x h=>by cases x <;> kernel_rfl
@[simp] theorem len_22:∀ x h,builtinA MX.ty .len [22] [x] h=lenSl x h:=fun x h=>by cases x <;> kernel_rfl
@[simp] theorem len_23:∀ x h,builtinA MX.ty .len [23] [x] h=lenSl x h:=fun x h=>by cases x <;> kernel_rfl
@[simp] theorem len_232:∀ x h,builtinA MX.ty .len [232] [x] h=lenSl x h:=fun x h=>by cases x <;> kernel_rfl
@[simp] theorem len_247:∀ x h,builtinA MX.ty .len [247] [x] h=lenSl x h:=fun x h=>by cases x <;> kernel_rfl
@[simp] theorem len_26:∀ x h,builtinA MX.ty .len [26] [x] h=lenSl x h:=fun x h=>by cases x <;> kernel_rfl
@[simp] theorem len_265:∀ x h,builtinA MX.ty .len [265] [x] h=lenSl x h:=fun x h=>by cases x <;> kernel_rfl
@[simp] theorem len_268:∀ x h,builtinA MX.ty .len [268] [x] h=lenSl x h:=fun x h=>by cases x <;> kernel_rfl
@[simp] theorem len_32:∀ x h,builtinA MX.ty .len [32] [x] h=lenSl x h:=fun x h=>by cases x <;> kernel_rfl
@[simp] theorem len_70:∀ x h,builtinA MX.ty .len [70] [x] h=lenSl x h:=fun x h=>by cases x <;> kernel_rfl
@[simp] theorem len_9:∀ x h,builtinA MX.ty .len [9] [x] h=lenSt x h:=fun x h=>by cases x <;> kernel_rfl
@[simp] theorem ld_100:∀ h p,loadA MX.ty h 100 p=ld1 h p:=fun _ _=>by kernel_rfl
@[simp] theorem ld_101:∀ h p,loadA MX.ty h 101 p=ld1 h p:=fun _ _=>by kernel_rfl
@[simp] theorem ld_103:∀ h p,loadA MX.ty h 103 p=ldN 3 h p:=fun _ _=>by kernel_rfl
@[simp] theorem ld_104:∀ h p,loadA MX.ty h 104 p=ld1 h p:=fun _ _=>by kernel_rfl
@[simp] theorem ld_106:∀ h p,loadA MX.ty h 106 p=ldN 2 h p:=fun _ _=>by kernel_rfl
@[simp] theorem ld_109:∀ h p,loadA MX.ty h 109 p=ldN 5 h p:=fun _ _=>by kernel_rfl
@[simp] theorem ld_112:∀ h p,loadA MX.ty h 112 p=ld1 h p:=fun _ _=>by kernel_rfl
@[simp] theorem ld_147:∀ h p,loadA MX.ty h 147 p=ld1 h p:=fun _ _=>by kernel_rfl
@[simp] theorem ld_157:∀ h p,loadA MX.ty h 157 p=ld1 h p:=fun _ _=>by kernel_rfl
@[simp] theorem ld_160:∀ h p,loadA MX.ty h 160 p=ld1 h p:=fun _ _=>by kernel_rfl
@[simp] theorem ld_162:∀ h p,loadA MX.ty h 162 p=ldN 2 h p:=fun _ _=>by kernel_rfl
@[simp] theorem ld_196:∀ h p,loadA MX.ty h 196 p=ldN 3 h p:=fun _ _=>by kernel_rfl
@[simp] theorem ld_201:∀ h p,loadA MX.ty h 201 p=ld1 h p:=fun _ _=>by kernel_rfl
@[simp] theorem ld_22:∀ h p,loadA MX.ty h 22 p=ld1 h p:=fun _ _=>by kernel_rfl
@[simp] theorem ld_221:∀ h p,loadA MX.ty h 221 p=ldN 2 h p:=fun _ _=>by kernel_rfl
@[simp] theorem ld_224:∀ h p,loadA MX.ty h 224 p=ld1 h p:=fun _ _=>by kernel_rfl
@[simp] theorem ld_23:∀ h p,loadA MX.ty h 23 p=ld1 h p:=fun _ _=>by kernel_rfl
@[simp] theorem ld_231:∀ h p,loadA MX.ty h 231 p=ldN 5 h p:=fun _ _=>by kernel_rfl
@[simp] theorem ld_25:∀ h p,loadA MX.ty h 25 p=ldN 4 h p:=fun _ _=>by kernel_rfl
@[simp] theorem ld_26:∀ h p,loadA MX.ty h 26 p=ld1 h p:=fun _ _=>by kernel_rfl
@[simp] theorem ld_264:∀ h p,loadA MX.ty h 264 p=ld1 h p:=fun _ _=>by kernel_rfl
@[simp] theorem ld_265:∀ h p,loadA MX.ty h 265 p=ld1 h p:=fun _ _=>by kernel_rfl
@[simp] theorem ld_268:∀ h p,loadA MX.ty h 268 p=ld1 h p:=fun _ _=>by kernel_rfl
@[simp] theorem ld_270:∀ h p,loadA MX.ty h 270 p=ldN 3 h p:=fun _ _=>by kernel_rfl
@[simp] theorem ld_28:∀ h p,loadA MX.ty h 28 p=ldN 6 h p:=fun _ _=>by kernel_rfl
@[simp] theorem ld_282:∀ h p,loadA MX.ty h 282 p=ld1 h p:=fun _ _=>by kernel_rfl
@[simp] theorem ld_3:∀ h p,loadA MX.ty h 3 p=ld1 h p:=fun _ _=>by kernel_rfl
@[simp] theorem ld_301:∀ h p,loadA MX.ty h 301 p=ld1 h p:=fun _ _=>by kernel_rfl
@[simp] theorem ld_32:∀ h p,loadA MX.ty h 32 p=ld1 h p:=fun _ _=>by kernel_rfl
@[simp] theorem ld_34:∀ h p,loadA MX.ty h 34 p=ldN 3 h p:=fun _ _=>by kernel_rfl
@[simp] theorem ld_35:∀ h p,loadA MX.ty h 35 p=ld1 h p:=fun _ _=>by kernel_rfl
@[simp] theorem ld_5:∀ h p,loadA MX.ty h 5 p=ld1 h p:=fun _ _=>by kernel_rfl
@[simp] theorem ld_62:∀ h p,loadA MX.ty h 62 p=ldN 4 h p:=fun _ _=>by kernel_rfl
@[simp] theorem ld_9:∀ h p,loadA MX.ty h 9 p=ld1 h p:=fun _ _=>by kernel_rfl
@[simp] theorem lk_224:∀ m k ok h,lookupA MX.ty 224 m k ok h=lkA (some .string) .nilf m k ok h:=lk_of (kt:=9) (e:=225) (by kernel_rfl) (by kernel_rfl) (by kernel_rfl)
@[simp] theorem up_224:∀ m k v h,updateA MX.ty 224 m k v h=upA (some .string) m k v h:=fun m k v h=>by cases m <;> kernel_rfl
@[simp] theorem sl_100:∀ x lo hi mx,sliceA MX.ty 100 x lo hi mx=slA 1 x lo hi mx:=fun x lo hi mx=>by cases x <;> cases mx <;> cases hi <;> kernel_rfl
@[simp] theorem sl_101:∀ x lo hi mx,sliceA MX.ty 101 x lo hi mx=slA 2 x lo hi mx:=fun x lo hi mx=>by cases x <;> cases mx <;> cases hi <;> kernel_rfl
@[simp] theorem sl_22:∀ x lo hi mx,sliceA MX.ty 22 x lo hi mx=slA 3 x lo hi mx:=fun x lo hi mx=>by cases x <;> cases mx <;> cases hi <;> kernel_rfl
@[simp] theorem sl_232:∀ x lo hi mx,sliceA MX.ty 232 x lo hi mx=slA 5 x lo hi mx:=fun x lo hi mx=>by cases x <;> cases mx <;> cases hi <;> kernel_rfl
@[simp] theorem st_100:∀ h p v,storeA MX.ty h 100 p v=stA 1 h p v:=st_of (by kernel_rfl) (by kernel_rfl)
@[simp] theorem st_101:∀ h p v,storeA MX.ty h 101 p v=stA 1 h p v:=st_of (by kernel_rfl) (by kernel_rfl)
@[simp] theorem st_103:∀ h p v,storeA MX.ty h 103 p v=stA 3 h p v:=st_of (by kernel_rfl) (by kernel_rfl)
@[simp] theorem st_104:∀ h p v,storeA MX.ty h 104 p v=stA 1 h p v:=st_of (by kernel_rfl) (by kernel_rfl)
@[simp] theorem st_106:∀ h p v,storeA MX.ty h 106 p v=stA 2 h p v:=st_of (by kernel_rfl) (by kernel_rfl)
@[simp] theorem st_109:∀ h p v,storeA MX.ty h 109 p v=stA 5 h p v:=st_of (by kernel_rfl) (by kernel_rfl)
@[simp] theorem st_157:∀ h p v,storeA MX.ty h 157 p v=stA 1 h p v:=st_of (by kernel_rfl) (by kernel_rfl)
@[simp] theorem st_160:∀ h p v,storeA MX.ty h 160 p v=stA 1 h p v:=st_of (by kernel_rfl) (by kernel_rfl)
@[simp] theorem st_162:∀ h p v,storeA MX.ty h 162 p v=stA 2 h p v:=st_of (by kernel_rfl) (by kernel_rfl)
@[simp] theorem st_196:∀ h p v,storeA MX.ty h 196 p v=stA 3 h p v:=st_of (by kernel_rfl) (by kernel_rfl)
@[simp] theorem st_221:∀ h p v,storeA MX.ty h 221 p v=stA 2 h p v:=st_of (by kernel_rfl) (by kernel_rfl)
@[simp] theorem st_23:∀ h p v,storeA MX.ty h 23 p v=stA 1 h p v:=st_of (by kernel_rfl) (by kernel_rfl)
@[simp] theorem st_231:∀ h p v,storeA MX.ty h 231 p v=stA 5 h p v:=st_of (by kernel_rfl) (by kernel_rfl)
@[simp] theorem st_25:∀ h p v,storeA MX.ty h 25 p v=stA 4 h p v:=st_of (by kernel_rfl) (by kernel_rfl)
@[simp] theorem st_26:∀ h p v,storeA MX.ty h 26 p v=stA 1 h p v:=st_of (by kernel_rfl) (by kernel_rfl)
@[simp] theorem st_264:∀ h p v,storeA MX.ty h 264 p v=stA 1 h p v:=st_of (by kernel_rfl) (by kernel_rfl)
@[simp] theorem st_268:∀ h p v,storeA MX.ty h 268 p v=stA 1 h p v:=st_of (by kernel_rfl) (by kernel_rfl)
@[simp] theorem st_270:∀ h p v,storeA MX.ty h 270 p v=stA 3 h p v:=st_of (by kernel_rfl) (by kernel_rfl)
@[simp] theorem st_28:∀ h p v,storeA MX.ty h 28 p v=stA 6 h p v:=st_of (by kernel_rfl) (by kernel_rfl)
@[simp] theorem st_3:∀ h p v,storeA MX.ty h 3 p v=stA 1 h p v:=st_of (by kernel_rfl) (by kernel_rfl)
@[simp] theorem st_301:∀ h p v,storeA MX.ty h 301 p v=stA 1 h p v:=st_of (by kernel_rfl) (by kernel_rfl)
@[simp] theorem st_32:∀ h p v,storeA MX.ty h 32 p v=stA 1 h p v:=st_of (by kernel_rfl) (by kernel_rfl)
@[simp] theorem st_34:∀ h p v,storeA MX.ty h 34 p v=stA 3 h p v:=st_of (by kernel_rfl) (by kernel_rfl)
@[simp] theorem st_62:∀ h p v,storeA MX.ty h 62 p v=stA 4 h p v:=st_of (by kernel_rfl) (by kernel_rfl)
end Go.Proofs.Am12
