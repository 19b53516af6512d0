/- The abstract machine of this claim, part 11. -/
import Derived.Test.YtggemipepaajmaaGreatChk10
import Derived.Shelf.Sort.Plain
import Derived.Shelf.Slices.In.SortNone
import Derived.Shelf.Slices.CompactS
set_option linter.unusedSimpArgs false
set_option linter.unusedVariables false
set_option linter.unusedSectionVars false
set_option linter.unnecessarySimpa false
namespace Go.Am
open Go Go.Proofs Go.Sort Go.Shelf
def strs (l:List (List UInt8)):List (List AV):=l.map fun s=>[AV.str s]
def HR:List (List AV)→Option (List (List UInt8))
 | []=>some []
 | [.str s]::r=>(HR r).map (s :: ·)
 | _=>none
theorem Jt:∀ l,HR (strs l)=some l
 | []=>rfl
 | s::r=>by
  have:=Jt r
  simp only [strs,List.map_cons,HR] at this ⊢
  rw [this];rfl
theorem MP:∀ {es:List (List AV)} {l:List (List UInt8)},HR es=some l→es=strs l
 | [],l,h=>by simp only [HR,Option.some.injEq] at h;subst h;rfl
 | e::r,l,h=>by
  unfold HR at h
  split at h
  ·rename_i heq;cases heq
  ·rename_i s r' heq
   cases heq
   rw [Option.map_eq_some_iff] at h
   obtain ⟨l',h1,rfl⟩:=h
   rw [MP h1];rfl
  ·cases h
theorem GW (l:List (List UInt8)):(strs l).length=l.length:=by simp [strs]
theorem NG {l:List (List UInt8)} {i:Nat} {e:List AV} (h:(strs l)[i]? = some e):∃ s,l[i]? = some s∧e=[.str s]:=by
 simp only [strs,List.getElem?_map,Option.map_eq_some_iff] at h
 obtain ⟨s,h1,h2⟩:=h
 exact ⟨s,h1,h2.symm⟩
theorem Lf {g:G} {h:AE} {fr:Fr} {w:World} (s:Sim g h fr w) {id B c:Nat} {lk:Bool} {ss:List (List UInt8)} (hk:h[id]? = some (.arr 1 lk (strs ss))) (hp:g.pl id ss.length=some (B,c)) :
  Holds encStr w B 0 ss.toArray∧B<w.heap.size∧ss.length≤c:=by
 obtain ⟨B',c',vs,T,fz,h1,h2,h3,h4,h5,h6,h7,h8,h9,h10⟩:=s.blk id _ hk
 rw [GW] at h1 h4
 rw [hp] at h1
 simp only [Option.some.injEq,Prod.mk.injEq] at h1
 obtain ⟨rfl,rfl⟩:=h1
 refine ⟨fun j hj => ?_,s.lt _ _ _ _ hp,h4⟩
 simp only [List.size_toArray] at hj
 have hjv:j<vs.size:=by omega
 have he:(strs ss)[j]? = some [.str ss[j]]:=by simp [strs,hj]
 have hr:=h8 j _ he 0 _ vs[j] rfl (by simp [hjv])
 have e0:ss.toArray[j]! = ss[j]:=by simp [hj]
 rw [Nat.zero_add,e0]
 constructor
 ·rw [cell_of h2,Array.getElem?_eq_getElem hjv]
  generalize vs[j]=v at hr
  cases hr
  rfl
 ·unfold World.frozen?
  simp only [h2]
  have:=h5 j hjv
  by_cases ha:fz.1≤j
  ·simp [ha];omega
  ·simp [ha]
theorem Lh {g:G} {h:AE} {fr:Fr} {w:World} (s:Sim g h fr w) {id B c:Nat} {ss ss':List (List UInt8)} (hk:h[id]? = some (.arr 1 false (strs ss))) (hp:g.pl id ss.length=some (B,c)) (hl:ss'.length=ss.length) (n:Nat) (os:Array Obj) :
  Sim g (h.set id (.arr 1 false (strs ss'))) fr (grow (putRow encStr (Sort.ahead w n) B 0 ss'.toArray) os):=by
 obtain ⟨B',c',vs,T,fz,h1,h2,h3,h4,h5,h6,h7,h8,h9,h10⟩:=s.blk id _ hk
 rw [GW] at h1 h4 h10
 rw [hp] at h1
 simp only [Option.some.injEq,Prod.mk.injEq] at h1
 obtain ⟨rfl,rfl⟩:=h1
 have hB:B<w.heap.size:=s.lt _ _ _ _ hp
 have hid:id<h.length:=(List.getElem?_eq_some_iff.1 hk).1
 have hheap:∀ b,b<w.heap.size→(grow (putRow encStr (Sort.ahead w n) B 0 ss'.toArray) os).heap[b]? = if B=b then w.heap[b]?.map (onCells (putCells encStr 0 ss'.toArray)) else w.heap[b]? := by
  intro b hb
  simp only [grow,putRow,mapBlock,Sort.ahead]
  rw [Array.getElem?_append_left (by simpa using hb),Array.getElem?_modify]
 refine s.upd id _ hid g rfl (fun _ _ _=>rfl) (Le.refl g) (by simp [grow]) (fun b hb hne => ?_) (fun b o u hm => ?_) (fun gen b c hp=> .inl ⟨gen,c,hp⟩) ?_ rfl rfl rfl
 ·rw [hheap b hb,if_neg (fun e=>hne ss.length c (by rw [hp,e]))]
 ·have hbB:B≠b:=fun e=>by
   have:=h9 o (fun hh=>by cases hh)
   rw [e,hm] at this;cases this
  have h0:=s.mem b o u hm
  have hb:=s.Jl hm
  unfold World.cell? at h0 ⊢
  rw [hheap b hb,if_neg hbB]
  exact h0
 ·refine ⟨B,c,putCells encStr 0 ss'.toArray vs,T,fz,by rw [GW,hl];exact hp,?_,by simpa [putCells] using h3,by rw [GW,hl];exact h4,by simpa [putCells] using h5,fun i e he => ?_,fun i v hv => ?_,fun i e he k x v hx hv => ?_,fun o _=>h9 o (fun hh=>by cases hh),fun gen hgen=>h10 gen (by rw [GW,hl] at hgen;exact hgen)⟩
  ·rw [hheap B hB,if_pos rfl,h2];rfl
  ·obtain ⟨t,_,rfl⟩:=NG he
   rfl
  ·simp only [putCells,Array.getElem?_mapIdx,Option.map_eq_some_iff] at hv
   obtain ⟨a,ha,rfl⟩:=hv
   split
   ·rfl
   ·exact h7 i a ha
  ·obtain ⟨t,ht,rfl⟩:=NG he
   cases k with
   | succ k=>simp at hx
   | zero=>
    simp only [List.getElem?_cons_zero,Option.some.injEq] at hx
    subst hx
    have hi:i<ss'.length:=(List.getElem?_eq_some_iff.1 ht).1
    simp only [putCells,Array.getElem?_mapIdx,Option.map_eq_some_iff,Nat.mul_one,Nat.add_zero] at hv
    obtain ⟨a,ha,rfl⟩:=hv
    rw [if_pos ⟨Nat.zero_le _,by simpa using hi⟩]
    have:ss'.toArray[i - 0]! = t:=by
     rw [Nat.sub_zero]
     have:=(List.getElem?_eq_some_iff.1 ht)
     simp [hi,this.2]
    rw [this]
    exact .str _ _
def NH:List AV→AE→Option (CR×AE)
 | [.hs id gen 1 0 len _],h=>match h[id]? with
  | some (.arr 1 false es)=>match HR es with
   | some ss=>match Nat.beq es.length gen&&Nat.beq len gen&&Nat.blt 0 len&&Nat.blt len 4611686018427387904 with
    | true=>some (.ret (.tup []),h.set id (.arr 1 false (strs (ss.mergeSort fun x y=>decide (x≤y)))))
    | false=>none
   | none=>none
  | _=>none
 | [.AI],h=>some (.ret (.tup []),h)
 | _,_=>none
def Hs:List AV→AE→Option (CR×AE)
 | [.hs id gen 1 0 len false],h=>match h[id]? with
  | some (.arr 1 false es)=>match HR es with
   | some ss=>match Nat.beq es.length gen&&Nat.beq len gen&&Nat.blt 0 len&&Nat.blt len 4611686018427387904 with
    | true=>some (.ret (.hs id gen 1 0 (Lib.compact ss).length false),h.set id (.arr 1 false (strs (Lib.compact ss++List.replicate (ss.length - (Lib.compact ss).length) []))))
    | false=>none
   | none=>none
  | _=>none
 | [.AI],h=>some (.ret .AI,h)
 | _,_=>none
def JE:List AV→AE→Option (CR×AE)
 | [.int .u64 n],h=>match decide (0≤n∧n≤18446744073709551615) with
  | true=>some (.ret (.int .i64 (Lib.bitLen n.toNat)),h)
  | false=>none
 | _,_=>none
theorem Pc {g:G} {id gen sz off len:Nat} {ex:Bool} {x:Value} (hr:Rel g true (.hs id gen sz off len ex) x) (h0:0<len) :
  ∃ B c c',g.pl id gen=some (B,c)∧off+len≤c∧x=.slice (some ⟨B,off * sz,none⟩) len c'∧c'=(if ex then len else c - off)∧len≤c':=by
 cases hr with
 | hs _ _ _ _ _ _ B c o c' h h1 hc ho=>
  have hle:len≤c':=by rw [hc];split <;> omega
  have:=ho (by omega)
  subst this
  exact ⟨B,c,c',h,h1,rfl,hc,hle⟩
theorem Ht {g:G} {a:AV} {cargs:Array Value} (h:Aw g true [a] cargs):∃ x,cargs = #[x]∧Rel g true a x:=by
 obtain ⟨h1,h2⟩:=h
 match cargs,h1 with
 | ⟨[x]⟩,_=>exact ⟨x,rfl,h2 0 a x rfl rfl⟩
section
variable {P:Program} {ρ:Ren}
theorem Us (Ly:Lays.n190 P ρ) {args:List AV} {h h':AE} {r:CR} (he:NH args h=some (r,h')) {g:G} {fr:Fr} {w:World} {cargs:Array Value} (sim:Sim g h fr w) (hr:Aw g true args cargs) :
  Calls P (ρ.f 190) cargs w fun e w'=>∃ g',Le g g'∧Sim g' h' fr w'∧I7 g' r e:=by
 unfold NH at he
 split at he
 ·rename_i id gen len ex
  split at he
  ·rename_i es hk
   split at he
   ·rename_i ss hss
    split at he
    ·rename_i hc
     simp only [Bool.and_eq_true,Bs,Fg] at hc
     simp only [Option.some.injEq,Prod.mk.injEq] at he
     obtain ⟨rfl,rfl⟩:=he
     have hes:=MP hss
     subst hes
     rw [GW] at hc
     obtain ⟨⟨⟨hg,hl⟩,h0⟩,hb⟩:=hc
     subst hg;subst hl
     obtain ⟨x,rfl,hx⟩:=Ht hr
     obtain ⟨B,c,c',hp,h1,rfl,h2,h3⟩:=Pc hx h0
     obtain ⟨hH,hB,hc⟩:=Lf sim hk hp
     refine (Any.slices_Sort_string Ly B 0 c' ss w hH hB hb).mono fun e w' he => ?_
     obtain ⟨rfl,n,os,rfl⟩:=he
     exact ⟨g,Le.refl g,Lh sim hk hp (by rw [List.length_mergeSort]) n os,.tup true [] #[] rfl (fun i c v h=>by simp at h)⟩
    ·cases he
   ·cases he
  ·cases he
 ·simp only [Option.some.injEq,Prod.mk.injEq] at he
  obtain ⟨rfl,rfl⟩:=he
  obtain ⟨x,rfl,hx⟩:=Ht hr
  cases hx
  refine (Any.slices_Sort_string_none Ly none 0 w).mono fun e w' he => ?_
  obtain ⟨rfl,rfl⟩:=he
  exact ⟨g,Le.refl g,sim,.tup true [] #[] rfl (fun i c v h=>by simp at h)⟩
 ·cases he
theorem NI {α:Type} [Inhabited α] [DecidableEq α] (zs:List α):(Lib.compact zs).length≤zs.length:=by
 unfold Lib.compact Lib.compactUpTo
 simp only [List.length_map]
 exact Nat.le_trans (List.length_filter_le _ _) (by simp)
theorem Od (Ly:Lays.n194 P ρ) {args:List AV} {h h':AE} {r:CR} (he:Hs args h=some (r,h')) {g:G} {fr:Fr} {w:World} {cargs:Array Value} (sim:Sim g h fr w) (hr:Aw g true args cargs) :
  Calls P (ρ.f 194) cargs w fun e w'=>∃ g',Le g g'∧Sim g' h' fr w'∧I7 g' r e:=by
 unfold Hs at he
 split at he
 ·rename_i id gen len
  split at he
  ·rename_i es hk
   split at he
   ·rename_i ss hss
    split at he
    ·rename_i hc
     simp only [Bool.and_eq_true,Bs,Fg] at hc
     simp only [Option.some.injEq,Prod.mk.injEq] at he
     obtain ⟨rfl,rfl⟩:=he
     have hes:=MP hss
     subst hes
     rw [GW] at hc
     obtain ⟨⟨⟨hg,hl⟩,h0⟩,hb⟩:=hc
     subst hg;subst hl
     obtain ⟨x,rfl,hx⟩:=Ht hr
     obtain ⟨B,c,c',hp,h1,rfl,h2,h3⟩:=Pc hx h0
     obtain ⟨hH,hB,hc⟩:=Lf sim hk hp
     refine (Any.slices_Compact_string Ly B 0 c' ss w hH (by omega) h3).mono fun e w' he => ?_
     obtain ⟨rfl,q,rfl⟩:=he
     have hcl:=NI ss
     have ht:=Lh sim hk hp (ss':=Lib.compact ss++List.replicate (ss.length - (Lib.compact ss).length) []) (by simp;omega) q #[]
     rw [grow_empty] at ht
     refine ⟨g,Le.refl g,ht,?_⟩
     have:=Rel.hs (g:=g) id ss.length 1 0 (Lib.compact ss).length false B c 0 c' hp (by omega) (by simpa using h2) (fun _=>rfl)
     exact this
    ·cases he
   ·cases he
  ·cases he
 ·simp only [Option.some.injEq,Prod.mk.injEq] at he
  obtain ⟨rfl,rfl⟩:=he
  obtain ⟨x,rfl,hx⟩:=Ht hr
  cases hx
  refine (Any.slices_Compact_string_empty Ly none 0 w).mono fun e w' he => ?_
  obtain ⟨rfl,rfl⟩:=he
  exact ⟨g,Le.refl g,sim,.AI _⟩
 ·cases he
theorem Qh (Ly:Lays.n125 P ρ) {args:List AV} {h h':AE} {r:CR} (he:JE args h=some (r,h')) {g:G} {fr:Fr} {w:World} {cargs:Array Value} (sim:Sim g h fr w) (hr:Aw g true args cargs) :
  Calls P (ρ.f 125) cargs w fun e w'=>∃ g',Le g g'∧Sim g' h' fr w'∧I7 g' r e:=by
 unfold JE at he
 split at he
 ·split at he
  ·rename_i hd
   have hd:=of_decide_eq_true hd
   simp only [Option.some.injEq,Prod.mk.injEq] at he
   obtain ⟨rfl,rfl⟩:=he
   obtain ⟨x,rfl,hx⟩:=Ht hr
   cases hx
   have hcall:=calls_of_every_depth fun D=>AnyS.bits_LenInS Ly D _ w hd.1 hd.2
   refine hcall.mono fun e w' he => ?_
   obtain ⟨rfl,rfl⟩:=he
   exact ⟨g,Le.refl g,sim,.int _ _ _⟩
  ·cases he
 ·cases he
end
end Go.Am
namespace Go.Proofs.Am12
open Go Go.Am
def effX (f:FuncId):Option (List AV→AE→Option (CR×AE)):=match Nat.beq f 149 with
 | true=>some NH
 | false=>match Nat.beq f 150 with
  | true=>some Hs
  | false=>match Nat.beq f 184 with
   | true=>some JE
   | false=>none
def Ut:FuncId→Bool:=fun f=>Nat.beq f 174||(Nat.beq f 197||(Nat.beq f 216||(Nat.beq f 238||(Nat.beq f 239||(Nat.beq f 265||(Nat.beq f 79||(Nat.beq f 82||(Nat.beq f 83||(Nat.beq f 116||(Nat.beq f 147||(Nat.beq f 182||(Nat.beq f 199||(Nat.beq f 63||(Nat.beq f 159||(Nat.beq f 189||(Nat.beq f 218||(Nat.beq f 246||(Nat.beq f 76))))))))))))))))))
noncomputable def MX:Par := { MW with eff:=effX,mode:=fun f=>match Ut f with
 | true => {}
 | false=>MW.mode f }
theorem Pd:Fits MX Tryz.prog:=⟨NB.ty,NB.fn,NB.mixed,NB.fld,NB.elm⟩
theorem primX:Cl MX Tryz.prog:=fun f p hp=>primW f p hp
theorem Xl:Rs MX Tryz.prog:=by
 intro f e he args h r h' hr
 change effX f=some e at he
 unfold effX at he
 split at he
 ·rename_i hf
  have:=Bs.1 hf;subst this
  simp only [Option.some.injEq] at he;subst he
  exact ⟨⟨Tryz.f149,_,by kernel_rfl,rfl⟩,fun g fr w cargs sim ha=>Us Tryz.Uq hr sim ha⟩
 ·split at he
  ·rename_i hf
   have:=Bs.1 hf;subst this
   simp only [Option.some.injEq] at he;subst he
   exact ⟨⟨Tryz.f150,_,by kernel_rfl,rfl⟩,fun g fr w cargs sim ha=>Od Tryz.Ur hr sim ha⟩
  ·split at he
   ·rename_i hf
    have:=Bs.1 hf;subst this
    simp only [Option.some.injEq] at he;subst he
    exact ⟨⟨Tryz.f184,_,by kernel_rfl,rfl⟩,fun g fr w cargs sim ha=>Qh Tryz.Up hr sim ha⟩
   ·cases he
end Go.Proofs.Am12
namespace Go.Am
open Go
def CLe (C C':CH):Prop:=∀ f a h r,C f a h=some r→C' f a h=some r
section
variable {M:Par} {C C':CH} (hC:CLe C C')
include hC
theorem NJ:CLe (AK M C) (AK M C'):=by
 intro f a h r hr
 unfold AK at hr ⊢
 split at hr
 ·exact hC _ _ _ _ hr
 ·split at hr
  ·cases hr
  ·split at hr
   ·cases hr
   ·cases hc:C f _ [] with
    | none=>rw [hc] at hr;cases hr
    | some x=>rw [hc] at hr;rw [hC _ _ _ _ hc];exact hr
theorem Li {fid:Nat} {t:Tm} {op:Op} {h:AE} {r:OR} (hr:Ap M fid C t op h=some r):Ap M fid C' t op h=some r:=by
 cases op with
 | makeFunc f _ _=>cases f <;> exact hr
 | makeMap _ r0=>cases r0 <;> exact hr
 | call c=>
  obtain ⟨callee,args,ats⟩:=c
  cases callee with
  | value f=>
   simp only [Ap,EK] at hr ⊢
   split at hr
   ·split at hr
    ·exact hr
    ·rename_i g fs cap vs _ _ _ _
     cases hd:AK M C g (fs++vs++cap) h with
     | none=>rw [hd] at hr;cases hr
     | some x=>rw [hd] at hr;rw [NJ hC _ _ _ _ hd];exact hr
   ·cases hr
  | builtin b=>exact hr
  | invoke=>exact hr
 | _=>exact hr
theorem Gw {fid N:Nat} {ops:Array Oper}:∀ {l:List Oper} {t:Tm} {h:AE} {ks:List Kd} {r:RO},BP M fid N C ops l t h ks=some r→BP M fid N C' ops l t h ks=some r
 | [],_,_,_,_,hr=>hr
 | o::l,t,h,ks,r,hr=>by
  simp only [BP] at hr ⊢
  split at hr
  ·cases hr
  ·split at hr
   ·rename_i hp
    exact Gw hr
   ·cases hr
  ·cases ho:Ap M fid C t o.op h with
   | none=>rw [ho] at hr;cases hr
   | some x=>
    rw [ho] at hr
    rw [Li hC ho]
    cases x with
    | val v h'=>
     simp only at hr ⊢
     split at hr
     ·exact Gw hr
     ·cases hr
    | pan v h'=>exact hr
theorem MQ {fid N id:Nat} {ops:Array Oper} {d:Bool} {s:St} {r:Ex×St} (hr:BT M fid N C id ops d s=some r):BT M fid N C' id ops d s=some r:=by
 unfold BT at hr ⊢
 cases ho:BP M fid N C ops ops.toList s.1 s.2 [] with
 | none=>rw [ho] at hr;cases hr
 | some x=>rw [ho] at hr;rw [Gw hC ho];exact hr
end
theorem IE {f g:St→Option (Ex×St)} (hf:∀ s r,f s=some r→g s=some r):∀ {n m:Nat} {s:St} {r:Ex×St},n≤m→iter n f s=some r→iter m g s=some r
 | 0,_,_,_,_,h=>by cases h
 | n+1,0,_,_,hle,_=>by omega
 | n+1,m+1,s,r,hle,h=>by
  simp only [iter] at h ⊢
  cases hs:f s with
  | none=>rw [hs] at h;cases h
  | some x=>
   rw [hs] at h
   rw [hf _ _ hs]
   obtain ⟨e,s'⟩:=x
   cases e with
   | nrm=>exact IE hf (by omega) h
   | ext=>exact h
   | ret=>exact h
   | pan=>exact h
theorem Cc {M:Par} {C C':CH} (hC:CLe C C') {fid N L L':Nat} (hL:L≤L'):∀ {c:Code} {s:St} {r:Ex×St},codeF M fid N C L c s=some r→codeF M fid N C' L' c s=some r
 | .skip,_,_,h=>h
 | .region id ops d,s,r,h=>by simp only [codeF] at h ⊢;exact MQ hC h
 | .seq a b,s,r,h=>by
  simp only [codeF] at h ⊢
  cases ha:codeF M fid N C L a s with
  | none=>rw [ha] at h;cases h
  | some x=>
   rw [ha] at h
   rw [Cc hC hL ha]
   obtain ⟨e,s'⟩:=x
   cases e with
   | nrm=>exact Cc hC hL h
   | ext=>exact h
   | ret=>exact h
   | pan=>exact h
 | .cond c a b,s,r,h=>by
  simp only [codeF] at h ⊢
  split at h
  ·exact Cc hC hL h
  ·exact Cc hC hL h
  ·cases h
 | .block id c,s,r,h=>by
  simp only [codeF] at h ⊢
  cases ha:codeF M fid N C L c s with
  | none=>rw [ha] at h;cases h
  | some x=>rw [ha] at h;rw [Cc hC hL ha];exact h
 | .loop c,s,r,h=>by
  simp only [codeF] at h ⊢
  exact IE (fun s r h=>Cc hC hL h) hL h
 | .exit _,_,_,h=>h
 | .ret,_,_,h=>h
 | .scope _,_,_,h=>by simp [codeF] at h
 | .rangeFunc ..,_,_,h=>by simp [codeF] at h
 | .label _,_,_,h=>by simp [codeF] at h
 | .goto _,_,_,h=>by simp [codeF] at h
 | .refuse _,_,_,h=>by simp [codeF] at h
theorem Qi {M:Par} {C C':CH} (hC:CLe C C') {L L':Nat} (hL:L≤L'):CLe (Jz M C L) (Jz M C' L'):=by
 intro f a h r hr
 unfold Jz at hr ⊢
 split at hr
 ·cases hr
 ·rename_i fn hfn
  split at hr
  ·cases hr
  ·rename_i c hc
   split at hr
   ·rename_i hle
    cases hx:codeF M f fn.ntmps C L c (Tm.init 0 a,h) with
    | none=>rw [hx] at hr;cases hr
    | some x=>rw [hx] at hr;rw [Cc hC hL hx];exact hr
   ·cases hr
theorem Kf (M:Par):∀ n,CLe (C9 M n) (C9 M (n+1))
 | 0=>fun f a h r hr=>by cases hr
 | n+1=>fun f a h r hr=>by
  simp only [C9] at hr ⊢
  split at hr
  ·exact hr
  ·exact Qi (Kf M n) (Nat.le_succ n) f a h r hr
theorem Dd (M:Par) {n m:Nat} (h:n≤m):CLe (C9 M n) (C9 M m):=by
 induction m with
 | zero=>rw [Nat.le_zero.1 h];exact fun _ _ _ _ h=>h
 | succ m ih=>
  by_cases he:n=m+1
  ·rw [he];exact fun _ _ _ _ h=>h
  ·exact fun f a hh r hr=>Kf M m f a hh r (ih (by omega) f a hh r hr)
def Comes (M:Par) (f:FuncId) (args:List AV) (h:AE) (r:CR×AE):Prop:=∃ n,C9 M n f args h=some r
theorem Comes.at {M:Par} {f:FuncId} {args:List AV} {h:AE} {r:CR×AE} (hc:Comes M f args h r):∃ n,∀ m,n≤m→C9 M m f args h=some r:=by
 obtain ⟨n,hn⟩:=hc
 exact ⟨n,fun m hm=>Dd M hm _ _ _ _ hn⟩
end Go.Am
namespace Go.Am
open Go
open Classical in
noncomputable def lim {α β:Type} (F:Nat→α→Option β) (x:α):Option β:=if h:∃ r,∃ n,F n x=some r then some (Classical.choose h) else none
theorem NK {α β:Type} {F:Nat→α→Option β} (hm:∀ n m x r,n≤m→F n x=some r→F m x=some r) {x:α} {r:β}:lim F x=some r↔∃ n,F n x=some r:=by
 unfold lim
 constructor
 ·intro h
  split at h
  ·rename_i hx
   simp only [Option.some.injEq] at h
   rw [← h]
   exact Classical.choose_spec hx
  ·cases h
 ·rintro ⟨n,hn⟩
  have hx:∃ r,∃ n,F n x=some r:=⟨r,n,hn⟩
  rw [dif_pos hx]
  obtain ⟨m,hm'⟩:=Classical.choose_spec hx
  have h1:=hm _ (max n m) _ _ (Nat.le_max_left n m) hn
  have h2:=hm _ (max n m) _ _ (Nat.le_max_right n m) hm'
  rw [h1] at h2
  exact h2.symm
noncomputable def Lj (f:St→Option (Ex×St)) (s:St):Option (Ex×St):=lim (fun n s=>iter n f s) s
theorem HS {f:St→Option (Ex×St)} {s:St} {r:Ex×St}:Lj f s=some r↔∃ n,iter n f s=some r:=
 NK (F:=fun n s=>iter n f s) fun n m x r h hr=>IE (fun _ _ h=>h) h hr
theorem Oe {f:St→Option (Ex×St)} {s s':St} {r:Ex×St} (h:f s=some (.nrm,s')) (hl:Lj f s'=some r):Lj f s=some r:=by
 obtain ⟨n,hn⟩:=HS.1 hl
 exact HS.2 ⟨n+1,by simp only [iter,h];exact hn⟩
theorem Qj {f:St→Option (Ex×St)} {s s':St} {e:Ex} (h:f s=some (e,s')) (he:e≠.nrm):Lj f s=some (e,s'):=by
 refine HS.2 ⟨1,?_⟩
 simp only [iter,h]
 cases e <;> first | rfl | exact absurd rfl he
noncomputable def AW (M:Par) (fid N:Nat) (C:CH):Code→St→Option (Ex×St)
 | .skip,s=>some (.nrm,s)
 | .region id ops d,s=>BT M fid N C id ops d s
 | .seq a b,s=>match AW M fid N C a s with
  | some (.nrm,s')=>AW M fid N C b s'
  | r=>r
 | .cond c a b,s=>match ev s.1 c with
  | some (.bool true)=>AW M fid N C a s
  | some (.bool false)=>AW M fid N C b s
  | _=>none
 | .block id c,s=>match AW M fid N C c s with
  | some (.ext j,s')=>match Nat.beq j id with
   | true=>some (.nrm,s')
   | false=>some (.ext j,s')
  | r=>r
 | .loop c,s=>Lj (AW M fid N C c) s
 | .exit id,s=>some (.ext id,s)
 | .ret,s=>some (.ret,s)
 | _,_=>none
noncomputable def AH (M:Par):CH:=fun f a h=>lim (fun n (x:FuncId×List AV×AE)=>C9 M n x.1 x.2.1 x.2.2) (f,a,h)
theorem Fm {M:Par} {f:FuncId} {a:List AV} {h:AE} {r:CR×AE}:AH M f a h=some r↔∃ n,C9 M n f a h=some r:=
 NK (F:=fun n (x:FuncId×List AV×AE)=>C9 M n x.1 x.2.1 x.2.2) fun n m x r h hr=>Dd M h _ _ _ _ hr
noncomputable def AN (M:Par) (f:FuncId) (args:List AV) (h:AE):Option (CR×AE):=
 match M.fn f with
 | none=>none
 | some fn=>match fn.body with
  | none=>none
  | some c=>match Nat.ble args.length fn.ntmps with
   | true=>finish M.ty fn (AW M f fn.ntmps (AH M) c (Tm.init 0 args,h))
   | false=>none
section
variable {M:Par}
theorem Og {f:FuncId} {a:List AV} {h:AE} {r:CR×AE} (hr:AK M (AH M) f a h=some r):∃ n,AK M (C9 M n) f a h=some r:=by
 unfold AK at hr
 split at hr
 ·rename_i hf
  obtain ⟨n,hn⟩:=Fm.1 hr
  exact ⟨n,by unfold AK;rw [hf];exact hn⟩
 ·rename_i hf
  split at hr
  ·cases hr
  ·rename_i args' h' hs
   split at hr
   ·cases hr
   ·rename_i hn
    cases hc:AH M f args' [] with
    | none=>rw [hc] at hr;cases hr
    | some x=>
     obtain ⟨n,hn'⟩:=Fm.1 hc
     refine ⟨n,?_⟩
     rw [hc] at hr
     unfold AK
     simp only [hf,hs,hn,hn']
     exact hr
theorem SH {fid:Nat} {t:Tm} {op:Op} {h:AE} {r:OR} (hr:Ap M fid (AH M) t op h=some r):∃ n,Ap M fid (C9 M n) t op h=some r:=by
 cases op with
 | makeFunc f _ _=>cases f <;> exact ⟨0,hr⟩
 | makeMap _ r0=>cases r0 <;> exact ⟨0,hr⟩
 | call c=>
  obtain ⟨callee,args,ats⟩:=c
  cases callee with
  | value f=>
   simp only [Ap,EK] at hr ⊢
   split at hr
   ·split at hr
    ·exact ⟨0,hr⟩
    ·rename_i g fs cap vs _ _ _ _
     cases hd:AK M (AH M) g (fs++vs++cap) h with
     | none=>rw [hd] at hr;cases hr
     | some x=>
      rw [hd] at hr
      obtain ⟨n,hn⟩:=Og hd
      exact ⟨n,by rw [hn];exact hr⟩
   ·cases hr
  | builtin b=>exact ⟨0,hr⟩
  | invoke=>exact ⟨0,hr⟩
 | _=>exact ⟨0,hr⟩
theorem Iq {fid N:Nat} {ops:Array Oper}:∀ {l:List Oper} {t:Tm} {h:AE} {ks:List Kd} {r:RO},BP M fid N (AH M) ops l t h ks=some r→∃ n,BP M fid N (C9 M n) ops l t h ks=some r
 | [],_,_,_,_,hr=>⟨0,hr⟩
 | o::l,t,h,ks,r,hr=>by
  simp only [BP] at hr ⊢
  split at hr
  ·cases hr
  ·split at hr
   ·exact Iq hr
   ·cases hr
  ·cases ho:Ap M fid (AH M) t o.op h with
   | none=>rw [ho] at hr;cases hr
   | some x=>
    obtain ⟨n,hn⟩:=SH ho
    rw [ho] at hr
    cases x with
    | val v h'=>
     simp only at hr
     split at hr
     ·rename_i t' hp
      obtain ⟨m,hm⟩:=Iq hr
      refine ⟨max n m,?_⟩
      rw [Li (Dd M (Nat.le_max_left n m)) hn]
      simp only [hp]
      exact Gw (Dd M (Nat.le_max_right n m)) hm
     ·cases hr
    | pan v h'=>exact ⟨n,by rw [hn];exact hr⟩
theorem Fo {fid N:Nat}:∀ {c:Code} {s:St} {r:Ex×St},AW M fid N (AH M) c s=some r→∃ n,codeF M fid N (C9 M n) n c s=some r
 | .skip,_,_,h=>⟨0,h⟩
 | .region id ops d,s,r,h=>by
  simp only [AW] at h
  simp only [codeF]
  unfold BT at h ⊢
  cases ho:BP M fid N (AH M) ops ops.toList s.1 s.2 [] with
  | none=>rw [ho] at h;cases h
  | some x=>
   obtain ⟨n,hn⟩:=Iq ho
   rw [ho] at h
   exact ⟨n,by rw [hn];exact h⟩
 | .seq a b,s,r,h=>by
  simp only [AW] at h
  simp only [codeF]
  cases ha:AW M fid N (AH M) a s with
  | none=>rw [ha] at h;cases h
  | some x=>
   obtain ⟨n,hn⟩:=Fo ha
   rw [ha] at h
   obtain ⟨e,s'⟩:=x
   cases e with
   | nrm=>
    obtain ⟨m,hm⟩:=Fo (c:=b) h
    refine ⟨max n m,?_⟩
    rw [Cc (Dd M (Nat.le_max_left n m)) (Nat.le_max_left n m) hn]
    exact Cc (Dd M (Nat.le_max_right n m)) (Nat.le_max_right n m) hm
   | ext=>exact ⟨n,by rw [hn];exact h⟩
   | ret=>exact ⟨n,by rw [hn];exact h⟩
   | pan=>exact ⟨n,by rw [hn];exact h⟩
 | .cond c a b,s,r,h=>by
  simp only [AW] at h
  simp only [codeF]
  split at h
  ·rename_i hc
   obtain ⟨n,hn⟩:=Fo h
   exact ⟨n,by rw [hc];exact hn⟩
  ·rename_i hc
   obtain ⟨n,hn⟩:=Fo h
   exact ⟨n,by rw [hc];exact hn⟩
  ·cases h
 | .block id c,s,r,h=>by
  simp only [AW] at h
  simp only [codeF]
  cases ha:AW M fid N (AH M) c s with
  | none=>rw [ha] at h;cases h
  | some x=>
   obtain ⟨n,hn⟩:=Fo ha
   rw [ha] at h
   exact ⟨n,by rw [hn];exact h⟩
 | .loop c,s,r,h=>by
  simp only [AW] at h
  simp only [codeF]
  obtain ⟨k,hk⟩:=HS.1 h
  have key:∀ (k:Nat) (s:St),iter k (AW M fid N (AH M) c) s=some r→∃ n,iter n (codeF M fid N (C9 M n) n c) s=some r:=by
   intro k
   induction k with
   | zero=>intro s h;cases h
   | succ k ih=>
    intro s h
    simp only [iter] at h
    cases ha:AW M fid N (AH M) c s with
    | none=>rw [ha] at h;cases h
    | some x=>
     obtain ⟨n,hn⟩:=Fo ha
     rw [ha] at h
     obtain ⟨e,s'⟩:=x
     cases e with
     | nrm=>
      obtain ⟨m,hm⟩:=ih s' h
      refine ⟨max n m+1,?_⟩
      simp only [iter]
      rw [Cc (Dd M (by omega)) (by omega:n≤max n m+1) hn]
      exact IE (fun s r h=>Cc (Dd M (by omega)) (by omega:m≤max n m+1) h) (Nat.le_max_right n m) hm
     | ext=>exact ⟨n+1,by simp only [iter];rw [Cc (Dd M (by omega)) (by omega:n≤n+1) hn];exact h⟩
     | ret=>exact ⟨n+1,by simp only [iter];rw [Cc (Dd M (by omega)) (by omega:n≤n+1) hn];exact h⟩
     | pan=>exact ⟨n+1,by simp only [iter];rw [Cc (Dd M (by omega)) (by omega:n≤n+1) hn];exact h⟩
  exact key k s hk
 | .exit _,_,_,h=>⟨0,h⟩
 | .ret,_,_,h=>⟨0,h⟩
 | .scope _,_,_,h=>by simp [AW] at h
 | .rangeFunc ..,_,_,h=>by simp [AW] at h
 | .label _,_,_,h=>by simp [AW] at h
 | .goto _,_,_,h=>by simp [AW] at h
 | .refuse _,_,_,h=>by simp [AW] at h
theorem HB {f:FuncId} {a:List AV} {h:AE} {r:CR×AE} (he:M.eff f=none) (hr:AN M f a h=some r):AH M f a h=some r:=by
 unfold AN at hr
 split at hr
 ·cases hr
 ·rename_i fn hfn
  split at hr
  ·cases hr
  ·rename_i c hc
   split at hr
   ·rename_i hle
    cases hx:AW M f fn.ntmps (AH M) c (Tm.init 0 a,h) with
    | none=>rw [hx] at hr;cases hr
    | some x=>
     obtain ⟨n,hn⟩:=Fo hx
     rw [hx] at hr
     refine Fm.2 ⟨n+1,?_⟩
     simp only [C9,he]
     unfold Jz
     simp only [hfn,hc,hle,hn]
     exact hr
   ·cases hr
theorem Ll {f:FuncId} {a:List AV} {h:AE} {r:CR×AE} {e:List AV→AE→Option (CR×AE)} (he:M.eff f=some e) (hr:e a h=some r):AH M f a h=some r:=
 Fm.2 ⟨1,by simp only [C9,he];exact hr⟩
end
def CJ:Code→List Code
 | .seq a b=>CJ a++CJ b
 | .cond _ a b=>CJ a++CJ b
 | .block _ c=>CJ c
 | .loop c=>c::CJ c
 | _=>[]
def AP (fn:Func) (k:Nat):Code:=match fn.body with
 | some c=>(CJ c).getD k .skip
 | none=> .skip
theorem Hu {i n:Nat} (h:i<n):Es (i:Int) n=some i:=by
 have h2:((i:Int)<(n:Int)):=by omega
 simp [Es,h]
theorem BD {n:Int} (h:0≤n) (h2:n<9223372036854775808):wr .i64 n=n:=by
 simp [wr,G7,h,h2]
section
variable (M:Par) (fid N:Nat) (C:CH)
noncomputable def Em (c:Code) (s:St):Option (Ex×St):=Lj (AW M fid N C c) s
theorem Dq (s:St):AW M fid N C .skip s=some (.nrm,s):=rfl
theorem B8 (id:Nat) (ops:Array Oper) (d:Bool) (s:St):AW M fid N C (.region id ops d) s=BT M fid N C id ops d s:=rfl
theorem EL (a b:Code) (s:St):AW M fid N C (.seq a b) s=(match AW M fid N C a s with
  | some (.nrm,s')=>AW M fid N C b s'
  | r=>r):=rfl
theorem Dr (c:Operand) (a b:Code) (s:St):AW M fid N C (.cond c a b) s=(match ev s.1 c with
  | some (.bool true)=>AW M fid N C a s
  | some (.bool false)=>AW M fid N C b s
  | _=>none):=rfl
theorem CS (id:Nat) (c:Code) (s:St):AW M fid N C (.block id c) s=(match AW M fid N C c s with
  | some (.ext j,s')=>(match Nat.beq j id with
   | true=>some (.nrm,s')
   | false=>some (.ext j,s'))
  | r=>r):=rfl
theorem Ds (c:Code) (s:St):AW M fid N C (.loop c) s=Em M fid N C c s:=rfl
theorem Dt (id:Nat) (s:St):AW M fid N C (.exit id) s=some (.ext id,s):=rfl
theorem Ee (s:St):AW M fid N C .ret s=some (.ret,s):=rfl
variable {M fid N C}
theorem Kg {c:Code} {s s':St} {r:Ex×St} (h:AW M fid N C c s=some (.nrm,s')) (hl:Em M fid N C c s'=some r):Em M fid N C c s=some r:=Oe h hl
theorem IG {c:Code} {s s':St} {e:Ex} (h:AW M fid N C c s=some (e,s')) (he:e≠.nrm):Em M fid N C c s=some (e,s'):=Qj h he
end
end Go.Am
namespace Go.Am
open Go
def ld1 (h:AE) (p:AV):Option AV:=(DC h p).bind List.head?
def FM (n:Nat) (cs:List AV):Option AV:=match Nat.ble n cs.length with
 | true=>some (.agg (cs.take n))
 | false=>none
def ldN (n:Nat) (h:AE) (p:AV):Option AV:=(DC h p).bind (FM n)
def faA (off:Nat) (p:AV):Option AV:=match p with
 | .ro cs=>some (.ro (cs.drop off))
 | .hp id o=>some (.hp id (o+off))
 | .ep id gen sz i k=>some (.ep id gen sz i (k+off))
 | _=>none
def stA (n:Nat) (h:AE) (p v:AV):Option AE:=
 match v.cells with
 | some cs=>
  match Nat.beq cs.length n with
  | true=>match p with
   | .hp id off=>match h[id]? with
    | some (.var false old)=>match Nat.ble (off+cs.length) old.length with
     | true=>some (h.set id (.var false (A3 old off cs)))
     | false=>none
    | _=>none
   | .ep id gen sz' i k=>match h[id]? with
    | some (.arr sz false es)=>match Nat.beq es.length gen&&Nat.beq sz sz',es[i]? with
     | true,some e=>match Nat.ble (k+cs.length) e.length with
      | true=>some (h.set id (.arr sz false (es.set i (A3 e k cs))))
      | false=>none
     | _,_=>none
    | _=>none
   | _=>none
  | false=>none
 | none=>none
def ixA (sz:Nat) (x ix:AV):Option AV:=
 match x,intOf ix with
 | .sl s _ es,some i=>match Nat.beq s sz&&true,Es i es.length with
  | true,some j=>(es[j]?).map .ro
  | _,_=>none
 | .hs id gen s off len _,some i=>match Nat.beq s sz&&true,Es i len with
  | true,some j=>some (.ep id gen s (off+j) 0)
  | _,_=>none
 | _,_=>none
def ixS (x ix:AV):Option AV:=
 match x,intOf ix with
 | .str s,some i=>match Es i s.length with
  | some j=>(s[j]?).map fun b=> .int .u8 b.toNat
  | none=>none
 | _,_=>none
def Bu (x:AV) (h:AE):Option OR:=match x with
 | .AI=>some (.val (.int .i64 0) h)
 | .sl _ _ es=>some (.val (.int .i64 es.length) h)
 | .hs _ _ _ _ l _=>some (.val (.int .i64 l) h)
 | _=>none
def XG (x:AV) (h:AE):Option OR:=match x with
 | .str s=>some (.val (.int .i64 s.length) h)
 | _=>none
def apX (sz byt:Nat) (s:AV) (xs:List (List AV)) (n:Nat) (h:AE):Option (AV×AE):=
 match CE sz s&&Nat.blt 0 sz&&Nat.ble ((n+xs.length) * byt) 17592186044416&&Nat.ble (n+xs.length) 17592186044416&&true with
 | false=>none
 | true=>match xs with
  | []=>match s with
   | .AI=>some (s,h)
   | .sl .. => some (s,h)
   | .hs .. => some (s,h)
   | _=>none
  | _::_=>match s with
   | .AI=>some (Av h sz xs)
   | .sl _ true es=>some (Av h sz (es++xs))
   | .hs id gen sz0 off len ex=>match h[id]? with
    | some (.arr sz' lk es)=>match Nat.beq es.length gen&&Nat.beq sz' sz0&&Nat.ble (off+len) es.length with
     | false=>none
     | true=>match ex with
      | true=>some (Av h sz ((es.drop off).take len++xs))
      | false=>match Nat.beq off 0&&(Nat.beq len es.length||(!lk&&Nat.blt es.length (len+xs.length))) with
       | true=>some (.hs id (len+xs.length) sz0 0 (len+xs.length) false,h.set id (.arr sz0 lk (es.take len++xs)))
       | false=>match !lk&&Nat.ble (off+len+xs.length) es.length with
        | true=>some (.hs id gen sz0 off (len+xs.length) false,h.set id (.arr sz0 lk (es.take (off+len)++xs++es.drop (off+len+xs.length))))
        | false=>none
    | _=>none
   | _=>none
def apA (sz byt:Nat) (s x:AV) (h:AE):Option (AV×AE):=
 match (match x with
  | .str b=>match Nat.beq sz 1 with
   | true=>some (CZ b)
   | false=>none
  | _=>match CE sz x with
   | true=>Az h x
   | false=>none),FQ s with
 | some xs,some n=>apX sz byt s xs n h
 | _,_=>none
def B7 (cells:List AV):List (Nat×Nat×AV)→Option (List AV)
 | []=>some cells
 | (off,size,v)::rest=>match v.cells with
  | some cs=>match Nat.beq cs.length size&&Nat.ble (off+cs.length) cells.length with
   | true=>B7 (A3 cells off cs) rest
   | false=>none
  | none=>none
def Oh (T:Ty) (t:TypeId) (i:Nat):Option (Nat×Nat):=match und T t with
 | some (.struct fs)=>(fs[i]?).map fun f=>(f.offset,siz T f.type)
 | _=>none
def isStr (d:Option TypeDesc):Bool:=match d with
 | some (.struct _)=>true
 | _=>false
theorem E7 {T:Ty} {t:TypeId} {zero:List AV} (tr:List (Nat×Nat×Nat)) (vs:List AV) (hz:DU T t=some zero) (hs:isStr (und T t)=true) (hp:tr.all (fun q=>match Oh T t q.1 with
  | some (a,b)=>Nat.beq a q.2.1&&Nat.beq b q.2.2
  | none=>false)=true):C5 T t (List.zipWith (fun q v=>(q.1,v)) tr vs)=(B7 zero (List.zipWith (fun q v=>(q.2.1,q.2.2,v)) tr vs)).map .agg:=by
 unfold C5
 cases hu:und T t with
 | none=>rw [hu] at hs;cases hs
 | some d=>
  cases d with
  | struct fs=>
   simp only [hz]
   congr 1
   have key:∀ (tr:List (Nat×Nat×Nat)) (vs cells:List AV),tr.all (fun q=>match Oh T t q.1 with
     | some (a,b)=>Nat.beq a q.2.1&&Nat.beq b q.2.2
     | none=>false)=true→He (fun i=>(fs[i]?).map fun f=>(f.offset,siz T f.type)) cells (List.zipWith (fun q v=>(q.1,v)) tr vs)=B7 cells (List.zipWith (fun q v=>(q.2.1,q.2.2,v)) tr vs):=by
    intro tr
    induction tr with
    | nil=>intro vs cells _;rfl
    | cons q tr ih=>
     intro vs cells hp
     cases vs with
     | nil=>rfl
     | cons v vs=>
      rw [List.all_cons,Bool.and_eq_true] at hp
      obtain ⟨h1,h2⟩:=hp
      have hpl:(fs[q.1]?).map (fun f=>(f.offset,siz T f.type))=some (q.2.1,q.2.2):=by
       unfold Oh at h1
       rw [hu] at h1
       simp only at h1
       cases hm:(fs[q.1]?).map (fun f=>(f.offset,siz T f.type)) with
       | none=>rw [hm] at h1;cases h1
       | some x=>
        rw [hm] at h1
        obtain ⟨a,b⟩:=x
        simp only [Bool.and_eq_true] at h1
        rw [Nat.eq_of_beq_eq_true h1.1,Nat.eq_of_beq_eq_true h1.2]
      simp only [List.zipWith_cons_cons,He,B7,hpl]
      cases v.cells with
      | none=>rfl
      | some cs=>
       show (match cs.length.beq q.2.2&&(q.2.1+cs.length).ble cells.length with
        | true=>He _ (A3 cells q.2.1 cs) _
        | false=>none)=(match cs.length.beq q.2.2&&(q.2.1+cs.length).ble cells.length with
        | true=>B7 (A3 cells q.2.1 cs) _
        | false=>none)
       cases cs.length.beq q.2.2&&(q.2.1+cs.length).ble cells.length with
       | true=>exact ih _ _ h2
       | false=>rfl
   exact key tr vs zero hp
  | _=>rw [hu] at hs;cases hs
def bsA (sz:Nat) (zero:List AV) (ml:Bool) (len:Nat) (parts:List (Nat×AV)) (h:AE):Option (AV×AE):=
 match Ak sz (List.replicate len zero) parts with
 | some es=>match !ml&&es.all AG with
  | true=>some (.sl sz true es,h)
  | false=>some (Av h sz es)
 | none=>none
def lkA (d:Option TypeDesc) (z m k:AV) (ok:Bool) (h:AE):Option AV:=
 match (match m with | .FW=>some [] | .hm id=>(match h[id]? with | some (.mp es)=>some es | _=>none) | _=>none) with
 | none=>none
 | some es=>match (match D7 d k k with | some _=>Fx d k es | none=>none) with
  | some r=>match ok with
   | true=>some (.tup [r.getD z,.bool r.isSome])
   | false=>some (r.getD z)
  | none=>none
def upA (d:Option TypeDesc) (m k v:AV) (h:AE):Option AE:=
 match m with
 | .hm id=>match h[id]? with
  | some (.mp es)=>match (match D7 d k k with | some _=>Fx d k es | none=>none) with
   | some _=>some (h.set id (.mp (Jy d k v es)))
   | none=>none
  | _=>none
 | _=>none
def slA (sz:Nat) (x:AV) (lo hi mx:Option AV):Option AV:=
 match mx.isSome&&hi.isNone with
 | true=>none
 | false=>match x with
  | .AI=>match Ca 0 lo,Ca 0 hi,Ca 0 mx with
   | some 0,some 0,some 0=>some .AI
   | _,_,_=>none
  | .sl s ex es=>match Nat.beq s sz&&true,(Ca es.length hi).bind (FA · es.length),Ca 0 lo with
   | true,some b,some l=>match FA l b,I2 b mx with
    | some a,true=>some (.sl s (mx.isSome||(ex&&Nat.beq b es.length)) ((es.drop a).take (b - a)))
    | _,_=>none
   | _,_,_=>none
  | .hs id gen s off len ex=>match Nat.beq s sz&&true,(Ca len hi).bind (FA · len),Ca 0 lo with
   | true,some b,some l=>match FA l b,I2 b mx&&(mx.isSome || !ex||Nat.beq b len) with
    | some a,true=>some (.hs id gen s (off+a) (b - a) (mx.isSome||ex))
    | _,_=>none
   | _,_,_=>none
  | _=>none
def cvI (k:IntKind) (x:AV) (h:AE):Option (AV×AE):=match x with
 | .int _ n=>some (.int k (wr k n),h)
 | _=>none
def cvB (x:AV) (h:AE):Option (AV×AE):=match x with
 | .str s=>some (Av h 1 (CZ s))
 | _=>none
theorem EM {T:Ty} {t:TypeId} {n:Nat} (h1:(T t).isSome=true) (h2:siz T t=n) (h:AE) (p v:AV):CL T h t p v=stA n h p v:=by
 unfold CL stA
 unfold siz at h2
 cases ht:T t with
 | none=>rw [ht] at h1;cases h1
 | some i=>
  rw [ht] at h2
  subst h2
  cases v.cells <;> rfl
theorem lk_of {T:Ty} {t kt e:TypeId} {z:AV} (hu:und T t=some (.map kt e)) (hk:und T kt=some .string) (hz:zeroV T e=some z) (m k:AV) (ok:Bool) (h:AE):GC T t m k ok h=lkA (some .string) z m k ok h:=by
 have e:∀ (x:Option (List (AV×AV))),(match x with
   | none=>none
   | some es=>match (match D7 (some .string) k k with | some _=>Fx (some .string) k es | none=>none),some z with
    | some r,some z=>(match ok with
     | true=>some (.tup [r.getD z,.bool r.isSome])
     | false=>some (r.getD z))
    | _,_=>none)=(match x with
   | none=>none
   | some es=>match (match D7 (some .string) k k with | some _=>Fx (some .string) k es | none=>none) with
    | some r=>(match ok with
     | true=>some (AV.tup [r.getD z,.bool r.isSome])
     | false=>some (r.getD z))
    | none=>none):=by
  intro x
  cases x with
  | none=>rfl
  | some es=>
   show (match (match D7 (some .string) k k with | some _=>Fx (some .string) k es | none=>none),some z with
    | some r,some z=>(match ok with
     | true=>some (.tup [r.getD z,.bool r.isSome])
     | false=>some (r.getD z))
    | _,_=>none)=(match (match D7 (some .string) k k with | some _=>Fx (some .string) k es | none=>none) with
    | some r=>(match ok with
     | true=>some (AV.tup [r.getD z,.bool r.isSome])
     | false=>some (r.getD z))
    | none=>none)
   cases D7 (some .string) k k with
   | none=>rfl
   | some b=>cases hf:Fx (some .string) k es <;> simp only [hf]
 unfold GC lkA
 simp only [hu,hk,hz]
 exact e _
section
variable (h:AE) (cs:List AV) (c:AV) (n i off id gen sz k len:Nat) (ex:Bool) (es:List (List AV))
theorem Fa:DC h (.ro cs)=some cs:=rfl
theorem Fb:DC h (.hp id off)=(match h[id]? with
  | some (.var _ cs)=>some (cs.drop off)
  | _=>none):=rfl
theorem FN:DC h (.ep id gen sz i k)=(match h[id]? with
  | some (.arr sz' _ es)=>(match Nat.beq es.length gen&&Nat.beq sz' sz with
   | true=>(es[i]?).map (·.drop k)
   | false=>none)
  | _=>none):=rfl
theorem Du (p:AV):ld1 h p=(DC h p).bind List.head? := rfl
theorem Dv (p:AV):ldN n h p=(DC h p).bind (FM n):=rfl
theorem Ef:faA off (.ro cs)=some (.ro (cs.drop off)):=rfl
theorem Eg:faA off (.hp id n)=some (.hp id (n+off)):=rfl
theorem Eh:faA off (.ep id gen sz i k)=some (.ep id gen sz i (k+off)):=rfl
theorem Bf:Bu .AI h=some (.val (.int .i64 0) h):=rfl
theorem Cn:Bu (.sl sz ex es) h=some (.val (.int .i64 es.length) h):=rfl
theorem Co:Bu (.hs id gen sz off len ex) h=some (.val (.int .i64 len) h):=rfl
theorem B9 (s:List UInt8):XG (.str s) h=some (.val (.int .i64 s.length) h):=rfl
theorem G0 (kd:IntKind) (hi:i<es.length):ixA sz (.sl sz ex es) (.int kd i)=some (.ro es[i]):=by
 simp [ixA,intOf,Hu hi,Bs.2 rfl,hi]
theorem A8 (kd:IntKind) (hi:i<len):ixA sz (.hs id gen sz off len ex) (.int kd i)=some (.ep id gen sz (off+i) 0):=by
 simp [ixA,intOf,Hu hi,Bs.2 rfl]
theorem Dw (kd:IntKind) (s:List UInt8) (hi:i<s.length):ixS (.str s) (.int kd i)=some (.int .u8 s[i].toNat):=by
 simp [ixS,intOf,Hu hi,hi]
end
section
variable (cs:List AV) (k:IntKind) (n:Int) (id off gen sz i j len f:Nat) (ex b:Bool) (es:List (List AV)) (s:List UInt8) (fs:List AV) (v:AV)
theorem CA:AV.cells (.int k n)=some [.int k n]:=rfl
theorem Bg:AV.cells (.bool b)=some [.bool b]:=rfl
theorem CB:AV.cells (.str s)=some [.str s]:=rfl
theorem Bh:AV.cells .D6=some [.D6]:=rfl
theorem Cp:AV.cells (.ro cs)=some [.ro cs]:=rfl
theorem Cq:AV.cells (.hp id off)=some [.hp id off]:=rfl
theorem Cr:AV.cells (.ep id gen sz i j)=some [.ep id gen sz i j]:=rfl
theorem Bi:AV.cells .AI=some [.AI]:=rfl
theorem Cs:AV.cells (.sl sz ex es)=some [.sl sz ex es]:=rfl
theorem Ct:AV.cells (.hs id gen sz off len ex)=some [.hs id gen sz off len ex]:=rfl
theorem Bj:AV.cells .FW=some [.FW]:=rfl
theorem Cu:AV.cells (.hm id)=some [.hm id]:=rfl
theorem Cv:AV.cells (.fn f fs cs)=some [.fn f fs cs]:=rfl
theorem Bk:AV.cells .FY=some [.FY]:=rfl
theorem CC:AV.cells (.agg cs)=some cs:=rfl
end
def GH:Kd→Bool
 | .ch _=>false
 | _=>true
theorem CD {ops:Array Oper} {ks:List Kd} (h:ks.all GH=true):HN ops ks=true:=by
 unfold HN
 have h1:∀ (ks:List Kd) (k:Nat),ks.all GH=true→∀ p∈CM k ks,GH p.2=true:=by
  intro ks
  induction ks with
  | nil=>intro k _ p hp;cases hp
  | cons a r ih=>
   intro k h p hp
   simp only [List.all_cons,Bool.and_eq_true] at h
   cases a with
   | st=>exact ih (k+1) h.2 p hp
   | ld id=>
    rcases List.mem_cons.1 hp with rfl | hp
    ·rfl
    ·exact ih (k+1) h.2 p hp
   | ch m=>cases h.1
 have h2:∀ (l:List (Nat×Kd)) (bef:Array Nat),(∀ p∈l,GH p.2=true)→E9 bef l=true:=by
  intro l
  induction l with
  | nil=>intro _ _;rfl
  | cons a r ih=>
   intro bef h
   obtain ⟨i,x⟩:=a
   simp only [E9,Bool.and_eq_true,List.all_eq_true]
   refine ⟨fun p hp => ?_,ih bef fun p hp=>h p (List.mem_cons_of_mem _ hp)⟩
   have hx:=h (i,x) (List.mem_cons_self ..)
   have hy:=h p (List.mem_cons_of_mem _ hp)
   obtain ⟨j,y⟩:=p
   cases x <;> cases y <;> first | rfl | (simp [GH] at hx;done) | (simp [GH] at hy;done)
 exact h2 _ _ (h1 ks 0 h)
section
variable {M:Par} {fid N:Nat} {C:CH} {c:Code}
theorem AR {β:Type} {n:Nat} (S:Nat→β→St) (I:Nat→β→Prop) (Q:Ex×St→Prop)
  (step:∀ i b,i<n→I i b→(∃ b',AW M fid N C c (S i b)=some (.nrm,S (i+1) b')∧I (i+1) b')∨(∃ e s,AW M fid N C c (S i b)=some (e,s)∧e≠.nrm∧Q (e,s)))
  (fin:∀ b,I n b→∃ e s,AW M fid N C c (S n b)=some (e,s)∧e≠.nrm∧Q (e,s)) (b:β) (h0:I 0 b):∃ e s,Em M fid N C c (S 0 b)=some (e,s)∧Q (e,s):=by
 have key:∀ k i b,i+k=n→I i b→∃ e s,Em M fid N C c (S i b)=some (e,s)∧Q (e,s):=by
  intro k
  induction k with
  | zero=>
   intro i b hi hI
   have:i=n:=by omega
   subst this
   obtain ⟨e,s,h1,h2,h3⟩:=fin b hI
   exact ⟨e,s,IG h1 h2,h3⟩
  | succ k ih=>
   intro i b hi hI
   rcases step i b (by omega) hI with ⟨b',h1,h2⟩ | ⟨e,s,h1,h2,h3⟩
   ·obtain ⟨e,s,h3,h4⟩:=ih (i+1) b' (by omega) h2
    exact ⟨e,s,Kg h1 h3,h4⟩
   ·exact ⟨e,s,IG h1 h2,h3⟩
 exact key n 0 b (by omega) h0
theorem II {β:Type} (S:β→St) (I:β→Prop) (m:β→Nat) (Q:Ex×St→Prop)
  (step:∀ b,I b→(∃ b',AW M fid N C c (S b)=some (.nrm,S b')∧I b'∧m b'<m b)∨(∃ e s,AW M fid N C c (S b)=some (e,s)∧e≠.nrm∧Q (e,s)))
  (b:β) (h0:I b):∃ e s,Em M fid N C c (S b)=some (e,s)∧Q (e,s):=by
 have key:∀ k b,m b≤k→I b→∃ e s,Em M fid N C c (S b)=some (e,s)∧Q (e,s):=by
  intro k
  induction k with
  | zero=>
   intro b hm hI
   rcases step b hI with ⟨b',h1,h2,h3⟩ | ⟨e,s,h1,h2,h3⟩
   ·omega
   ·exact ⟨e,s,IG h1 h2,h3⟩
  | succ k ih=>
   intro b hm hI
   rcases step b hI with ⟨b',h1,h2,h3⟩ | ⟨e,s,h1,h2,h3⟩
   ·obtain ⟨e,s,h4,h5⟩:=ih b' (by omega) h2
    exact ⟨e,s,Kg h1 h4,h5⟩
   ·exact ⟨e,s,IG h1 h2,h3⟩
 exact key (m b) b (Nat.le_refl _) h0
end
def SlR {α:Type} (R:α→List AV→Prop) (sz:Nat) (l:List α) (v:AV):Prop:=
 (l=[]∧v=.AI)∨∃ ex es,v=.sl sz ex es∧es.length=l.length∧∀ (i:Nat) a e,l[i]? = some a→es[i]? = some e→R a e
section
variable {α:Type} {R:α→List AV→Prop} {sz:Nat} {l:List α} {v:AV}
theorem SlR.len (hv:SlR R sz l v) (h:AE):Bu v h=some (.val (.int .i64 l.length) h):=by
 rcases hv with ⟨rfl,rfl⟩ | ⟨ex,es,rfl,hl,_⟩
 ·rfl
 ·simp [Bu,hl]
theorem SlR.FQ (hv:SlR R sz l v):FQ v=some l.length:=by
 rcases hv with ⟨rfl,rfl⟩ | ⟨ex,es,rfl,hl,_⟩
 ·rfl
 ·simp [Am.FQ,hl]
theorem SlR.ix (hv:SlR R sz l v) {i:Nat} (hi:i<l.length):∃ e,(∀ kd,ixA sz v (.int kd i)=some (.ro e))∧R l[i] e:=by
 rcases hv with ⟨rfl,rfl⟩ | ⟨ex,es,rfl,hl,hr⟩
 ·simp at hi
 ·exact ⟨es[i]'(by omega),fun kd=>G0 _ _ _ _ kd (by omega),hr i _ _ (List.getElem?_eq_getElem hi) (List.getElem?_eq_getElem (by omega))⟩
theorem SlR.AD (hv:SlR R sz l v):v.AD=true:=by
 rcases hv with ⟨rfl,rfl⟩ | ⟨ex,es,rfl,_,_⟩ <;> rfl
theorem SlR.cells (hv:SlR R sz l v):v.cells=some [v]:=by
 rcases hv with ⟨rfl,rfl⟩ | ⟨ex,es,rfl,_,_⟩ <;> rfl
theorem SlR.rd (hv:SlR R sz l v) (h:AE):∃ es,Az h v=some es∧CE sz v=true∧es.length=l.length∧∀ (i:Nat) a e,l[i]? = some a→es[i]? = some e→R a e:=by
 rcases hv with ⟨rfl,rfl⟩ | ⟨ex,es,rfl,hl,hr⟩
 ·exact ⟨[],rfl,rfl,rfl,fun i a e h=>by simp at h⟩
 ·exact ⟨es,rfl,by simp [CE,BO,A2],hl,hr⟩
theorem SlR.mono {S:α→List AV→Prop} (hv:SlR R sz l v) (hs:∀ a e,R a e→S a e):SlR S sz l v:=by
 rcases hv with ⟨rfl,rfl⟩ | ⟨ex,es,rfl,hl,hr⟩
 ·exact .inl ⟨rfl,rfl⟩
 ·exact .inr ⟨ex,es,rfl,hl,fun i a e h1 h2=>hs _ _ (hr i a e h1 h2)⟩
end
end Go.Am
namespace Go.Am
open Go
def Af (sz base:Nat) (rest:AE) (a:AV) (es:List (List AV)):Prop:=
 (es=[]∧a=.AI)∨∃ j,es≠[]∧a=.hs (base+j) es.length sz 0 es.length false∧rest[j]? = some (.arr sz false es)
theorem Af.nil (sz base:Nat) (rest:AE):Af sz base rest .AI []:=.inl ⟨rfl,rfl⟩
theorem Af.grow {sz base:Nat} {rest:AE} {a:AV} {es:List (List AV)} (h:Af sz base rest a es) (l:AE):Af sz base (rest++l) a es:=by
 rcases h with h | ⟨j,h0,h1,h2⟩
 ·exact .inl h
 ·exact .inr ⟨j,h0,h1,by rw [List.getElem?_append_left (List.getElem?_eq_some_iff.1 h2).1];exact h2⟩
theorem Af.shift {sz base:Nat} {rest:AE} {a:AV} {es:List (List AV)} (h:Af sz (base+1) rest a es) (b:Blk):Af sz base (b::rest) a es:=by
 rcases h with h | ⟨j,h0,h1,h2⟩
 ·exact .inl h
 ·exact .inr ⟨j+1,h0,by rw [h1,Nat.add_right_comm,Nat.add_assoc],by simpa using h2⟩
theorem Af.XH {sz byt:Nat} {P rest:AE} {a:AV} {es xs:List (List AV)} {x:AV} (h:Af sz P.length rest a es) (hx:Az (P++rest) x=some xs) (hs:CE sz x=true) (hnx:∀ b,x≠.str b) (hxs:xs≠[]) (h0:0<sz) (hb:byt≤1024) (hn:es.length+xs.length<16777216) :
  ∃ a' rest',apA sz byt a x (P++rest)=some (a',P++rest')∧Af sz P.length rest' a' (es++xs):=by
 have hbb:(es.length+xs.length) * byt≤17592186044416:=Nat.le_trans (Nat.mul_le_mul (Nat.le_of_lt hn) hb) (by decide)
 have hap:∀ n,FQ a=some n→apA sz byt a x (P++rest)=apX sz byt a xs n (P++rest):=fun n hl=>by
  unfold apA
  cases x with
  | str b=>exact absurd rfl (hnx b)
  | _=>first | simp only [hs,hx,hl] | (simp only [Az] at hx;cases hx)
 obtain ⟨y,ys,rfl⟩:∃ y ys,xs=y::ys:=by cases xs with | nil=>exact absurd rfl hxs | cons y ys=>exact ⟨y,ys,rfl⟩
 rcases h with ⟨rfl,rfl⟩ | ⟨j,hne,rfl,h2⟩
 ·refine ⟨.hs (P.length+rest.length) (ys.length+1) sz 0 (ys.length+1) false,rest++[.arr sz false (y::ys)],?_,.inr ⟨rest.length,by simp,by simp,by simp⟩⟩
  rw [hap 0 rfl]
  have e1:CE sz AV.AI=true:=rfl
  have h2:=hbb
  simp only [List.length_nil,Nat.zero_add,List.length_cons] at h2 hn
  simp [apX,e1,Fg.2 h0,G8.2 h2,G8.2 (show ys.length+1≤17592186044416 by omega),Av]
 ·have hj:=(List.getElem?_eq_some_iff.1 h2).1
  have hg:(P++rest)[P.length+j]? = some (.arr sz false es):=by rw [List.getElem?_append_right (by omega)];simpa using h2
  refine ⟨.hs (P.length+j) (es.length+(ys.length+1)) sz 0 (es.length+(ys.length+1)) false,rest.set j (.arr sz false (es++y::ys)),?_,.inr ⟨j,by simp,by simp,by simp [hj]⟩⟩
  rw [hap es.length rfl]
  have e1:CE sz (.hs (P.length+j) es.length sz 0 es.length false)=true:=by simp [CE,BO,A2]
  simp only [List.length_cons] at hbb hn
  simp [apX,e1,Fg.2 h0,G8.2 hbb,G8.2 (show es.length+(ys.length+1)≤17592186044416 by omega),hg,A2,A7,List.set_append_right]
theorem Af.push {sz byt:Nat} {P rest:AE} {a:AV} {es:List (List AV)} (x:List AV) (ex:Bool) (h:Af sz P.length rest a es) (h0:0<sz) (hb:byt≤1024) (hn:es.length<16777215) :
  ∃ a' rest',apA sz byt a (.sl sz ex [x]) (P++rest)=some (a',P++rest')∧Af sz P.length rest' a' (es++[x]):=
 h.XH (xs:=[x]) rfl (by simp [CE,BO,A2]) (fun b hb=>by cases hb) (by simp) h0 hb (by simp;omega)
theorem Af.AD {sz base:Nat} {rest:AE} {a:AV} {es:List (List AV)} (h:Af sz base rest a es):a.AD=es.isEmpty:=by
 rcases h with ⟨rfl,rfl⟩ | ⟨j,h0,rfl,h2⟩
 ·rfl
 ·cases es with
  | nil=>exact absurd rfl h0
  | cons=>rfl
theorem Af.cells {sz base:Nat} {rest:AE} {a:AV} {es:List (List AV)} (h:Af sz base rest a es):a.cells=some [a]:=by
 rcases h with ⟨rfl,rfl⟩ | ⟨j,h0,rfl,h2⟩ <;> rfl
theorem Af.snap {sz n:Nat} {P rest:AE} {a:AV} {es:List (List AV)} (h:Af sz P.length rest a es) (hn:es.all AG=true) (h0:es≠[]) :
  Am.snap (n+1) a (P++rest)=some (.sl sz false es,P++(match a with | .hs id _ _ _ _ _=>rest.set (id - P.length) (.arr sz true es) | _=>rest)):=by
 rcases h with ⟨rfl,rfl⟩ | ⟨j,_,rfl,h2⟩
 ·exact absurd rfl h0
 ·have hg:(P++rest)[P.length+j]? = some (.arr sz false es):=by rw [List.getElem?_append_right (by omega)];simpa using h2
  have hb:(Nat.beq es.length es.length&&Nat.beq sz sz&&Nat.ble (0+es.length) es.length&&es.all AG)=true:=by simp [A2,A7,hn]
  simp only [Am.snap,hg,hb]
  simp [List.set_append_right]
theorem Af.rep {α:Type} {R:α→List AV→Prop} {l:List α} {es:List (List AV)} {sz:Nat} (hl:es.length=l.length) (hr:∀ (i:Nat) a e,l[i]? = some a→es[i]? = some e→R a e) (ex:Bool):SlR R sz l (.sl sz ex es):=.inr ⟨ex,es,rfl,hl,hr⟩
theorem EY {α:Type} {R:α→List AV→Prop} {l:List α} {es:List (List AV)} (hl:es.length=l.length) (hr:∀ (i:Nat) a e,l[i]? = some a→es[i]? = some e→R a e) {a:α} {e:List AV} (h:R a e) :
  (es++[e]).length=(l++[a]).length∧∀ (i:Nat) a' e',(l++[a])[i]? = some a'→(es++[e])[i]? = some e'→R a' e':=by
 refine ⟨by simp [hl],fun i a' e' h1 h2 => ?_⟩
 by_cases hi:i<l.length
 ·rw [List.getElem?_append_left hi] at h1
  rw [List.getElem?_append_left (by omega)] at h2
  exact hr i a' e' h1 h2
 ·rw [List.getElem?_append_right (by omega)] at h1
  rw [List.getElem?_append_right (by omega)] at h2
  rw [hl] at h2
  cases hk:i - l.length with
  | zero=>rw [hk] at h1 h2;simp at h1 h2;exact h1 ▸ h2 ▸ h
  | succ k=>rw [hk] at h1;simp at h1
theorem BR {α:Type} {R:α→List AV→Prop} {l:List α} {es:List (List AV)} (hl:es.length=l.length) (hr:∀ (i:Nat) a e,l[i]? = some a→es[i]? = some e→R a e) (hR:∀ a e,R a e→AG e=true):es.all AG=true:=by
 rw [List.all_eq_true]
 intro e he
 obtain ⟨i,hi,rfl⟩:=List.getElem_of_mem he
 exact hR _ _ (hr i l[i] es[i] (List.getElem?_eq_getElem (by omega)) (List.getElem?_eq_getElem hi))
def GI:Kd→Nat
 | .st=>0
 | .ld _=>1
 | .ch _=>2
def E1:Nat→List Nat→List (Nat×Nat)
 | _,[]=>[]
 | k,0::r=>E1 (k+1) r
 | k,x::r=>(k,x)::E1 (k+1) r
def BX (ops:Array Oper):List (List Nat):=(Region.before ops).toList.map fun m=>(List.range ops.size).filter m.testBit
def CG (L:List (List Nat)):List (Nat×Nat)→Bool
 | []=>true
 | (i,x)::r=>(r.all fun p=>decide (x+p.2<3)||(L.getD p.1 []).elem i)&&CG L r
theorem DA {ops:Array Oper} {ks:List Kd} (h:CG (BX ops) (E1 0 (ks.map GI))=true):HN ops ks=true:=by
 unfold HN
 have h1:∀ (ks:List Kd) (k:Nat),E1 k (ks.map GI)=(CM k ks).map fun p=>(p.1,GI p.2):=by
  intro ks
  induction ks with
  | nil=>intro k;rfl
  | cons a r ih=>intro k;cases a <;> simp [E1,CM,GI,ih]
 rw [h1] at h
 have hb:∀ i j,((BX ops).getD j []).elem i=true→((Region.before ops).getD j 0).testBit i=true:=by
  intro i j h
  unfold BX at h
  rw [List.getD_eq_getElem?_getD,List.getElem?_map] at h
  cases hm:(Region.before ops).toList[j]? with
  | none=>rw [hm] at h;simp at h
  | some m=>
   rw [hm] at h
   simp only [Option.map_some,Option.getD_some,List.elem_eq_mem,decide_eq_true_eq,List.mem_filter] at h
   have hm':(Region.before ops)[j]? = some m:=by simpa using hm
   rw [Array.getD_eq_getD_getElem?,hm']
   exact h.2
 have h2:∀ (l:List (Nat×Kd)),CG (BX ops) (l.map fun p=>(p.1,GI p.2))=true→E9 (Region.before ops) l=true:=by
  intro l
  induction l with
  | nil=>intro _;rfl
  | cons a r ih=>
   intro h
   obtain ⟨i,x⟩:=a
   simp only [List.map_cons,CG,Bool.and_eq_true,List.all_eq_true,List.mem_map] at h
   simp only [E9,Bool.and_eq_true,List.all_eq_true]
   refine ⟨fun p hp => ?_,ih h.2⟩
   have:=h.1 (p.1,GI p.2) ⟨p,hp,rfl⟩
   obtain ⟨j,y⟩:=p
   simp only [Bool.or_eq_true,Bool.not_eq_true',decide_eq_true_eq] at this ⊢
   rcases this with h3 | h3
   ·left
    cases x <;> cases y <;> first | rfl | (simp [GI] at h3;done)
   ·right;exact hb i j h3
 exact h2 _ h
def Be (id:Nat):Code→Option (Array Oper)
 | .region i ops _=>match Nat.beq i id with
  | true=>some ops
  | false=>none
 | .seq a b=>match Be id a with
  | some o=>some o
  | none=>Be id b
 | .cond _ a b=>match Be id a with
  | some o=>some o
  | none=>Be id b
 | .block _ c=>Be id c
 | .loop c=>Be id c
 | _=>none
def BK (fn:Func) (id:Nat):Array Oper:=match fn.body with
 | some c=>(Be id c).getD #[]
 | none => #[]
end Go.Am
namespace Go.Am
open Go
def BC (K:Nat) (c:AV) (h:AE) (c':AV) (h':AE):Prop:=∀ n,snap (n+K) c h=some (c',h')
def A9 (K:Nat) (cs:List AV) (h:AE) (cs':List AV) (h':AE):Prop:=∀ n,FZ (n+K) cs h=some (cs',h')
def Bq (K:Nat) (es:List (List AV)) (h:AE) (es':List (List AV)) (h':AE):Prop:=∀ n,Fe (n+K) es h=some (es',h')
theorem BC.mono {K K':Nat} {c c':AV} {h h':AE} (s:BC K c h c' h') (hk:K≤K'):BC K' c h c' h':=fun n=>by
 have:=s (n+(K' - K));rwa [show n+(K' - K)+K=n+K' by omega] at this
theorem A9.mono {K K':Nat} {c c':List AV} {h h':AE} (s:A9 K c h c' h') (hk:K≤K'):A9 K' c h c' h':=fun n=>by
 have:=s (n+(K' - K));rwa [show n+(K' - K)+K=n+K' by omega] at this
theorem Bq.mono {K K':Nat} {c c':List (List AV)} {h h':AE} (s:Bq K c h c' h') (hk:K≤K'):Bq K' c h c' h':=fun n=>by
 have:=s (n+(K' - K));rwa [show n+(K' - K)+K=n+K' by omega] at this
theorem BC.at {K:Nat} {c c':AV} {h h':AE} (s:BC K c h c' h') (hk:K≤CX):snap CX c h=some (c',h'):=by
 have:=s (CX - K);rwa [show CX - K+K=CX by omega] at this
theorem A9.nil (h:AE):A9 1 [] h [] h:=fun _=>rfl
theorem A9.cons {K L:Nat} {c c':AV} {cs cs':List AV} {h h1 h2:AE} (a:BC K c h c' h1) (b:A9 L cs h1 cs' h2):A9 (max K L+1) (c::cs) h (c'::cs') h2:=fun n=>by
 have e1:=a.mono (Nat.le_max_left K L) n
 have e2:=b.mono (Nat.le_max_right K L) n
 show FZ ((n+max K L)+1) _ _=_
 simp only [FZ,e1,e2]
theorem Bq.nil (h:AE):Bq 1 [] h [] h:=fun _=>rfl
theorem Bq.cons {K L:Nat} {c c':List AV} {cs cs':List (List AV)} {h h1 h2:AE} (a:A9 K c h c' h1) (b:Bq L cs h1 cs' h2):Bq (max K L+1) (c::cs) h (c'::cs') h2:=fun n=>by
 have e1:=a.mono (Nat.le_max_left K L) n
 have e2:=b.mono (Nat.le_max_right K L) n
 show Fe ((n+max K L)+1) _ _=_
 simp only [Fe,e1,e2]
def AV.flat:AV→Bool
 | .hp .. => false
 | .ep .. => false
 | .hs .. => false
 | .hm .. => false
 | .iface .. => false
 | .agg cs=>AG cs
 | .tup cs=>AG cs
 | .fn _ fs cs=>AG fs&&AG cs
 | _=>true
theorem BC.flat {c:AV} (hc:c.flat=true) (h:AE):BC 1 c h c h:=fun n=>by
 cases c <;> first | rfl | (simp only [AV.flat] at hc;simp only [snap,hc];done) | cases hc
theorem BC.agg {K:Nat} {cs cs':List AV} {h h':AE} (hn:AG cs=false) (s:A9 K cs h cs' h'):BC (K+1) (.agg cs) h (.agg cs') h':=fun n=>by
 show snap ((n+K)+1) _ _=_
 simp only [snap,hn,s n,Option.map_some]
theorem BC.tup {K:Nat} {cs cs':List AV} {h h':AE} (hn:AG cs=false) (s:A9 K cs h cs' h'):BC (K+1) (.tup cs) h (.tup cs') h':=fun n=>by
 show snap ((n+K)+1) _ _=_
 simp only [snap,hn,s n,Option.map_some]
theorem Af.Kh {sz:Nat} {P rest:AE} {a:AV} {es:List (List AV)} (h:Af sz P.length rest a es) (hn:es.all AG=true) :
  ∃ v' rest',BC 1 a (P++rest) v' (P++rest')∧((es=[]∧v'=.AI)∨v'=.sl sz false es):=by
 by_cases h0:es=[]
 ·rcases h with ⟨_,rfl⟩ | ⟨_,h1,_⟩
  ·exact ⟨.AI,rest,fun n=>rfl,.inl ⟨h0,rfl⟩⟩
  ·exact absurd h0 h1
 ·exact ⟨_,_,fun n=>h.snap hn h0,.inr rfl⟩
end Go.Am
namespace Go.Proofs.Am12
open Go Go.Am
set_option maxRecDepth 10000
@[simp] theorem fn_9:MX.fn 9=some Tryz.f9:=by kernel_rfl
abbrev KK (f r:Nat) (l:List Nat):Prop:=MX.keep f r=some l
abbrev MF (f:Nat):Prop:=MX.mode f={ fresh:=true,keepTop:=false }
@[simp] theorem eff_9:MX.eff 9=none:=by kernel_rfl
@[simp] theorem keep_9a:KK 9 0 [1,3,5]∧KK 9 1 [1,3,5,20]∧KK 9 3 [1,3,5,28]∧KK 9 4 [6]∧KK 9 5 [1,3,5,7]∧KK 9 6 [1,3,5,7,32]∧KK 9 7 [1,3,5,7]∧KK 9 8 [1,3,5,7,50]∧KK 9 9 [6]∧KK 9 10 [1,3,5,8,9]∧KK 9 11 [1,3,8,9,10,11]∧KK 9 12 [1,3,71]∧KK 9 14 [1,3,12]∧KK 9 15 [1,3,12,80]:=by decide +kernel
@[simp] theorem keep_9b:KK 9 16 [6]∧KK 9 17 [1,3,12,13,14]∧KK 9 18 [1,3,12,13,14,95]∧KK 9 19 [1,3,12,13,14]∧KK 9 20 [1,3,12,13,14,102]∧KK 9 21 [1,3,12,13,14]∧KK 9 22 [1,3,12,13,14,104]∧KK 9 23 [6]∧KK 9 24 [1,3,13,14,15]∧KK 9 25 [1,3,13,14,15,16]∧KK 9 26 [1,3,13,14,15,16,117]∧KK 9 27 [1,3,13,14,15,16]∧KK 9 28 [1,3,13,14,15,16,17,18]∧KK 9 29 [1,3,13,14,15,16,141]:=by decide +kernel
@[simp] theorem keep_9c:KK 9 30 [6]∧KK 9 31 [6]:=by decide +kernel
@[simp] theorem fn_11:MX.fn 11=some Tryz.f11:=by kernel_rfl
@[simp] theorem Xm:MX.eff 11=none:=by kernel_rfl
@[simp] theorem prim_11:MX.prim 11=none:=by kernel_rfl
@[simp] theorem Uu:MF 11:=rfl
@[simp] theorem keep_11a:KK 11 0 [1]∧KK 11 1 [1,16]∧KK 11 2 [2]∧KK 11 3 [1,3]∧KK 11 4 [1,3,21]∧KK 11 5 [1,3]∧KK 11 6 [1,3,41]∧KK 11 7 [2]∧KK 11 8 [1,3,4]∧KK 11 9 [1,3,4,50]∧KK 11 10 [1,3,4]∧KK 11 11 [1,3,4,5]∧KK 11 12 [1,3,4,5,65]∧KK 11 13 [2]:=by decide +kernel
@[simp] theorem keep_11b:KK 11 14 [1,3,4,5,6]∧KK 11 15 [1,3,4,5,6,69]∧KK 11 16 [1,3,4,5,6]∧KK 11 17 [1,3,4,5,6,78]∧KK 11 18 [2]∧KK 11 19 [2]:=by decide +kernel
@[simp] theorem fn_12:MX.fn 12=some Tryz.f12:=by kernel_rfl
@[simp] theorem Xn:MX.eff 12=none:=by kernel_rfl
@[simp] theorem prim_12:MX.prim 12=none:=by kernel_rfl
@[simp] theorem Uv:MF 12:=rfl
@[simp] theorem keep_12a:KK 12 0 [1]∧KK 12 1 [4]∧KK 12 2 [2]:=by decide +kernel
@[simp] theorem fn_13:MX.fn 13=some Tryz.f13:=by kernel_rfl
@[simp] theorem Xo:MX.eff 13=none:=by kernel_rfl
@[simp] theorem prim_13:MX.prim 13=none:=by kernel_rfl
@[simp] theorem Uw:MF 13:=rfl
@[simp] theorem keep_13a:KK 13 0 [1]∧KK 13 1 [2]:=by decide +kernel
@[simp] theorem fn_15:MX.fn 15=some Tryz.f15:=by kernel_rfl
@[simp] theorem SJ:MX.eff 15=none:=by kernel_rfl
@[simp] theorem prim_15:MX.prim 15=none:=by kernel_rfl
@[simp] theorem Pe:MX.mode 15 = { fresh:=true,keepTop:=true }:=rfl
@[simp] theorem mut_15:MX.mutLit 15=false:=by kernel_rfl
@[simp] theorem keep_15a:KK 15 0 [1,2]∧KK 15 1 [2]:=by decide +kernel
@[simp] theorem fn_21:MX.fn 21=some Tryz.f21:=by kernel_rfl
@[simp] theorem SK:MX.eff 21=none:=by kernel_rfl
@[simp] theorem prim_21:MX.prim 21=none:=by kernel_rfl
@[simp] theorem Pf:MF 21:=rfl
@[simp] theorem keep_21a:KK 21 0 [0,3]∧KK 21 1 [0,3,9]∧KK 21 2 [4]∧KK 21 3 [0,5,6]∧KK 21 4 [0,5,6,7]∧KK 21 5 [0,5,6,7,22]∧KK 21 6 [0,5,6,7]∧KK 21 7 [0,5,6,7]∧KK 21 8 [4]:=by decide +kernel
@[simp] theorem fn_23:MX.fn 23=some Tryz.f23:=by kernel_rfl
@[simp] theorem Xp:MX.eff 23=none:=by kernel_rfl
@[simp] theorem prim_23:MX.prim 23=none:=by kernel_rfl
@[simp] theorem Ux:MF 23:=rfl
@[simp] theorem keep_23a:KK 23 0 [0,3]∧KK 23 1 [0,3,5]∧KK 23 2 [0,3,5,9]∧KK 23 3 [0,3,5]∧KK 23 4 [0,3,5,17]∧KK 23 5 [4]∧KK 23 6 [4]:=by decide +kernel
@[simp] theorem fn_25:MX.fn 25=some Tryz.f25:=by kernel_rfl
@[simp] theorem SL:MX.eff 25=none:=by kernel_rfl
@[simp] theorem prim_25:MX.prim 25=none:=by kernel_rfl
@[simp] theorem Pg:MF 25:=rfl
@[simp] theorem keep_25a:KK 25 0 [0,2,4,6]∧KK 25 1 [0,2,4,6,14]∧KK 25 2 [6]∧KK 25 3 [0,2,6,7]∧KK 25 4 [0,2,6,7,8]∧KK 25 5 [0,2,6,7,8,27]∧KK 25 6 [0,2,6,7,8]∧KK 25 7 [0,2,6,7,8]∧KK 25 8 [0,2,6,7,8,9]∧KK 25 9 [0,2,6,7,8,9,10]∧KK 25 10 [0,2,6,7,8,9,10,49]∧KK 25 11 [0,2,6,7,8,9,10]∧KK 25 12 [0,2,6,7,8,9,10,11]∧KK 25 13 [0,2,6,7,8,9,10,11,12]:=by decide +kernel
@[simp] theorem keep_25b:KK 25 14 [0,2,6,7,8,9,10,12]∧KK 25 15 [0,2,6,7,8,9,10]∧KK 25 16 [6]:=by decide +kernel
@[simp] theorem fn_26:MX.fn 26=some Tryz.f26:=by kernel_rfl
@[simp] theorem Oi:MX.eff 26=none:=by kernel_rfl
@[simp] theorem prim_26:MX.prim 26=none:=by kernel_rfl
@[simp] theorem MR:MF 26:=rfl
@[simp] theorem keep_26a:KK 26 0 [0,3]∧KK 26 1 [0,3,6]∧KK 26 2 [4]∧KK 26 3 [4]:=by decide +kernel
@[simp] theorem fn_31:MX.fn 31=some Tryz.f31:=by kernel_rfl
@[simp] theorem Oj:MX.eff 31=none:=by kernel_rfl
@[simp] theorem prim_31:MX.prim 31=none:=by kernel_rfl
@[simp] theorem MS:MF 31:=rfl
@[simp] theorem mut_31:MX.mutLit 31=false:=by kernel_rfl
@[simp] theorem keep_31a:KK 31 0 [0]∧KK 31 1 [0,3]∧KK 31 2 [0,3,4]∧KK 31 3 [0,3,4,11]∧KK 31 4 [0,3,4]∧KK 31 5 [0,3,4,5]∧KK 31 6 [0,3,4,5,6]∧KK 31 7 [0,3,4,5,6,33]∧KK 31 8 [0,3,4,5,6]∧KK 31 9 [0,3,4,5,6,7]∧KK 31 10 [0,3,4,5,6]∧KK 31 11 [0,3,4]∧KK 31 12 [2]:=by decide +kernel
@[simp] theorem fn_32:MX.fn 32=some Tryz.f32:=by kernel_rfl
@[simp] theorem Xq:MX.eff 32=none:=by kernel_rfl
@[simp] theorem prim_32:MX.prim 32=none:=by kernel_rfl
@[simp] theorem Uy:MF 32:=rfl
@[simp] theorem keep_32a:KK 32 0 [1]∧KK 32 1 [1,4]∧KK 32 2 [1,4,13]∧KK 32 3 [2,3]∧KK 32 4 [1,18]∧KK 32 5 [2,3]∧KK 32 6 [1,22]∧KK 32 7 [2,3]∧KK 32 8 [1,5]∧KK 32 9 [1,5,27]∧KK 32 10 [1,5]∧KK 32 11 [1,5,6]∧KK 32 12 [1,5,6,41]∧KK 32 13 [2,3]:=by decide +kernel
@[simp] theorem keep_32b:KK 32 14 [2,3]:=by decide +kernel
@[simp] theorem fn_34:MX.fn 34=some Tryz.f34:=by kernel_rfl
@[simp] theorem Xr:MX.eff 34=none:=by kernel_rfl
@[simp] theorem prim_34:MX.prim 34=none:=by kernel_rfl
@[simp] theorem Uz:MF 34:=rfl
@[simp] theorem keep_34a:KK 34 0 [0,3]∧KK 34 1 [0,3,5]∧KK 34 2 [0,3,5,9]∧KK 34 3 [4]∧KK 34 4 [4]:=by decide +kernel
@[simp] theorem fn_35:MX.fn 35=some Tryz.f35:=by kernel_rfl
@[simp] theorem Xs:MX.eff 35=none:=by kernel_rfl
@[simp] theorem prim_35:MX.prim 35=none:=by kernel_rfl
@[simp] theorem U0:MF 35:=rfl
@[simp] theorem keep_35a:KK 35 0 [0,4,5]∧KK 35 1 [0,4,5,12]∧KK 35 2 [6]∧KK 35 3 [5,7]∧KK 35 4 [5,7,18]∧KK 35 5 [6]∧KK 35 6 [8]∧KK 35 7 [8,9]∧KK 35 8 [8,9,25]∧KK 35 9 [8,9]∧KK 35 10 [8,9,35]∧KK 35 11 [6]∧KK 35 12 [6]:=by decide +kernel
@[simp] theorem fn_38:MX.fn 38=some Tryz.f38:=by kernel_rfl
@[simp] theorem Xt:MX.eff 38=none:=by kernel_rfl
@[simp] theorem prim_38:MX.prim 38=none:=by kernel_rfl
@[simp] theorem U1:MF 38:=rfl
@[simp] theorem mut_38:MX.mutLit 38=false:=by kernel_rfl
@[simp] theorem keep_38a:KK 38 0 [1]∧KK 38 1 [1,3]∧KK 38 2 [1,3,4]∧KK 38 3 [1,3,4,5]∧KK 38 4 [1,3,4,5,13]∧KK 38 5 [1,3,4,5]∧KK 38 6 [1,3,4,5]∧KK 38 7 [2]:=by decide +kernel
@[simp] theorem fn_39:MX.fn 39=some Tryz.f39:=by kernel_rfl
@[simp] theorem Xu:MX.eff 39=none:=by kernel_rfl
@[simp] theorem prim_39:MX.prim 39=none:=by kernel_rfl
@[simp] theorem U2:MF 39:=rfl
@[simp] theorem keep_39a:KK 39 0 [2,3]∧KK 39 1 [2,3,7]∧KK 39 2 [2,3,7,8]∧KK 39 3 [4]∧KK 39 4 [2,3,20]∧KK 39 5 [2,3,35]∧KK 39 6 [4]∧KK 39 7 [2,3,5]∧KK 39 8 [2,3,5,40]∧KK 39 9 [2,3,5]∧KK 39 10 [2,3,5,54]∧KK 39 11 [4]∧KK 39 12 [4]:=by decide +kernel
@[simp] theorem fn_50:MX.fn 50=some Tryz.f50:=by kernel_rfl
@[simp] theorem Ol:MX.eff 50=none:=by kernel_rfl
@[simp] theorem prim_50:MX.prim 50=none:=by kernel_rfl
@[simp] theorem J7:MF 50:=rfl
@[simp] theorem mut_50:MX.mutLit 50=false:=by kernel_rfl
@[simp] theorem keep_50a:KK 50 0 [2,3]∧KK 50 1 [2,3,6,7]∧KK 50 2 [2,3,6,7]∧KK 50 3 [2,3,6,7,20]∧KK 50 4 [4,5]∧KK 50 5 [2,3,6,8]∧KK 50 6 [8,24]∧KK 50 7 [4,5]∧KK 50 8 [4,5]:=by decide +kernel
@[simp] theorem fn_51:MX.fn 51=some Tryz.f51:=by kernel_rfl
@[simp] theorem Om:MX.eff 51=none:=by kernel_rfl
@[simp] theorem prim_51:MX.prim 51=none:=by kernel_rfl
@[simp] theorem MT:MF 51:=rfl
@[simp] theorem mut_51:MX.mutLit 51=false:=by kernel_rfl
@[simp] theorem keep_51a:KK 51 0 [0]∧KK 51 1 [0,3]∧KK 51 2 [0,3,4]∧KK 51 3 [0,3,4,9]∧KK 51 4 [0,3,4]∧KK 51 5 [0,3,4,5]∧KK 51 6 [0,3,4,5]∧KK 51 7 [0,3,4,5]∧KK 51 8 [0,3,4]∧KK 51 9 [2]:=by decide +kernel
@[simp] theorem fn_52:MX.fn 52=some Tryz.f52:=by kernel_rfl
@[simp] theorem MU:MX.eff 52=none:=by kernel_rfl
@[simp] theorem prim_52:MX.prim 52=none:=by kernel_rfl
@[simp] theorem J8:MF 52:=rfl
@[simp] theorem mut_52:MX.mutLit 52=false:=by kernel_rfl
@[simp] theorem keep_52a:KK 52 0 [0,3]∧KK 52 1 [0,3,6]∧KK 52 2 [0,3,6,14]∧KK 52 3 [4,5]∧KK 52 4 [4,5]:=by decide +kernel
@[simp] theorem fn_53:MX.fn 53=some Tryz.f53:=by kernel_rfl
@[simp] theorem MV:MX.eff 53=none:=by kernel_rfl
@[simp] theorem prim_53:MX.prim 53=none:=by kernel_rfl
@[simp] theorem J9:MF 53:=rfl
@[simp] theorem keep_53a:KK 53 0 [0,3]∧KK 53 1 [0,3,16]∧KK 53 2 [4,5]∧KK 53 3 [0,3,24]∧KK 53 4 [4,5]∧KK 53 5 [0,3,6]∧KK 53 6 [0,3,6,7]∧KK 53 7 [0,3,6,7,32]∧KK 53 8 [4,5]∧KK 53 9 [0,3,6,7,8]∧KK 53 10 [0,3,6,7,8,9]∧KK 53 11 [0,3,6,7,8,9,40]∧KK 53 12 [0,3,6,7,8,9]∧KK 53 13 [0,3,6,7,8,9,53]:=by decide +kernel
@[simp] theorem keep_53b:KK 53 14 [4,5]∧KK 53 15 [0,3,6,7,8,9]∧KK 53 16 [0,3,6,7,8,10,11]∧KK 53 17 [0,3,6,7,8,10,11,12]∧KK 53 18 [0,3,6,7,8,10,11,12,70]∧KK 53 19 [0,3,6,7,8,10,11,12]∧KK 53 20 [0,3,6,7,8,10,11,12,13]∧KK 53 21 [0,3,6,7,8,10,11,12,13,94]∧KK 53 22 [0,3,6,7,8,10,11,12]∧KK 53 23 [0,3,6,10,102]∧KK 53 24 [4,5]∧KK 53 25 [0,3,10,105]∧KK 53 26 [4,5]∧KK 53 27 [0,3,10,109]:=by decide +kernel
@[simp] theorem keep_53c:KK 53 28 [4,5]∧KK 53 29 [0,3,6]:=by decide +kernel
@[simp] theorem fn_59:MX.fn 59=some Tryz.f59:=by kernel_rfl
@[simp] theorem Xv:MX.eff 59=none:=by kernel_rfl
@[simp] theorem prim_59:MX.prim 59=none:=by kernel_rfl
@[simp] theorem U3:MF 59:=rfl
@[simp] theorem keep_59a:KK 59 0 [1]∧KK 59 1 [2]:=by decide +kernel
@[simp] theorem fn_62:MX.fn 62=some Tryz.f62:=by kernel_rfl
@[simp] theorem Xw:MX.eff 62=none:=by kernel_rfl
@[simp] theorem prim_62:MX.prim 62=none:=by kernel_rfl
@[simp] theorem Ph:MF 62:=rfl
@[simp] theorem keep_62a:KK 62 0 [0,3]∧KK 62 1 [4]:=by decide +kernel
@[simp] theorem fn_63:MX.fn 63=some Tryz.f63:=by kernel_rfl
@[simp] theorem Xx:MX.eff 63=none:=by kernel_rfl
@[simp] theorem prim_63:MX.prim 63=none:=by kernel_rfl
@[simp] theorem U4:MX.mode 63 = { }:=rfl
@[simp] theorem keep_63a:KK 63 0 [1]∧KK 63 1 [4,6]∧KK 63 2 [2,3]:=by decide +kernel
@[simp] theorem fn_64:MX.fn 64=some Tryz.f64:=by kernel_rfl
@[simp] theorem SM:MX.eff 64=none:=by kernel_rfl
@[simp] theorem prim_64:MX.prim 64=none:=by kernel_rfl
@[simp] theorem Pj:MX.mode 64 = { fresh:=false,keepTop:=false }:=rfl
@[simp] theorem keep_64a:KK 64 0 [0,1]∧KK 64 1 [0,1,9]∧KK 64 2 [1,14,15]∧KK 64 3 [1,14,15,16]∧KK 64 4 [1,5,14,15]∧KK 64 5 [1,14,15,22]∧KK 64 6 [4]∧KK 64 7 [1,14,15]∧KK 64 8 [4]∧KK 64 9 [1,27,28,29]∧KK 64 10 [1,27,28,29,30]∧KK 64 11 [1,7,27,28,29]∧KK 64 12 [1,27,28,29,36]∧KK 64 13 [4]:=by decide +kernel
@[simp] theorem keep_64b:KK 64 14 [1,27,28,29]∧KK 64 15 [4]:=by decide +kernel
@[simp] theorem fn_66:MX.fn 66=some Tryz.f66:=by kernel_rfl
@[simp] theorem SN:MX.eff 66=none:=by kernel_rfl
@[simp] theorem prim_66:MX.prim 66=none:=by kernel_rfl
@[simp] theorem Pk:MF 66:=rfl
@[simp] theorem keep_66a:KK 66 0 [1]∧KK 66 1 [2]:=by decide +kernel
@[simp] theorem fn_67:MX.fn 67=some Tryz.f67:=by kernel_rfl
@[simp] theorem Xy:MX.eff 67=none:=by kernel_rfl
@[simp] theorem prim_67:MX.prim 67=none:=by kernel_rfl
@[simp] theorem U5:MF 67:=rfl
@[simp] theorem keep_67a:KK 67 0 [0]∧KK 67 1 [2]:=by decide +kernel
@[simp] theorem fn_68:MX.fn 68=some Tryz.f68:=by kernel_rfl
@[simp] theorem SO:MX.eff 68=none:=by kernel_rfl
@[simp] theorem prim_68:MX.prim 68=none:=by kernel_rfl
@[simp] theorem Pl:MF 68:=rfl
@[simp] theorem mut_68:MX.mutLit 68=false:=by kernel_rfl
@[simp] theorem keep_68a:KK 68 0 [0,3]∧KK 68 1 [0,3,13]∧KK 68 2 [4]∧KK 68 3 [3,5]∧KK 68 4 [3,5,6]∧KK 68 5 [3,5,6,7]∧KK 68 6 [3,5,6,7,28]∧KK 68 7 [3,5,6,7]∧KK 68 8 [3,5,6,7,8]∧KK 68 9 [3,5,6,7,8,9]∧KK 68 10 [3,5,6,7,8,9,46]∧KK 68 11 [3,5,6,7,8,9]∧KK 68 12 [3,5,6,7,8,9,10]∧KK 68 13 [3,5,6,7,8,9]:=by decide +kernel
@[simp] theorem keep_68b:KK 68 14 [3,5,6,7]∧KK 68 15 [4]:=by decide +kernel
@[simp] theorem fn_69:MX.fn 69=some Tryz.f69:=by kernel_rfl
@[simp] theorem Xz:MX.eff 69=none:=by kernel_rfl
@[simp] theorem prim_69:MX.prim 69=none:=by kernel_rfl
@[simp] theorem U6:MF 69:=rfl
@[simp] theorem keep_69a:KK 69 0 [0,3]∧KK 69 1 [0,3,5]∧KK 69 2 [0,3,5,6]∧KK 69 3 [0,3,5,6,11]∧KK 69 4 [0,3,5,6]∧KK 69 5 [0,3,5,6]∧KK 69 6 [4]:=by decide +kernel
@[simp] theorem fn_70:MX.fn 70=some Tryz.f70:=by kernel_rfl
@[simp] theorem X3:MX.eff 70=none:=by kernel_rfl
@[simp] theorem prim_70:MX.prim 70=none:=by kernel_rfl
@[simp] theorem U7:MF 70:=rfl
@[simp] theorem keep_70a:KK 70 0 [1]∧KK 70 1 [2]:=by decide +kernel
@[simp] theorem fn_72:MX.fn 72=some Tryz.f72:=by kernel_rfl
@[simp] theorem X4:MX.eff 72=none:=by kernel_rfl
@[simp] theorem prim_72:MX.prim 72=none:=by kernel_rfl
@[simp] theorem U8:MF 72:=rfl
@[simp] theorem keep_72a:KK 72 0 [0,1]∧KK 72 1 [0,1,5]∧KK 72 2 [0,1,5,9]∧KK 72 3 [0,1,5]∧KK 72 4 [0,1,5,18]∧KK 72 5 [4]∧KK 72 6 [4]:=by decide +kernel
@[simp] theorem prim_73:MX.prim 73=none:=by kernel_rfl
@[simp] theorem U9:MF 73:=rfl
@[simp] theorem fn_74:MX.fn 74=some Tryz.f74:=by kernel_rfl
@[simp] theorem X5:MX.eff 74=none:=by kernel_rfl
@[simp] theorem prim_74:MX.prim 74=none:=by kernel_rfl
@[simp] theorem VA:MF 74:=rfl
@[simp] theorem keep_74a:KK 74 0 [0,3]∧KK 74 1 [0,5,6]∧KK 74 2 [0,5,6,7]∧KK 74 3 [0,5,6,7,14]∧KK 74 4 [0,5,6,7]∧KK 74 5 [0,5,6,7]∧KK 74 6 [4]:=by decide +kernel
@[simp] theorem fn_79:MX.fn 79=some Tryz.f79:=by kernel_rfl
@[simp] theorem Ki:MX.eff 79=none:=by kernel_rfl
@[simp] theorem prim_79:MX.prim 79=none:=by kernel_rfl
@[simp] theorem JF:MX.mode 79 = { }:=rfl
@[simp] theorem mut_79:MX.mutLit 79=false:=by kernel_rfl
@[simp] theorem keep_79a:KK 79 0 [0,2,4]∧KK 79 1 [2,9,10]∧KK 79 2 [2,9,10]∧KK 79 3 [2,9,10,32]∧KK 79 4 [6,7,8]∧KK 79 5 [9,34,35,36]∧KK 79 6 [9,34,35,36,37]∧KK 79 7 [9,11,12,34,35,36]∧KK 79 8 [9,11,13,34,35,36]∧KK 79 9 [9,11,13,34,35,36,45]∧KK 79 10 [6,7,8]∧KK 79 11 [9,34,35,36]∧KK 79 12 [6,7,8]:=by decide +kernel
@[simp] theorem fn_80:MX.fn 80=some Tryz.f80:=by kernel_rfl
@[simp] theorem SP:MX.eff 80=none:=by kernel_rfl
@[simp] theorem prim_80:MX.prim 80=none:=by kernel_rfl
@[simp] theorem Pm:MF 80:=rfl
@[simp] theorem mut_80:MX.mutLit 80=false:=by kernel_rfl
@[simp] theorem keep_80a:KK 80 0 [0]∧KK 80 1 [2]:=by decide +kernel
@[simp] theorem fn_81:MX.fn 81=some Tryz.f81:=by kernel_rfl
@[simp] theorem X6:MX.eff 81=none:=by kernel_rfl
@[simp] theorem prim_81:MX.prim 81=none:=by kernel_rfl
@[simp] theorem VB:MF 81:=rfl
@[simp] theorem mut_81:MX.mutLit 81=false:=by kernel_rfl
@[simp] theorem keep_81a:KK 81 0 [0]∧KK 81 1 [0,3]∧KK 81 2 [0,3,4]∧KK 81 3 [0,3,4,8]∧KK 81 4 [0,3,4]∧KK 81 5 [0,3,4]∧KK 81 6 [2]:=by decide +kernel
@[simp] theorem fn_82:MX.fn 82=some Tryz.f82:=by kernel_rfl
@[simp] theorem SQ:MX.eff 82=none:=by kernel_rfl
@[simp] theorem prim_82:MX.prim 82=none:=by kernel_rfl
@[simp] theorem Pn:MX.mode 82 = { }:=rfl
@[simp] theorem keep_82a:KK 82 0 [0,3]∧KK 82 1 [0,3,6]∧KK 82 2 [0,3,6,11]∧KK 82 3 [4,5]∧KK 82 4 [4,5]:=by decide +kernel
@[simp] theorem fn_83:MX.fn 83=some Tryz.f83:=by kernel_rfl
@[simp] theorem Kj:MX.eff 83=none:=by kernel_rfl
@[simp] theorem prim_83:MX.prim 83=none:=by kernel_rfl
@[simp] theorem JG:MX.mode 83 = { }:=rfl
@[simp] theorem keep_83a:KK 83 0 [0,3]∧KK 83 1 [0,3,5]∧KK 83 2 [0,3,5,11]∧KK 83 3 [4]∧KK 83 4 [3,6]∧KK 83 5 [3,6,17]∧KK 83 6 [4]∧KK 83 7 [7]∧KK 83 8 [7]∧KK 83 9 [4]:=by decide +kernel
@[simp] theorem fn_84:MX.fn 84=some Tryz.f84:=by kernel_rfl
@[simp] theorem X7:MX.eff 84=none:=by kernel_rfl
@[simp] theorem prim_84:MX.prim 84=none:=by kernel_rfl
@[simp] theorem VC:MF 84:=rfl
@[simp] theorem keep_84a:KK 84 0 [0]∧KK 84 1 [4]∧KK 84 2 [2]:=by decide +kernel
@[simp] theorem fn_85:MX.fn 85=some Tryz.f85:=by kernel_rfl
@[simp] theorem X8:MX.eff 85=none:=by kernel_rfl
@[simp] theorem prim_85:MX.prim 85=none:=by kernel_rfl
@[simp] theorem VD:MF 85:=rfl
@[simp] theorem keep_85a:KK 85 0 [0,3]∧KK 85 1 [0,3,5]∧KK 85 2 [0,3,5,11]∧KK 85 3 [4]∧KK 85 4 [0,3,6]∧KK 85 5 [0,3,6,19]∧KK 85 6 [4]∧KK 85 7 [26]∧KK 85 8 [4]∧KK 85 9 [4]:=by decide +kernel
@[simp] theorem fn_86:MX.fn 86=some Tryz.f86:=by kernel_rfl
@[simp] theorem X9:MX.eff 86=none:=by kernel_rfl
@[simp] theorem prim_86:MX.prim 86=none:=by kernel_rfl
@[simp] theorem VE:MF 86:=rfl
@[simp] theorem keep_86a:KK 86 0 [1]∧KK 86 1 [2]:=by decide +kernel
@[simp] theorem fn_87:MX.fn 87=some Tryz.f87:=by kernel_rfl
@[simp] theorem YA:MX.eff 87=none:=by kernel_rfl
@[simp] theorem prim_87:MX.prim 87=none:=by kernel_rfl
@[simp] theorem VF:MF 87:=rfl
@[simp] theorem keep_87a:KK 87 0 [0,4,5]∧KK 87 1 [0,4,5,8]∧KK 87 2 [6]∧KK 87 3 [0,4,5,8,9]∧KK 87 4 [14]∧KK 87 5 [6]∧KK 87 6 [0,4,5,8,15]∧KK 87 7 [5,20]∧KK 87 8 [6]∧KK 87 9 [24]∧KK 87 10 [6]∧KK 87 11 [0,4,5,8,25]∧KK 87 12 [4,5,29]∧KK 87 13 [6]:=by decide +kernel
@[simp] theorem keep_87b:KK 87 14 [4,5,33]∧KK 87 15 [6]∧KK 87 16 [42]∧KK 87 17 [6]∧KK 87 18 [0,4,5,43]∧KK 87 19 [6]∧KK 87 20 [6]:=by decide +kernel
@[simp] theorem fn_88:MX.fn 88=some Tryz.f88:=by kernel_rfl
@[simp] theorem SR:MX.eff 88=none:=by kernel_rfl
@[simp] theorem prim_88:MX.prim 88=none:=by kernel_rfl
@[simp] theorem Po:MF 88:=rfl
@[simp] theorem mut_88:MX.mutLit 88=false:=by kernel_rfl
@[simp] theorem keep_88a:KK 88 0 [1]∧KK 88 1 [1,7]∧KK 88 2 [2]∧KK 88 3 [1,3]∧KK 88 4 [1,3,4]∧KK 88 5 [1,3,4,15]∧KK 88 6 [1,3,4]∧KK 88 7 [1,3,4]∧KK 88 8 [2]:=by decide +kernel
@[simp] theorem fn_89:MX.fn 89=some Tryz.f89:=by kernel_rfl
@[simp] theorem YB:MX.eff 89=none:=by kernel_rfl
@[simp] theorem prim_89:MX.prim 89=none:=by kernel_rfl
@[simp] theorem VG:MF 89:=rfl
@[simp] theorem keep_89a:KK 89 0 [0,1]∧KK 89 1 [0,1,5]∧KK 89 2 [0,1,5,9]∧KK 89 3 [0,1,5]∧KK 89 4 [0,1,5,17]∧KK 89 5 [4]∧KK 89 6 [4]:=by decide +kernel
@[simp] theorem fn_91:MX.fn 91=some Tryz.f91:=by kernel_rfl
@[simp] theorem YC:MX.eff 91=none:=by kernel_rfl
@[simp] theorem prim_91:MX.prim 91=none:=by kernel_rfl
@[simp] theorem VH:MF 91:=rfl
@[simp] theorem keep_91a:KK 91 0 [2,3]∧KK 91 1 [2,3,7]∧KK 91 2 [2,3,7,8]∧KK 91 3 [4]∧KK 91 4 [2,3,15]∧KK 91 5 [2,3,19,20]∧KK 91 6 [2,3,19,20,21]∧KK 91 7 [2,3,5,19,20]∧KK 91 8 [2,3,19,20,41]∧KK 91 9 [4]∧KK 91 10 [2,3,19,20]∧KK 91 11 [4]∧KK 91 12 [4]:=by decide +kernel
@[simp] theorem fn_97:MX.fn 97=some Tryz.f97:=by kernel_rfl
@[simp] theorem YD:MX.eff 97=none:=by kernel_rfl
@[simp] theorem prim_97:MX.prim 97=none:=by kernel_rfl
@[simp] theorem VI:MF 97:=rfl
@[simp] theorem keep_97a:KK 97 0 [0]∧KK 97 1 [5,6,7]∧KK 97 2 [5,6,7,8]∧KK 97 3 [4,5,6,7]∧KK 97 4 [4,5,6,7,12]∧KK 97 5 [2]∧KK 97 6 [5,6,7]∧KK 97 7 [2]:=by decide +kernel
@[simp] theorem fn_98:MX.fn 98=some Tryz.f98:=by kernel_rfl
@[simp] theorem On:MX.eff 98=none:=by kernel_rfl
@[simp] theorem prim_98:MX.prim 98=none:=by kernel_rfl
@[simp] theorem MY:MF 98:=rfl
@[simp] theorem mut_98:MX.mutLit 98=false:=by kernel_rfl
@[simp] theorem keep_98a:KK 98 0 [0]∧KK 98 1 [2]:=by decide +kernel
@[simp] theorem fn_99:MX.fn 99=some Tryz.f99:=by kernel_rfl
@[simp] theorem Oo:MX.eff 99=none:=by kernel_rfl
@[simp] theorem KA:MX.mode 99 = { fresh:=false,keepTop:=false }:=rfl
@[simp] theorem keep_99a:KK 99 0 [1,2,3,4]∧KK 99 1 [2,3,4,6,7]∧KK 99 2 [3,23]∧KK 99 3 [5]∧KK 99 4 []∧KK 99 5 [5]:=by decide +kernel
@[simp] theorem fn_100:MX.fn 100=some Tryz.f100:=by kernel_rfl
@[simp] theorem VJ:MX.eff 100=none:=by kernel_rfl
@[simp] theorem prim_100:MX.prim 100=none:=by kernel_rfl
@[simp] theorem NL:MF 100:=rfl
@[simp] theorem mut_100:MX.mutLit 100=false:=by kernel_rfl
@[simp] theorem Y4:KK 100 0 [0,3]∧KK 100 1 [0,3,6]∧KK 100 2 [0,3,6,7]∧KK 100 3 [0,3,6,7,20]∧KK 100 4 [4,5]∧KK 100 5 [0,3,6,7,8,9]∧KK 100 6 [0,3,6,7,8,31]∧KK 100 7 [4,5]∧KK 100 8 [0,3,6,7,8,10]∧KK 100 9 [0,3,6,7,10,11]∧KK 100 10 [0,3,6,7,10,11,39]∧KK 100 11 [0,3,6,10]∧KK 100 12 [0,3,6,10,47]∧KK 100 13 [4,5]:=by decide +kernel
@[simp] theorem Y5:KK 100 14 [0,3,10,12]∧KK 100 15 [0,3,10,12,60]∧KK 100 16 [4,5]∧KK 100 17 [0,3,6]:=by decide +kernel
@[simp] theorem fn_101:MX.fn 101=some Tryz.f101:=by kernel_rfl
@[simp] theorem Pp:MX.eff 101=none:=by kernel_rfl
@[simp] theorem prim_101:MX.prim 101=none:=by kernel_rfl
@[simp] theorem NM:MF 101:=rfl
@[simp] theorem mut_101:MX.mutLit 101=false:=by kernel_rfl
@[simp] theorem Y6:KK 101 0 [0]∧KK 101 1 [2]:=by decide +kernel
@[simp] theorem fn_102:MX.fn 102=some Tryz.f102:=by kernel_rfl
@[simp] theorem VK:MX.eff 102=none:=by kernel_rfl
@[simp] theorem prim_102:MX.prim 102=none:=by kernel_rfl
@[simp] theorem SS:MF 102:=rfl
@[simp] theorem mut_102:MX.mutLit 102=true:=by kernel_rfl
@[simp] theorem Y7:KK 102 0 [1,2]∧KK 102 1 [1,2,5]∧KK 102 2 [1,5,6]∧KK 102 3 [1,5,6,15]∧KK 102 4 [1,5,6,7]∧KK 102 5 [1,5,6,7]∧KK 102 6 [1,5,6,7]∧KK 102 7 [1,5,6,7,35]∧KK 102 8 [4]∧KK 102 9 [1,5,6,7,39,40,41]∧KK 102 10 [1,5,6,7,39,40,41,42]∧KK 102 11 [1,5,6,7,9,39,40,41]∧KK 102 12 [1,5,6,7,39,40,41]∧KK 102 13 [1,5,6,7,39,40,41]:=by decide +kernel
@[simp] theorem Y8:KK 102 14 [4]:=by decide +kernel
@[simp] theorem fn_103:MX.fn 103=some Tryz.f103:=by kernel_rfl
@[simp] theorem VL:MX.eff 103=none:=by kernel_rfl
@[simp] theorem prim_103:MX.prim 103=none:=by kernel_rfl
@[simp] theorem SU:MX.mode 103 = { fresh:=false,keepTop:=false }:=rfl
@[simp] theorem Y9:KK 103 0 [1]∧KK 103 1 [2]:=by decide +kernel
@[simp] theorem fn_104:MX.fn 104=some Tryz.f104:=by kernel_rfl
@[simp] theorem VM:MX.eff 104=none:=by kernel_rfl
@[simp] theorem prim_104:MX.prim 104=none:=by kernel_rfl
@[simp] theorem SV:MF 104:=rfl
@[simp] theorem ZA:KK 104 0 [0,1,2]∧KK 104 1 [6]:=by decide +kernel
@[simp] theorem fn_110:MX.fn 110=some Tryz.f110:=by kernel_rfl
@[simp] theorem VN:MX.eff 110=none:=by kernel_rfl
@[simp] theorem prim_110:MX.prim 110=none:=by kernel_rfl
@[simp] theorem SW:MF 110:=rfl
@[simp] theorem ZB:KK 110 0 [1,2,3]∧KK 110 1 [1,2,3]∧KK 110 2 [1,2,3,21]∧KK 110 3 [6]∧KK 110 4 [1,2,3,7]∧KK 110 5 [1,2,3,7,30]∧KK 110 6 [1,2,3,7]∧KK 110 7 [1,2,3,7]∧KK 110 8 [6]:=by decide +kernel
@[simp] theorem fn_111:MX.fn 111=some Tryz.f111:=by kernel_rfl
@[simp] theorem VO:MX.eff 111=none:=by kernel_rfl
@[simp] theorem prim_111:MX.prim 111=none:=by kernel_rfl
@[simp] theorem SX:MF 111:=rfl
@[simp] theorem ZC:KK 111 0 [0,1]∧KK 111 1 [1,5]∧KK 111 2 [4]∧KK 111 3 [4]:=by decide +kernel
@[simp] theorem fn_114:MX.fn 114=some Tryz.f114:=by kernel_rfl
@[simp] theorem VP:MX.eff 114=none:=by kernel_rfl
@[simp] theorem prim_114:MX.prim 114=none:=by kernel_rfl
@[simp] theorem NN:MF 114:=rfl
@[simp] theorem ZD:KK 114 0 [0,1]∧KK 114 1 [0,1,7,8]∧KK 114 2 [0,1,7,8,9]∧KK 114 3 [0,1,5,7,8]∧KK 114 4 [0,1,5,7,8,16]∧KK 114 5 [4]∧KK 114 6 [0,1,7,8]∧KK 114 7 [4]:=by decide +kernel
@[simp] theorem fn_115:MX.fn 115=some Tryz.f115:=by kernel_rfl
@[simp] theorem VQ:MX.eff 115=none:=by kernel_rfl
@[simp] theorem prim_115:MX.prim 115=none:=by kernel_rfl
@[simp] theorem SY:MX.mode 115 = { fresh:=false,keepTop:=false }:=rfl
@[simp] theorem ZE:KK 115 0 [1,2]∧KK 115 1 [3]:=by decide +kernel
@[simp] theorem fn_116:MX.fn 116=some Tryz.f116:=by kernel_rfl
@[simp] theorem VR:MX.eff 116=none:=by kernel_rfl
@[simp] theorem prim_116:MX.prim 116=none:=by kernel_rfl
@[simp] theorem SZ:MX.mode 116 = { }:=rfl
@[simp] theorem ZF:KK 116 0 [0]∧KK 116 1 [2]:=by decide +kernel
@[simp] theorem fn_117:MX.fn 117=some Tryz.f117:=by kernel_rfl
@[simp] theorem Pq:MX.eff 117=none:=by kernel_rfl
@[simp] theorem prim_117:MX.prim 117=none:=by kernel_rfl
@[simp] theorem NO:MX.mode 117 = { fresh:=false,keepTop:=false }:=rfl
@[simp] theorem ZG:KK 117 0 [3,4,5]∧KK 117 1 [3,4,5,12]∧KK 117 2 [6]∧KK 117 3 [6]:=by decide +kernel
@[simp] theorem fn_118:MX.fn 118=some Tryz.f118:=by kernel_rfl
@[simp] theorem VU:MX.eff 118=none:=by kernel_rfl
@[simp] theorem prim_118:MX.prim 118=none:=by kernel_rfl
@[simp] theorem Sa:MF 118:=rfl
@[simp] theorem ZH:KK 118 0 [0,1]∧KK 118 1 [0,1,5]∧KK 118 2 [0,1,5,9]∧KK 118 3 [0,1,5]∧KK 118 4 [0,1,5,18]∧KK 118 5 [4]∧KK 118 6 [4]:=by decide +kernel
@[simp] theorem fn_119:MX.fn 119=some Tryz.f119:=by kernel_rfl
@[simp] theorem MZ:MX.eff 119=none:=by kernel_rfl
@[simp] theorem prim_119:MX.prim 119=none:=by kernel_rfl
@[simp] theorem Kk:MF 119:=rfl
@[simp] theorem mut_119:MX.mutLit 119=false:=by kernel_rfl
@[simp] theorem ZI:KK 119 0 [1,2,3,6]∧KK 119 1 [1,2,3,6,12]∧KK 119 2 [1,2,3,6,7]∧KK 119 3 [1,2,3,6,7,16]∧KK 119 4 [1,2,3,6,7]∧KK 119 5 [1,2,3,6,7,25]∧KK 119 6 [6]∧KK 119 7 [1,2,3,6,8]∧KK 119 8 [1,2,3,6,8]∧KK 119 9 [1,2,3,6,8,9]∧KK 119 10 [1,2,3,6,8,9,37]∧KK 119 11 [1,2,3,6,8,9]∧KK 119 12 [1,2,3,6,8,9]∧KK 119 13 [6]:=by decide +kernel
@[simp] theorem fn_120:MX.fn 120=some Tryz.f120:=by kernel_rfl
@[simp] theorem VV:MX.eff 120=none:=by kernel_rfl
@[simp] theorem prim_120:MX.prim 120=none:=by kernel_rfl
@[simp] theorem Sb:MF 120:=rfl
@[simp] theorem ZJ:KK 120 0 [1,2,3]∧KK 120 1 [1,2,3]∧KK 120 2 [1,2,3,21]∧KK 120 3 [6]∧KK 120 4 [1,2,3,7]∧KK 120 5 [1,2,3,7,30]∧KK 120 6 [1,2,3,7]∧KK 120 7 [1,2,3,7]∧KK 120 8 [6]:=by decide +kernel
@[simp] theorem fn_121:MX.fn 121=some Tryz.f121:=by kernel_rfl
@[simp] theorem VW:MX.eff 121=none:=by kernel_rfl
@[simp] theorem prim_121:MX.prim 121=none:=by kernel_rfl
@[simp] theorem Sc:MF 121:=rfl
@[simp] theorem ZK:KK 121 0 [0,1]∧KK 121 1 [4]:=by decide +kernel
@[simp] theorem fn_122:MX.fn 122=some Tryz.f122:=by kernel_rfl
@[simp] theorem VX:MX.eff 122=none:=by kernel_rfl
@[simp] theorem prim_122:MX.prim 122=none:=by kernel_rfl
@[simp] theorem Sd:MF 122:=rfl
@[simp] theorem ZL:KK 122 0 [0,3]∧KK 122 1 [0,3,5]∧KK 122 2 [0,3,5,6]∧KK 122 3 [0,3,5,6,11]∧KK 122 4 [0,3,5,6]∧KK 122 5 [0,3,5,6]∧KK 122 6 [4]:=by decide +kernel
@[simp] theorem fn_142:MX.fn 142=some Tryz.f142:=by kernel_rfl
@[simp] theorem Pr:MX.eff 142=none:=by kernel_rfl
@[simp] theorem prim_142:MX.prim 142=none:=by kernel_rfl
@[simp] theorem NP:MF 142:=rfl
@[simp] theorem mut_142:MX.mutLit 142=false:=by kernel_rfl
@[simp] theorem ZM:KK 142 0 [1,2]∧KK 142 1 [1,2,3]∧KK 142 2 [1,2,3]∧KK 142 3 [1,2,3,4]∧KK 142 4 [1,2,3,4,11]∧KK 142 5 [1,2,3,4]∧KK 142 6 [1,2,3,4]∧KK 142 7 [2]:=by decide +kernel
@[simp] theorem fn_143:MX.fn 143=some Tryz.f143:=by kernel_rfl
@[simp] theorem VY:MX.eff 143=none:=by kernel_rfl
@[simp] theorem prim_143:MX.prim 143=none:=by kernel_rfl
@[simp] theorem Se:MF 143:=rfl
@[simp] theorem ZN:KK 143 0 [0,3]∧KK 143 1 [7]∧KK 143 2 [4]:=by decide +kernel
@[simp] theorem fn_144:MX.fn 144=some Tryz.f144:=by kernel_rfl
@[simp] theorem KB:MX.eff 144=none:=by kernel_rfl
@[simp] theorem prim_144:MX.prim 144=none:=by kernel_rfl
@[simp] theorem JH:MX.mode 144 = { fresh:=false,keepTop:=false }:=rfl
@[simp] theorem mut_144:MX.mutLit 144=false:=by kernel_rfl
@[simp] theorem ZO:KK 144 0 [3,4,5]∧KK 144 1 [3,4,5,19]∧KK 144 2 [6]∧KK 144 3 [3,4,5,7]∧KK 144 4 [3,4,5,7,28]∧KK 144 5 [6]∧KK 144 6 [3,4,5,7,40]∧KK 144 7 [6]∧KK 144 8 [3,4,5,7,8]∧KK 144 9 [3,4,5,7,8,53,54,55]∧KK 144 10 [3,4,5,7,8,53,54,55,56]∧KK 144 11 [3,4,5,7,8,9,10,53,54,55]∧KK 144 12 [3,4,5,7,8,9,10,53,54,55]∧KK 144 13 [3,4,5,7,8,53,54,55]:=by decide +kernel
@[simp] theorem ZP:KK 144 14 [3,4,5,7,8,53,54,55]∧KK 144 15 [3,7,8,11]∧KK 144 16 [3,8,11,79,80,81]∧KK 144 17 [3,8,11,79,80,81,82]∧KK 144 18 [3,8,11,13,79,80,81]∧KK 144 19 [3,8,11,13,14,79,80,81]∧KK 144 20 [3,8,11,14,79,80,81,89,90,91]∧KK 144 21 [3,8,11,14,79,80,81,89,90,91,92]∧KK 144 22 [3,8,11,14,16,79,80,81,89,90,91]∧KK 144 23 [3,8,11,14,79,80,81,89,90,91]∧KK 144 24 [3,8,11,14,79,80,81,89,90,91]∧KK 144 25 [3,8,11,79,80,81]∧KK 144 26 [3,8,11,79,80,81]∧KK 144 27 [6]:=by decide +kernel
@[simp] theorem fn_145:MX.fn 145=some Tryz.f145:=by kernel_rfl
@[simp] theorem VZ:MX.eff 145=none:=by kernel_rfl
@[simp] theorem prim_145:MX.prim 145=none:=by kernel_rfl
@[simp] theorem Sf:MF 145:=rfl
@[simp] theorem mut_145:MX.mutLit 145=true:=by kernel_rfl
@[simp] theorem ZQ:KK 145 0 [1,2]∧KK 145 1 [1,2,5]∧KK 145 2 [1,5,6]∧KK 145 3 [1,5,6,15]∧KK 145 4 [1,5,6,7]∧KK 145 5 [1,5,6,7]∧KK 145 6 [1,5,6,7]∧KK 145 7 [1,5,6,7,35]∧KK 145 8 [4]∧KK 145 9 [1,5,6,7,39,40,41]∧KK 145 10 [1,5,6,7,39,40,41,42]∧KK 145 11 [1,5,6,7,9,39,40,41]∧KK 145 12 [1,5,6,7,39,40,41]∧KK 145 13 [1,5,6,7,39,40,41]:=by decide +kernel
@[simp] theorem ZR:KK 145 14 [4]:=by decide +kernel
@[simp] theorem fn_146:MX.fn 146=some Tryz.f146:=by kernel_rfl
@[simp] theorem Va:MX.eff 146=none:=by kernel_rfl
@[simp] theorem prim_146:MX.prim 146=none:=by kernel_rfl
@[simp] theorem Sg:MX.mode 146 = { fresh:=false,keepTop:=false }:=rfl
@[simp] theorem ZS:KK 146 0 [1]∧KK 146 1 [2]:=by decide +kernel
@[simp] theorem fn_147:MX.fn 147=some Tryz.f147:=by kernel_rfl
@[simp] theorem GJ:MX.eff 147=none:=by kernel_rfl
@[simp] theorem prim_147:MX.prim 147=none:=by kernel_rfl
@[simp] theorem FT:MX.mode 147 = { }:=rfl
@[simp] theorem mut_147:MX.mutLit 147=false:=by kernel_rfl
@[simp] theorem ZT:KK 147 0 [0,3]∧KK 147 1 [0,3,5]∧KK 147 2 [0,3,5,16]∧KK 147 3 [0,3,5,16,17]∧KK 147 4 [4]∧KK 147 5 [0,3,5,16,20]∧KK 147 6 [4]∧KK 147 7 [0,3,5,16,29]∧KK 147 8 [4]∧KK 147 9 [0,3,52]∧KK 147 10 [0,3,6]∧KK 147 11 [0,3,6,59]∧KK 147 12 [4]∧KK 147 13 [0,3,6,72]:=by decide +kernel
@[simp] theorem ZU:KK 147 14 [4]∧KK 147 15 [0,6,74,75,76]∧KK 147 16 [0,6,74,75,76,77]∧KK 147 17 [0,6,7,8,74,75,76]∧KK 147 18 [0,6,9,74,75,76]∧KK 147 19 [0,6,9,74,75,76,95]∧KK 147 20 [4]∧KK 147 21 [0,6,74,75,76]∧KK 147 22 [4]∧KK 147 23 [4]:=by decide +kernel
@[simp] theorem fn_148:MX.fn 148=some Tryz.f148:=by kernel_rfl
@[simp] theorem Ps:MX.eff 148=none:=by kernel_rfl
@[simp] theorem prim_148:MX.prim 148=none:=by kernel_rfl
@[simp] theorem NQ:MX.mode 148 = { fresh:=true,keepTop:=true }:=rfl
@[simp] theorem mut_148:MX.mutLit 148=true:=by kernel_rfl
@[simp] theorem ZV:KK 148 0 [1]∧KK 148 1 [1,8]∧KK 148 2 [2]∧KK 148 3 [1,3]∧KK 148 4 [3,13,14,15]∧KK 148 5 [3,13,14,15,16]∧KK 148 6 [3,5,13,14,15]∧KK 148 7 [3,13,14,15]∧KK 148 8 [3,13,14,15]∧KK 148 9 [2]:=by decide +kernel
@[simp] theorem Pt:MX.eff 149=some NH:=by kernel_rfl
@[simp] theorem prim_149:MX.prim 149=none:=by kernel_rfl
@[simp] theorem NR:MX.mode 149 = { fresh:=false,keepTop:=false }:=rfl
@[simp] theorem Pu:MX.eff 150=some Hs:=by kernel_rfl
@[simp] theorem prim_150:MX.prim 150=none:=by kernel_rfl
@[simp] theorem NS:MX.mode 150 = { fresh:=false,keepTop:=false }:=rfl
@[simp] theorem fn_151:MX.fn 151=some Tryz.f151:=by kernel_rfl
@[simp] theorem Pv:MX.eff 151=none:=by kernel_rfl
@[simp] theorem prim_151:MX.prim 151=none:=by kernel_rfl
@[simp] theorem Kl:MX.mode 151 = { fresh:=true,keepTop:=true }:=rfl
@[simp] theorem mut_151:MX.mutLit 151=false:=by kernel_rfl
@[simp] theorem ZW:KK 151 0 [0]∧KK 151 1 [0,4]∧KK 151 2 [2]∧KK 151 3 [2]:=by decide +kernel
@[simp] theorem fn_152:MX.fn 152=some Tryz.f152:=by kernel_rfl
@[simp] theorem Vb:MX.eff 152=none:=by kernel_rfl
@[simp] theorem prim_152:MX.prim 152=none:=by kernel_rfl
@[simp] theorem Si:MF 152:=rfl
@[simp] theorem ZX:KK 152 0 [0]∧KK 152 1 [0,8]∧KK 152 2 [2,3]∧KK 152 3 [0,4]∧KK 152 4 [0,4,12]∧KK 152 5 [0,4]∧KK 152 6 [0,4,5]∧KK 152 7 [0,4,5,24]∧KK 152 8 [2,3]∧KK 152 9 [2,3]:=by decide +kernel
@[simp] theorem fn_153:MX.fn 153=some Tryz.f153:=by kernel_rfl
@[simp] theorem Pw:MX.eff 153=none:=by kernel_rfl
@[simp] theorem prim_153:MX.prim 153=none:=by kernel_rfl
@[simp] theorem NT:MF 153:=rfl
@[simp] theorem ZY:KK 153 0 [0,1,5]∧KK 153 1 [0,1,5,9]∧KK 153 2 [6]∧KK 153 3 [6]:=by decide +kernel
@[simp] theorem fn_154:MX.fn 154=some Tryz.f154:=by kernel_rfl
@[simp] theorem Px:MX.eff 154=none:=by kernel_rfl
@[simp] theorem prim_154:MX.prim 154=none:=by kernel_rfl
@[simp] theorem NU:MF 154:=rfl
@[simp] theorem ZZ:KK 154 0 [0,4,5,6]∧KK 154 1 [0,4,6,7]∧KK 154 2 [0,4,6,7,20]∧KK 154 3 [6,7]∧KK 154 4 [6]∧KK 154 5 [0,4,6,7,37]∧KK 154 6 [6,7]∧KK 154 7 [6]∧KK 154 8 [0,4,6,7,50]∧KK 154 9 [6,7]∧KK 154 10 [6]∧KK 154 11 [0,4,6,7,60]∧KK 154 12 [6,7]∧KK 154 13 [6]:=by decide +kernel
@[simp] theorem Za:KK 154 14 [0,4,6,7,64]∧KK 154 15 [6]∧KK 154 16 [0,6,7,8]∧KK 154 17 [0,6,7,8,9]∧KK 154 18 [0,6,7,8,9,72]∧KK 154 19 [0,6,7,8,9]∧KK 154 20 [0,6,7,8,9,10]∧KK 154 21 [0,6,7,8,9,10,82]∧KK 154 22 [0,6,7,8,9,10]∧KK 154 23 [0,6,7,8,9,10,11]∧KK 154 24 [0,6,7,8,9,10]∧KK 154 25 [0,6,7,8,9,10,110]∧KK 154 26 [6]∧KK 154 27 [6]:=by decide +kernel
@[simp] theorem fn_155:MX.fn 155=some Tryz.f155:=by kernel_rfl
@[simp] theorem Vc:MX.eff 155=none:=by kernel_rfl
@[simp] theorem prim_155:MX.prim 155=none:=by kernel_rfl
@[simp] theorem Sj:MF 155:=rfl
@[simp] theorem Zb:KK 155 0 [0]∧KK 155 1 [2]:=by decide +kernel
@[simp] theorem fn_156:MX.fn 156=some Tryz.f156:=by kernel_rfl
@[simp] theorem Vd:MX.eff 156=none:=by kernel_rfl
@[simp] theorem prim_156:MX.prim 156=none:=by kernel_rfl
@[simp] theorem Sk:MF 156:=rfl
@[simp] theorem Zc:KK 156 0 [1,2,3]∧KK 156 1 [1,2,3]∧KK 156 2 [1,2,3,21]∧KK 156 3 [6]∧KK 156 4 [1,2,3,7]∧KK 156 5 [1,2,3,7,30]∧KK 156 6 [1,2,3,7]∧KK 156 7 [1,2,3,7]∧KK 156 8 [6]:=by decide +kernel
@[simp] theorem fn_157:MX.fn 157=some Tryz.f157:=by kernel_rfl
@[simp] theorem Ve:MX.eff 157=none:=by kernel_rfl
@[simp] theorem prim_157:MX.prim 157=none:=by kernel_rfl
@[simp] theorem Sl:MF 157:=rfl
@[simp] theorem Zd:KK 157 0 [0]∧KK 157 1 [0,13]∧KK 157 2 [2]∧KK 157 3 [0,3]∧KK 157 4 [0,3,17]∧KK 157 5 [0,3]∧KK 157 6 [0,3,4]∧KK 157 7 [0,3,4,5]∧KK 157 8 [0,3,54]∧KK 157 9 [2]∧KK 157 10 [2]:=by decide +kernel
@[simp] theorem fn_158:MX.fn 158=some Tryz.f158:=by kernel_rfl
@[simp] theorem Py:MX.eff 158=none:=by kernel_rfl
@[simp] theorem prim_158:MX.prim 158=none:=by kernel_rfl
@[simp] theorem NV:MF 158:=rfl
@[simp] theorem Ze:KK 158 0 [0,4,5]∧KK 158 1 [0,4,5,12]∧KK 158 2 [6]∧KK 158 3 [0,5,7]∧KK 158 4 [0,5,7,8]∧KK 158 5 [0,5,7,8,21]∧KK 158 6 [6]∧KK 158 7 [0,5,7,8,31]∧KK 158 8 [6]∧KK 158 9 [0,5,7,8,9]∧KK 158 10 [0,5,7,8,9,36]∧KK 158 11 [0,5,7,8,9]∧KK 158 12 [0,5,7,8,9,10]∧KK 158 13 [0,5,7,8,9,10,56]:=by decide +kernel
@[simp] theorem Zf:KK 158 14 [6]∧KK 158 15 [6]:=by decide +kernel
@[simp] theorem fn_160:MX.fn 160=some Tryz.f160:=by kernel_rfl
@[simp] theorem Pz:MX.eff 160=none:=by kernel_rfl
@[simp] theorem prim_160:MX.prim 160=none:=by kernel_rfl
@[simp] theorem NW:MF 160:=rfl
@[simp] theorem Zg:KK 160 0 [1,2,4]∧KK 160 1 [2,4,8,9,10]∧KK 160 2 [2,4,8,9,10,11]∧KK 160 3 [2,4,7,8,9,10]∧KK 160 4 [2,4,7,8,9,10,20]∧KK 160 5 [4,5]∧KK 160 6 [2,4,8,9,10]∧KK 160 7 [2,4,8,9,10]∧KK 160 8 [4,5]:=by decide +kernel
@[simp] theorem fn_161:MX.fn 161=some Tryz.f161:=by kernel_rfl
@[simp] theorem Vf:MX.eff 161=none:=by kernel_rfl
@[simp] theorem prim_161:MX.prim 161=none:=by kernel_rfl
@[simp] theorem NX:MF 161:=rfl
@[simp] theorem Zh:KK 161 0 [0,1]∧KK 161 1 [0,1,7,8]∧KK 161 2 [0,1,7,8,9]∧KK 161 3 [0,1,5,7,8]∧KK 161 4 [0,1,5,7,8,16]∧KK 161 5 [4]∧KK 161 6 [0,1,7,8]∧KK 161 7 [4]:=by decide +kernel
@[simp] theorem fn_162:MX.fn 162=some Tryz.f162:=by kernel_rfl
@[simp] theorem Vg:MX.eff 162=none:=by kernel_rfl
@[simp] theorem prim_162:MX.prim 162=none:=by kernel_rfl
@[simp] theorem Sn:MX.mode 162 = { fresh:=false,keepTop:=false }:=rfl
@[simp] theorem Zi:KK 162 0 [1,2]∧KK 162 1 [3]:=by decide +kernel
@[simp] theorem fn_163:MX.fn 163=some Tryz.f163:=by kernel_rfl
@[simp] theorem Ma:MX.eff 163=none:=by kernel_rfl
@[simp] theorem prim_163:MX.prim 163=none:=by kernel_rfl
@[simp] theorem JI:MX.mode 163 = { fresh:=true,keepTop:=true }:=rfl
@[simp] theorem mut_163:MX.mutLit 163=false:=by kernel_rfl
@[simp] theorem Zj:KK 163 0 [0]∧KK 163 1 [0,4]∧KK 163 2 [2]∧KK 163 3 [2]:=by decide +kernel
@[simp] theorem fn_164:MX.fn 164=some Tryz.f164:=by kernel_rfl
@[simp] theorem P0:MX.eff 164=none:=by kernel_rfl
@[simp] theorem Km:MX.mode 164 = { fresh:=false,keepTop:=false }:=rfl
@[simp] theorem mut_164:MX.mutLit 164=false:=by kernel_rfl
@[simp] theorem Zk:KK 164 0 [1,2,3,4]∧KK 164 1 [5]:=by decide +kernel
@[simp] theorem fn_174:MX.fn 174=some Tryz.f174:=by kernel_rfl
@[simp] theorem KC:MX.eff 174=none:=by kernel_rfl
@[simp] theorem prim_174:MX.prim 174=none:=by kernel_rfl
@[simp] theorem JJ:MX.mode 174 = { }:=rfl
@[simp] theorem Zl:KK 174 0 [0,3,5]∧KK 174 1 [0,3,5,7]∧KK 174 2 [3,5,7,9]∧KK 174 3 [3,5,7,9,22]∧KK 174 4 [4,5,6]∧KK 174 5 [3,5,7,10]∧KK 174 6 [3,5,7,10,29]∧KK 174 7 [4,5,6]∧KK 174 8 [3,5,7,11]∧KK 174 9 [5,7,12,13]∧KK 174 10 [5,7,12,13,45]∧KK 174 11 [5,7,12,13]∧KK 174 12 [4,5,6]:=by decide +kernel
@[simp] theorem fn_175:MX.fn 175=some Tryz.f175:=by kernel_rfl
@[simp] theorem P2:MX.eff 175=none:=by kernel_rfl
@[simp] theorem prim_175:MX.prim 175=none:=by kernel_rfl
@[simp] theorem JK:MF 175:=rfl
@[simp] theorem Zm:KK 175 0 [0,1]∧KK 175 1 [0,1,7,8]∧KK 175 2 [0,1,7,8,9]∧KK 175 3 [0,1,5,7,8]∧KK 175 4 [0,1,5,7,8,16]∧KK 175 5 [4]∧KK 175 6 [0,1,7,8]∧KK 175 7 [4]:=by decide +kernel
@[simp] theorem fn_176:MX.fn 176=some Tryz.f176:=by kernel_rfl
@[simp] theorem Vh:MX.eff 176=none:=by kernel_rfl
@[simp] theorem prim_176:MX.prim 176=none:=by kernel_rfl
@[simp] theorem Sp:MX.mode 176 = { fresh:=false,keepTop:=false }:=rfl
@[simp] theorem Zn:KK 176 0 [1,2]∧KK 176 1 [3]:=by decide +kernel
@[simp] theorem fn_177:MX.fn 177=some Tryz.f177:=by kernel_rfl
@[simp] theorem P3:MX.eff 177=none:=by kernel_rfl
@[simp] theorem prim_177:MX.prim 177=none:=by kernel_rfl
@[simp] theorem NY:MX.mode 177 = { fresh:=false,keepTop:=false }:=rfl
@[simp] theorem Zo:KK 177 0 [1,2]∧KK 177 1 [1,2,7]∧KK 177 2 [4]∧KK 177 3 [4]:=by decide +kernel
@[simp] theorem fn_178:MX.fn 178=some Tryz.f178:=by kernel_rfl
@[simp] theorem Vi:MX.eff 178=none:=by kernel_rfl
@[simp] theorem prim_178:MX.prim 178=none:=by kernel_rfl
@[simp] theorem Sq:MX.mode 178 = { fresh:=false,keepTop:=false }:=rfl
@[simp] theorem Zp:KK 178 0 [0,1,2,3]∧KK 178 1 [4]:=by decide +kernel
@[simp] theorem fn_179:MX.fn 179=some Tryz.f179:=by kernel_rfl
@[simp] theorem Mb:MX.eff 179=none:=by kernel_rfl
@[simp] theorem prim_179:MX.prim 179=none:=by kernel_rfl
@[simp] theorem Kn:MX.mode 179 = { fresh:=false,keepTop:=false }:=rfl
@[simp] theorem Zq:KK 179 0 [0,1,3,6]∧KK 179 1 [0,1,3,6,8]∧KK 179 2 []∧KK 179 3 [0,1,3,6,15]∧KK 179 4 []:=by decide +kernel
@[simp] theorem fn_180:MX.fn 180=some Tryz.f180:=by kernel_rfl
@[simp] theorem Vj:MX.eff 180=none:=by kernel_rfl
@[simp] theorem prim_180:MX.prim 180=none:=by kernel_rfl
@[simp] theorem Sr:MF 180:=rfl
@[simp] theorem Zr:KK 180 0 [0]∧KK 180 1 [0,7,8,9]∧KK 180 2 [0,7,8,9,10]∧KK 180 3 [0,3,4,7,8,9]∧KK 180 4 [0,3,4,5,7,8,9]∧KK 180 5 [0,7,8,9,45]∧KK 180 6 [2]∧KK 180 7 [0,7,8,9]∧KK 180 8 [2]:=by decide +kernel
@[simp] theorem fn_181:MX.fn 181=some Tryz.f181:=by kernel_rfl
@[simp] theorem Vk:MX.eff 181=none:=by kernel_rfl
@[simp] theorem prim_181:MX.prim 181=none:=by kernel_rfl
@[simp] theorem Ss:MF 181:=rfl
@[simp] theorem Zs:KK 181 0 [0,1,2]∧KK 181 1 [6]:=by decide +kernel
@[simp] theorem fn_182:MX.fn 182=some Tryz.f182:=by kernel_rfl
@[simp] theorem Vl:MX.eff 182=none:=by kernel_rfl
@[simp] theorem prim_182:MX.prim 182=none:=by kernel_rfl
@[simp] theorem Su:MX.mode 182 = { }:=rfl
@[simp] theorem Zt:KK 182 0 [0,3]∧KK 182 1 [4]:=by decide +kernel
@[simp] theorem Vm:MX.eff 184=some JE:=by kernel_rfl
@[simp] theorem prim_184:MX.prim 184=none:=by kernel_rfl
@[simp] theorem Sv:MF 184:=rfl
@[simp] theorem fn_185:MX.fn 185=some Tryz.f185:=by kernel_rfl
@[simp] theorem Vn:MX.eff 185=none:=by kernel_rfl
@[simp] theorem prim_185:MX.prim 185=none:=by kernel_rfl
@[simp] theorem Sw:MF 185:=rfl
@[simp] theorem mut_185:MX.mutLit 185=false:=by kernel_rfl
@[simp] theorem Zu:KK 185 0 [1,2]∧KK 185 1 [1,2,12]∧KK 185 2 [4]∧KK 185 3 [1,2,32]∧KK 185 4 [4]∧KK 185 5 [1,2,42]∧KK 185 6 [4]∧KK 185 7 [1,2,46]∧KK 185 8 [4]∧KK 185 9 [1,2,5]∧KK 185 10 [1,2,5,51]∧KK 185 11 [1,2,5]∧KK 185 12 [1,2,5,60]∧KK 185 13 [4]:=by decide +kernel
@[simp] theorem Zv:KK 185 14 [1,2,5,70]∧KK 185 15 [4]∧KK 185 16 [1,2,6]∧KK 185 17 [1,2,6,75]∧KK 185 18 [1,2,6]∧KK 185 19 [1,2,6,7]∧KK 185 20 [1,2,6,7,86]∧KK 185 21 [4]∧KK 185 22 [1,2,6,7,111]∧KK 185 23 [4]∧KK 185 24 [1,2,6,8]∧KK 185 25 [1,2,6,8,117]∧KK 185 26 [4]∧KK 185 27 [4]:=by decide +kernel
@[simp] theorem fn_186:MX.fn 186=some Tryz.f186:=by kernel_rfl
@[simp] theorem Vo:MX.eff 186=none:=by kernel_rfl
@[simp] theorem prim_186:MX.prim 186=none:=by kernel_rfl
@[simp] theorem Sx:MF 186:=rfl
@[simp] theorem Zw:KK 186 0 [0,1,5]∧KK 186 1 [0,1,5,14]∧KK 186 2 [6]∧KK 186 3 [0,1,5,7]∧KK 186 4 [0,1,5,7,24]∧KK 186 5 [6]∧KK 186 6 [0,1,5,7,27]∧KK 186 7 [0,1,5,7,8]∧KK 186 8 [6]∧KK 186 9 [0,1,5,7,8,32]∧KK 186 10 [0,1,5,7]∧KK 186 11 [0,1,5,7,8,36]∧KK 186 12 [0,1,5,8,40]∧KK 186 13 [0,1,5,7]:=by decide +kernel
@[simp] theorem Zx:KK 186 14 [0,1,5,53]∧KK 186 15 [6]∧KK 186 16 [0,1,5,62]∧KK 186 17 [6]∧KK 186 18 [0,1,5,9]∧KK 186 19 [0,1,5,9,67]∧KK 186 20 [0,1,5,9]∧KK 186 21 [0,1,5,9,10]∧KK 186 22 [0,1,5,9,10,79]∧KK 186 23 [6]∧KK 186 24 [6]:=by decide +kernel
@[simp] theorem fn_193:MX.fn 193=some Tryz.f193:=by kernel_rfl
@[simp] theorem Vp:MX.eff 193=none:=by kernel_rfl
@[simp] theorem prim_193:MX.prim 193=none:=by kernel_rfl
@[simp] theorem Sy:MF 193:=rfl
@[simp] theorem Zy:KK 193 0 [1]∧KK 193 1 [1,8]∧KK 193 2 [2,3]∧KK 193 3 [1,4,5]∧KK 193 4 [2,3]:=by decide +kernel
@[simp] theorem fn_194:MX.fn 194=some Tryz.f194:=by kernel_rfl
@[simp] theorem P4:MX.eff 194=none:=by kernel_rfl
@[simp] theorem prim_194:MX.prim 194=none:=by kernel_rfl
@[simp] theorem NZ:MF 194:=rfl
@[simp] theorem Zz:KK 194 0 [2,3]∧KK 194 1 [2,3,5]∧KK 194 2 [2,3,5,9]∧KK 194 3 [4]∧KK 194 4 [4]:=by decide +kernel
@[simp] theorem fn_195:MX.fn 195=some Tryz.f195:=by kernel_rfl
@[simp] theorem HT:MX.eff 195=none:=by kernel_rfl
@[simp] theorem prim_195:MX.prim 195=none:=by kernel_rfl
@[simp] theorem GX:MX.mode 195 = { fresh:=false,keepTop:=false }:=rfl
@[simp] theorem mut_195:MX.mutLit 195=false:=by kernel_rfl
@[simp] theorem Z0:KK 195 0 [2,3,4,5]∧KK 195 1 [2,3,4,5,10]∧KK 195 2 [2,3,4,5,10,23]∧KK 195 3 [8,9]∧KK 195 4 [2,3,4,5]∧KK 195 5 [2,3,4,5,11]∧KK 195 6 [2,3,4,5,11,41]∧KK 195 7 [8,9]∧KK 195 8 [2,3,4,5,11,44]∧KK 195 9 [11,12]∧KK 195 10 [8,9]∧KK 195 11 [2,3,4,5,11,65]∧KK 195 12 [8,9]∧KK 195 13 [2,3,4,13]:=by decide +kernel
@[simp] theorem Z1:KK 195 14 [2,3,4,13,76,77]∧KK 195 15 [2,3,4,13,76,77,78]∧KK 195 16 [2,3,4,13,14,76,77]∧KK 195 17 [2,3,4,13,15,76,77]∧KK 195 18 [2,3,4,13,15,76,77,89,90,91]∧KK 195 19 [2,3,4,13,15,76,77,89,90,91,92]∧KK 195 20 [2,3,4,13,15,17,76,77,89,90,91]∧KK 195 21 [2,3,4,13,15,18,19,76,77,89,90,91]∧KK 195 22 [2,3,4,13,15,18,19,76,77,89,90,91,106]∧KK 195 23 [8,9]∧KK 195 24 [2,3,4,13,15,76,77,89,90,91]∧KK 195 25 [2,3,4,13,15,76,77,89,90,91]∧KK 195 26 [2,3,4,13,76,77]∧KK 195 27 [8,9]:=by decide +kernel
@[simp] theorem fn_196:MX.fn 196=some Tryz.f196:=by kernel_rfl
@[simp] theorem Vq:MX.eff 196=none:=by kernel_rfl
@[simp] theorem prim_196:MX.prim 196=none:=by kernel_rfl
@[simp] theorem Sz:MF 196:=rfl
@[simp] theorem Z2:KK 196 0 [0,1,2]∧KK 196 1 [6]:=by decide +kernel
@[simp] theorem fn_197:MX.fn 197=some Tryz.f197:=by kernel_rfl
@[simp] theorem P5:MX.eff 197=none:=by kernel_rfl
@[simp] theorem prim_197:MX.prim 197=none:=by kernel_rfl
@[simp] theorem Na:MX.mode 197 = { }:=rfl
@[simp] theorem Z3:KK 197 0 [0]∧KK 197 1 [0,4]∧KK 197 2 [2]∧KK 197 3 [2]:=by decide +kernel
@[simp] theorem fn_198:MX.fn 198=some Tryz.f198:=by kernel_rfl
@[simp] theorem Vr:MX.eff 198=none:=by kernel_rfl
@[simp] theorem prim_198:MX.prim 198=none:=by kernel_rfl
@[simp] theorem S0:MX.mode 198 = { fresh:=false,keepTop:=false }:=rfl
@[simp] theorem Z4:KK 198 0 [0]∧KK 198 1 [1]:=by decide +kernel
@[simp] theorem fn_199:MX.fn 199=some Tryz.f199:=by kernel_rfl
@[simp] theorem Vs:MX.eff 199=none:=by kernel_rfl
@[simp] theorem prim_199:MX.prim 199=none:=by kernel_rfl
@[simp] theorem S1:MX.mode 199 = { }:=rfl
@[simp] theorem Z5:KK 199 0 [0,1]∧KK 199 1 [0,1,7,8]∧KK 199 2 [0,1,7,8,9]∧KK 199 3 [0,1,5,7,8]∧KK 199 4 [0,1,5,7,8,16]∧KK 199 5 [4]∧KK 199 6 [0,1,7,8]∧KK 199 7 [4]:=by decide +kernel
@[simp] theorem fn_200:MX.fn 200=some Tryz.f200:=by kernel_rfl
@[simp] theorem Vt:MX.eff 200=none:=by kernel_rfl
@[simp] theorem prim_200:MX.prim 200=none:=by kernel_rfl
@[simp] theorem S2:MX.mode 200 = { fresh:=false,keepTop:=false }:=rfl
@[simp] theorem Z6:KK 200 0 [1,2]∧KK 200 1 [3]:=by decide +kernel
@[simp] theorem fn_212:MX.fn 212=some Tryz.f212:=by kernel_rfl
@[simp] theorem Vu:MX.eff 212=none:=by kernel_rfl
@[simp] theorem prim_212:MX.prim 212=none:=by kernel_rfl
@[simp] theorem S3:MF 212:=rfl
@[simp] theorem Z7:KK 212 0 [0,1]∧KK 212 1 [0,1,5]∧KK 212 2 [0,1,5,10]∧KK 212 3 [0,1,5]∧KK 212 4 [0,1,5,6]∧KK 212 5 [0,1,5,6,20]∧KK 212 6 [0,1,5,6]∧KK 212 7 [0,1,5,6,33]∧KK 212 8 [4]∧KK 212 9 [4]:=by decide +kernel
@[simp] theorem fn_213:MX.fn 213=some Tryz.f213:=by kernel_rfl
@[simp] theorem Vv:MX.eff 213=none:=by kernel_rfl
@[simp] theorem prim_213:MX.prim 213=none:=by kernel_rfl
@[simp] theorem S4:MF 213:=rfl
@[simp] theorem Z8:KK 213 0 [2,3,4]∧KK 213 1 [2,3,4,14]∧KK 213 2 [6]∧KK 213 3 [2,3,4,7]∧KK 213 4 [2,3,4,7,19]∧KK 213 5 [2,3,4,7]∧KK 213 6 [2,3,4,7,8]∧KK 213 7 [2,3,4,7,8,30]∧KK 213 8 [6]∧KK 213 9 [2,3,4,7,8,9]∧KK 213 10 [2,3,4,7,8,9,33]∧KK 213 11 [2,3,4,7,8,9]∧KK 213 12 [2,3,4,7,8,9,44]∧KK 213 13 [6]:=by decide +kernel
@[simp] theorem Z9:KK 213 14 [2,3,4,7,10]∧KK 213 15 [2,3,4,7,10,52]∧KK 213 16 [6]∧KK 213 17 [6]:=by decide +kernel
@[simp] theorem fn_215:MX.fn 215=some Tryz.f215:=by kernel_rfl
@[simp] theorem Vw:MX.eff 215=none:=by kernel_rfl
@[simp] theorem prim_215:MX.prim 215=none:=by kernel_rfl
@[simp] theorem S5:MF 215:=rfl
@[simp] theorem aA:KK 215 0 [0,1]∧KK 215 1 [1,5]∧KK 215 2 [4]∧KK 215 3 [4]:=by decide +kernel
@[simp] theorem fn_216:MX.fn 216=some Tryz.f216:=by kernel_rfl
@[simp] theorem Mc:MX.eff 216=none:=by kernel_rfl
@[simp] theorem prim_216:MX.prim 216=none:=by kernel_rfl
@[simp] theorem Ko:MX.mode 216 = { }:=rfl
@[simp] theorem aB:KK 216 0 [0]∧KK 216 1 [2]:=by decide +kernel
@[simp] theorem fn_217:MX.fn 217=some Tryz.f217:=by kernel_rfl
@[simp] theorem Vx:MX.eff 217=none:=by kernel_rfl
@[simp] theorem prim_217:MX.prim 217=none:=by kernel_rfl
@[simp] theorem S6:MF 217:=rfl
@[simp] theorem aC:KK 217 0 [0]∧KK 217 1 [5,6,7]∧KK 217 2 [5,6,7,8]∧KK 217 3 [4,5,6,7]∧KK 217 4 [4,5,6,7,12]∧KK 217 5 [2]∧KK 217 6 [5,6,7]∧KK 217 7 [2]:=by decide +kernel
@[simp] theorem fn_230:MX.fn 230=some Tryz.f230:=by kernel_rfl
@[simp] theorem P6:MX.eff 230=none:=by kernel_rfl
@[simp] theorem prim_230:MX.prim 230=none:=by kernel_rfl
@[simp] theorem Nb:MX.mode 230 = { fresh:=false,keepTop:=false }:=rfl
@[simp] theorem aD:KK 230 0 [0,1]∧KK 230 1 [1,9,10,11]∧KK 230 2 [1,9,10,11,12]∧KK 230 3 [1,6,7,9,10,11]∧KK 230 4 [1,6,8,9,10,11]∧KK 230 5 [1,6,8,9,10,11,21]∧KK 230 6 [4,5]∧KK 230 7 [1,9,10,11]∧KK 230 8 [4,5]:=by decide +kernel
@[simp] theorem fn_231:MX.fn 231=some Tryz.f231:=by kernel_rfl
@[simp] theorem Vy:MX.eff 231=none:=by kernel_rfl
@[simp] theorem S7:MX.prim 231=none:=by kernel_rfl
@[simp] theorem S8:MX.mode 231 = { fresh:=false,keepTop:=false }:=rfl
@[simp] theorem mut_231:MX.mutLit 231=false:=by kernel_rfl
@[simp] theorem aE:KK 231 0 [0,2,3,4,6]∧KK 231 1 [3,4,6,8]∧KK 231 2 [4,6,8]∧KK 231 3 [4,8,27,28,29]∧KK 231 4 [4,8,27,28,29,30]∧KK 231 5 [4,8,10,27,28,29]∧KK 231 6 [4,8,27,28,29]∧KK 231 7 [4,8,27,28,29]∧KK 231 8 [7]:=by decide +kernel
@[simp] theorem fn_232:MX.fn 232=some Tryz.f232:=by kernel_rfl
@[simp] theorem Vz:MX.eff 232=none:=by kernel_rfl
@[simp] theorem prim_232:MX.prim 232=none:=by kernel_rfl
@[simp] theorem Nc:MF 232:=rfl
@[simp] theorem mut_232:MX.mutLit 232=false:=by kernel_rfl
@[simp] theorem aF:KK 232 0 [2,3,4,5]∧KK 232 1 [3,4,5,9]∧KK 232 2 [3,4,5,9,38]∧KK 232 3 [8]∧KK 232 4 [3,4,5,11]∧KK 232 5 [3,4,5,11,48]∧KK 232 6 [8]∧KK 232 7 [3,4,5]∧KK 232 8 [4,5,12]∧KK 232 9 [9]∧KK 232 10 [8]:=by decide +kernel
@[simp] theorem fn_234:MX.fn 234=some Tryz.f234:=by kernel_rfl
@[simp] theorem V0:MX.eff 234=none:=by kernel_rfl
@[simp] theorem prim_234:MX.prim 234=none:=by kernel_rfl
@[simp] theorem S9:MF 234:=rfl
@[simp] theorem aG:KK 234 0 [2,3]∧KK 234 1 [2,3,5]∧KK 234 2 [2,3,5,6]∧KK 234 3 [2,6]∧KK 234 4 [4]:=by decide +kernel
@[simp] theorem fn_235:MX.fn 235=some Tryz.f235:=by kernel_rfl
@[simp] theorem V2:MX.eff 235=none:=by kernel_rfl
@[simp] theorem prim_235:MX.prim 235=none:=by kernel_rfl
@[simp] theorem TA:MF 235:=rfl
@[simp] theorem aH:KK 235 0 [1]∧KK 235 1 [2]:=by decide +kernel
@[simp] theorem fn_236:MX.fn 236=some Tryz.f236:=by kernel_rfl
@[simp] theorem V3:MX.eff 236=none:=by kernel_rfl
@[simp] theorem prim_236:MX.prim 236=none:=by kernel_rfl
@[simp] theorem TB:MF 236:=rfl
@[simp] theorem aI:KK 236 0 [2,3]∧KK 236 1 [2,3,5]∧KK 236 2 [2,3,5,11]∧KK 236 3 [4]∧KK 236 4 [2,3,5,11,12]∧KK 236 5 [2,3,5,19]∧KK 236 6 [4]∧KK 236 7 [2,3,5,11,20]∧KK 236 8 [2,3,5,6,7]∧KK 236 9 [2,3,5,6,29]∧KK 236 10 [2,3,5]∧KK 236 11 [2,3,5,34]∧KK 236 12 [2,3,5]∧KK 236 13 [2,3,5,38]:=by decide +kernel
@[simp] theorem aJ:KK 236 14 [4]∧KK 236 15 [2,3,5,42]∧KK 236 16 [2,3,48]∧KK 236 17 [4]∧KK 236 18 [2,3,57]∧KK 236 19 [4]∧KK 236 20 [9]∧KK 236 21 [4]:=by decide +kernel
@[simp] theorem fn_237:MX.fn 237=some Tryz.f237:=by kernel_rfl
@[simp] theorem P7:MX.eff 237=none:=by kernel_rfl
@[simp] theorem prim_237:MX.prim 237=none:=by kernel_rfl
@[simp] theorem Nd:MX.mode 237 = { fresh:=true,keepTop:=true }:=rfl
@[simp] theorem mut_237:MX.mutLit 237=false:=by kernel_rfl
@[simp] theorem aK:KK 237 0 [2,3]∧KK 237 1 [3,5,6]∧KK 237 2 [3,5,21]∧KK 237 3 [4]∧KK 237 4 [3,5,7]∧KK 237 5 [3,5,7,26,27,28]∧KK 237 6 [3,5,7,26,27,28,29]∧KK 237 7 [3,5,7,9,26,27,28]∧KK 237 8 [3,5,7,9,10,26,27,28]∧KK 237 9 [3,5,7,10,26,27,28,36,37,38]∧KK 237 10 [3,5,7,10,26,27,28,36,37,38,39]∧KK 237 11 [3,5,7,10,12,26,27,28,36,37,38]∧KK 237 12 [3,5,7,10,26,27,28,36,37,38]∧KK 237 13 [3,5,7,10,26,27,28,36,37,38]:=by decide +kernel
@[simp] theorem aL:KK 237 14 [3,5,7,26,27,28]∧KK 237 15 [3,5,7,26,27,28]∧KK 237 16 [4]:=by decide +kernel
@[simp] theorem fn_238:MX.fn 238=some Tryz.f238:=by kernel_rfl
@[simp] theorem V4:MX.eff 238=none:=by kernel_rfl
@[simp] theorem prim_238:MX.prim 238=none:=by kernel_rfl
@[simp] theorem TC:MX.mode 238 = { }:=rfl
@[simp] theorem aM:KK 238 0 [0]∧KK 238 1 [2]:=by decide +kernel
@[simp] theorem fn_239:MX.fn 239=some Tryz.f239:=by kernel_rfl
@[simp] theorem V5:MX.eff 239=none:=by kernel_rfl
@[simp] theorem prim_239:MX.prim 239=none:=by kernel_rfl
@[simp] theorem TD:MX.mode 239 = { }:=rfl
@[simp] theorem aN:KK 239 0 [0]∧KK 239 1 [0,3]∧KK 239 2 [3,9,10,11]∧KK 239 3 [3,9,10,11,12]∧KK 239 4 [3,5,9,10,11]∧KK 239 5 [3,9,10,11]∧KK 239 6 [3,9,10,11]∧KK 239 7 [2]:=by decide +kernel
@[simp] theorem fn_252:MX.fn 252=some Tryz.f252:=by kernel_rfl
@[simp] theorem V6:MX.eff 252=none:=by kernel_rfl
@[simp] theorem prim_252:MX.prim 252=none:=by kernel_rfl
@[simp] theorem Kp:MF 252:=rfl
@[simp] theorem mut_252:MX.mutLit 252=false:=by kernel_rfl
@[simp] theorem aO:KK 252 0 [0,1]∧KK 252 1 [4]:=by decide +kernel
@[simp] theorem fn_253:MX.fn 253=some Tryz.f253:=by kernel_rfl
@[simp] theorem P8:MX.eff 253=none:=by kernel_rfl
@[simp] theorem prim_253:MX.prim 253=none:=by kernel_rfl
@[simp] theorem Nf:MX.mode 253 = { fresh:=false,keepTop:=false }:=rfl
@[simp] theorem aP:KK 253 0 [0,1]∧KK 253 1 [1,9,10,11]∧KK 253 2 [1,9,10,11,12]∧KK 253 3 [1,6,7,9,10,11]∧KK 253 4 [1,6,8,9,10,11]∧KK 253 5 [1,6,8,9,10,11,21]∧KK 253 6 [4,5]∧KK 253 7 [1,9,10,11]∧KK 253 8 [4,5]:=by decide +kernel
@[simp] theorem fn_254:MX.fn 254=some Tryz.f254:=by kernel_rfl
@[simp] theorem V7:MX.eff 254=none:=by kernel_rfl
@[simp] theorem TE:MX.prim 254=none:=by kernel_rfl
@[simp] theorem TF:MX.mode 254 = { fresh:=false,keepTop:=false }:=rfl
@[simp] theorem aQ:KK 254 0 [0,1,2]∧KK 254 1 [5]:=by decide +kernel
@[simp] theorem fn_255:MX.fn 255=some Tryz.f255:=by kernel_rfl
@[simp] theorem P9:MX.eff 255=none:=by kernel_rfl
@[simp] theorem prim_255:MX.prim 255=none:=by kernel_rfl
@[simp] theorem Ng:MX.mode 255 = { fresh:=false,keepTop:=false }:=rfl
@[simp] theorem aR:KK 255 0 [0,1]∧KK 255 1 [1,9,10,11]∧KK 255 2 [1,9,10,11,12]∧KK 255 3 [1,6,7,9,10,11]∧KK 255 4 [1,6,8,9,10,11]∧KK 255 5 [1,6,8,9,10,11,21]∧KK 255 6 [4,5]∧KK 255 7 [1,9,10,11]∧KK 255 8 [4,5]:=by decide +kernel
@[simp] theorem fn_256:MX.fn 256=some Tryz.f256:=by kernel_rfl
@[simp] theorem QA:MX.eff 256=none:=by kernel_rfl
@[simp] theorem TG:MX.prim 256=none:=by kernel_rfl
@[simp] theorem Nh:MX.mode 256 = { fresh:=false,keepTop:=false }:=rfl
@[simp] theorem mut_256:MX.mutLit 256=false:=by kernel_rfl
@[simp] theorem aU:KK 256 0 [2,3,5]∧KK 256 1 [2,3,5,7]∧KK 256 2 [2,3,5,7,23]∧KK 256 3 [6]∧KK 256 4 [3,5]∧KK 256 5 [3,5,8]∧KK 256 6 [10]∧KK 256 7 [6]:=by decide +kernel
@[simp] theorem fn_257:MX.fn 257=some Tryz.f257:=by kernel_rfl
@[simp] theorem QB:MX.eff 257=none:=by kernel_rfl
@[simp] theorem prim_257:MX.prim 257=none:=by kernel_rfl
@[simp] theorem Ni:MX.mode 257 = { fresh:=false,keepTop:=false }:=rfl
@[simp] theorem aV:KK 257 0 [0,1]∧KK 257 1 [1,9,10,11]∧KK 257 2 [1,9,10,11,12]∧KK 257 3 [1,6,7,9,10,11]∧KK 257 4 [1,6,8,9,10,11]∧KK 257 5 [1,6,8,9,10,11,21]∧KK 257 6 [4,5]∧KK 257 7 [1,9,10,11]∧KK 257 8 [4,5]:=by decide +kernel
@[simp] theorem fn_258:MX.fn 258=some Tryz.f258:=by kernel_rfl
@[simp] theorem QC:MX.eff 258=none:=by kernel_rfl
@[simp] theorem TH:MX.prim 258=none:=by kernel_rfl
@[simp] theorem Nj:MX.mode 258 = { fresh:=false,keepTop:=false }:=rfl
@[simp] theorem mut_258:MX.mutLit 258=false:=by kernel_rfl
@[simp] theorem aW:KK 258 0 [2,3,5]∧KK 258 1 [2,3,5,7]∧KK 258 2 [2,3,5,7,13]∧KK 258 3 [6]∧KK 258 4 [3,5]∧KK 258 5 [6]:=by decide +kernel
@[simp] theorem fn_259:MX.fn 259=some Tryz.f259:=by kernel_rfl
@[simp] theorem V8:MX.eff 259=none:=by kernel_rfl
@[simp] theorem prim_259:MX.prim 259=none:=by kernel_rfl
@[simp] theorem TI:MX.mode 259 = { fresh:=false,keepTop:=false }:=rfl
@[simp] theorem aX:KK 259 0 [1,2,3,4,5]∧KK 259 1 [1,2,3,4,5]∧KK 259 2 [1,3,4,5,17]∧KK 259 3 [7]∧KK 259 4 [1,4,20,21,22]∧KK 259 5 [1,4,20,21,22,23]∧KK 259 6 [1,4,9,20,21,22]∧KK 259 7 [1,4,20,21,22,31]∧KK 259 8 [7]∧KK 259 9 [1,4,20,21,22]∧KK 259 10 [7]:=by decide +kernel
@[simp] theorem fn_260:MX.fn 260=some Tryz.f260:=by kernel_rfl
@[simp] theorem V9:MX.eff 260=none:=by kernel_rfl
@[simp] theorem prim_260:MX.prim 260=none:=by kernel_rfl
@[simp] theorem TJ:MF 260:=rfl
@[simp] theorem aY:KK 260 0 [0,1]∧KK 260 1 [4]:=by decide +kernel
@[simp] theorem fn_261:MX.fn 261=some Tryz.f261:=by kernel_rfl
@[simp] theorem QD:MX.eff 261=none:=by kernel_rfl
@[simp] theorem prim_261:MX.prim 261=none:=by kernel_rfl
@[simp] theorem Nk:MF 261:=rfl
@[simp] theorem aZ:KK 261 0 [2,3,4]∧KK 261 1 [2,4,6]∧KK 261 2 [2,4,6,12]∧KK 261 3 [4,5]∧KK 261 4 [4,5]:=by decide +kernel
@[simp] theorem fn_262:MX.fn 262=some Tryz.f262:=by kernel_rfl
@[simp] theorem QE:MX.eff 262=none:=by kernel_rfl
@[simp] theorem prim_262:MX.prim 262=none:=by kernel_rfl
@[simp] theorem Nl:MX.mode 262 = { fresh:=false,keepTop:=false }:=rfl
@[simp] theorem aa:KK 262 0 [0,1]∧KK 262 1 [1,9,10,11]∧KK 262 2 [1,9,10,11,12]∧KK 262 3 [1,6,7,9,10,11]∧KK 262 4 [1,6,8,9,10,11]∧KK 262 5 [1,6,8,9,10,11,21]∧KK 262 6 [4,5]∧KK 262 7 [1,9,10,11]∧KK 262 8 [4,5]:=by decide +kernel
@[simp] theorem fn_263:MX.fn 263=some Tryz.f263:=by kernel_rfl
@[simp] theorem WA:MX.eff 263=none:=by kernel_rfl
@[simp] theorem TK:MX.prim 263=none:=by kernel_rfl
@[simp] theorem TL:MX.mode 263 = { fresh:=false,keepTop:=false }:=rfl
@[simp] theorem ab:KK 263 0 [2,4]∧KK 263 1 [5]:=by decide +kernel
@[simp] theorem fn_264:MX.fn 264=some Tryz.f264:=by kernel_rfl
@[simp] theorem Md:MX.eff 264=none:=by kernel_rfl
@[simp] theorem prim_264:MX.prim 264=none:=by kernel_rfl
@[simp] theorem Kq:MF 264:=rfl
@[simp] theorem mut_264:MX.mutLit 264=false:=by kernel_rfl
@[simp] theorem ae:KK 264 0 [1,2,3,6]∧KK 264 1 [1,2,3,6,7]∧KK 264 2 [1,2,3,6,7,21]∧KK 264 3 [6]∧KK 264 4 [1,2,3,6,8]∧KK 264 5 [1,2,3,6,8]∧KK 264 6 [1,2,6,8,30,31,32]∧KK 264 7 [1,2,6,8,30,31,32,33]∧KK 264 8 [1,2,6,8,10,30,31,32]∧KK 264 9 [1,2,6,8,30,31,32]∧KK 264 10 [1,2,6,8,30,31,32]∧KK 264 11 [6]:=by decide +kernel
@[simp] theorem fn_265:MX.fn 265=some Tryz.f265:=by kernel_rfl
@[simp] theorem WB:MX.eff 265=none:=by kernel_rfl
@[simp] theorem prim_265:MX.prim 265=none:=by kernel_rfl
@[simp] theorem TM:MX.mode 265 = { }:=rfl
@[simp] theorem af:KK 265 0 [1]∧KK 265 1 [1,3]∧KK 265 2 [3,7,8,9]∧KK 265 3 [3,7,8,9,10]∧KK 265 4 [3,5,7,8,9]∧KK 265 5 [3,7,8,9]∧KK 265 6 [3,7,8,9]∧KK 265 7 [2]:=by decide +kernel
@[simp] theorem fn_268:MX.fn 268=some Tryz.f268:=by kernel_rfl
@[simp] theorem WC:MX.eff 268=none:=by kernel_rfl
@[simp] theorem prim_268:MX.prim 268=none:=by kernel_rfl
@[simp] theorem TN:MF 268:=rfl
@[simp] theorem ag:KK 268 0 [0]∧KK 268 1 [0,7,8,9]∧KK 268 2 [0,7,8,9,10]∧KK 268 3 [0,3,4,7,8,9]∧KK 268 4 [0,3,4,5,7,8,9]∧KK 268 5 [0,7,8,9,45]∧KK 268 6 [2]∧KK 268 7 [0,7,8,9]∧KK 268 8 [2]:=by decide +kernel
@[simp] theorem fn_269:MX.fn 269=some Tryz.f269:=by kernel_rfl
@[simp] theorem WD:MX.eff 269=none:=by kernel_rfl
@[simp] theorem prim_269:MX.prim 269=none:=by kernel_rfl
@[simp] theorem TP:MF 269:=rfl
@[simp] theorem ah:KK 269 0 [0,1]∧KK 269 1 [0,1,7,8]∧KK 269 2 [0,1,7,8,9]∧KK 269 3 [0,1,5,7,8]∧KK 269 4 [0,1,5,7,8,16]∧KK 269 5 [4]∧KK 269 6 [0,1,7,8]∧KK 269 7 [4]:=by decide +kernel
@[simp] theorem fn_270:MX.fn 270=some Tryz.f270:=by kernel_rfl
@[simp] theorem WE:MX.eff 270=none:=by kernel_rfl
@[simp] theorem prim_270:MX.prim 270=none:=by kernel_rfl
@[simp] theorem TQ:MX.mode 270 = { fresh:=false,keepTop:=false }:=rfl
@[simp] theorem ai:KK 270 0 [1,2]∧KK 270 1 [3]:=by decide +kernel
theorem TR:BX (BK Tryz.f9 10)=[[],[0],[],[0,1,2],[0,1,2,3],[0,1,2,3,4],[0,1,2,3,4],[0,1,2,3,4,5],[0,1,2,3,4,5,6,7]]:=by kernel_rfl
theorem TS:BX (BK Tryz.f9 29)=[[],[0],[0,1],[0,1,2],[0,1,2],[0,1,2,4],[0,1,2],[0,1,2],[0,1,2,6,7],[0,1,2,6,7,8],[0,1,2,4,5,6,7,8,9],[0,1,2,3,4,5,6,7,8,9,10],[0,1,2,3,4,5,6,7,8,9,10,11]]:=by kernel_rfl
theorem TT:BX (BK Tryz.f15 1)=[[],[0],[0,1],[],[3],[],[],[6],[0,1,2,5,6,7],[0,1,2,3,4,5,6,7,8],[0,1,2,3,4,5,6,7,8,9]]:=by kernel_rfl
theorem TU:BX (BK Tryz.f23 4)=[[],[],[0,1],[0,1,2],[],[0,1,2,3,4]]:=by kernel_rfl
theorem Qk:BX (BK Tryz.f25 14)=[[],[],[],[],[],[],[4,5],[2,3,4,5,6],[0,1,2,3,4,5,6,7],[0,1,2,3,4,5,6,7,8]]:=by kernel_rfl
theorem TV:BX (BK Tryz.f31 5)=[[],[],[0,1],[0,1,2],[0,1,2,3],[],[],[5,6],[5,6,7],[5,6,7,8],[5,6,7,8,9],[0,1,2,3,4,5,6,7,8,9,10],[],[0,1,2,3,4,5,6,7,8,9,10,11,12]]:=by kernel_rfl
theorem Ql:BX (BK Tryz.f31 10)=[[],[0],[],[2],[],[4],[4,5],[2,3,4,5,6],[2,3,4,5,6,7],[0,1,2,3,4,5,6,7,8],[0,1,2,3,4,5,6,7,8,9],[0,1,2,3,4,5,6,7,8,9,10]]:=by kernel_rfl
theorem Qm:BX (BK Tryz.f32 11)=[[],[0],[],[2],[],[4],[],[4,5,6],[4,5,6,7],[0,1,2,3,4,5,6,7,8],[0,1,2,3,4,5,6,7,8,9]]:=by kernel_rfl
theorem Qn:BX (BK Tryz.f35 10)=[[],[],[0,1],[],[],[3,4],[3,4,5],[0,1,2,3,4,5,6]]:=by kernel_rfl
theorem Qo:BX (BK Tryz.f39 10)=[[],[0],[],[0,1,2],[0,1,2,3],[],[5],[],[5,6,7],[5,6,7,8],[0,1,2,3,4,5,6,7,8,9],[0,1,2,3,4,5,6,7,8,9,10]]:=by kernel_rfl
theorem TW:BX (BK Tryz.f52 1)=[[],[0],[],[0,1,2],[0,1,2,3],[0,1,2,3,4],[0,1,2,3,4,5]]:=by kernel_rfl
theorem Qp:BX (BK Tryz.f53 13)=[[],[0],[],[0,1,2],[0,1,2,3],[],[5],[5,6],[5,6,7],[0,1,2,3,4,5,6,7,8],[0,1,2,3,4,5,6,7,8,9]]:=by kernel_rfl
theorem Qq:BX (BK Tryz.f53 15)=[[],[0],[],[2],[],[2,3,4],[2,3,4,5],[0,1,2,3,4,5,6],[0,1,2,3,4,5,6,7],[0,1,2,3,4,5,6,7,8]]:=by kernel_rfl
theorem Qr:BX (BK Tryz.f68 13)=[[],[0],[],[2],[],[4],[],[6],[],[8],[4,5,6,7,8,9],[2,3,4,5,6,7,8,9,10],[2,3,4,5,6,7,8,9,10,11],[0,1,2,3,4,5,6,7,8,9,10,11,12],[0,1,2,3,4,5,6,7,8,9,10,11,12,13],[0,1,2,3,4,5,6,7,8,9,10,11,12,13,14]]:=by kernel_rfl
theorem TX:BX (BK Tryz.f81 5)=[[],[],[],[1,2],[1,2,3],[1,2,3,4],[],[],[6,7],[6,7,8],[6,7,8,9],[6,7,8,9,10],[1,2,3,4,5,6,7,8,9,10,11],[1,2,3,4,5,6,7,8,9,10,11,12],[0,1,2,3,4,5,6,7,8,9,10,11,12,13],[0,1,2,3,4,5,6,7,8,9,10,11,12,13,14]]:=by kernel_rfl
theorem Qs:BX (BK Tryz.f87 16)=[[],[0],[],[2],[2,3],[2,3,4],[2,3,4,5],[0,1,2,3,4,5,6],[0,1,2,3,4,5,6,7]]:=by kernel_rfl
theorem TY:BX (BK Tryz.f91 8)=[[],[0],[],[2],[0,1,2,3],[0,1,2,3,4],[0,1,2,3,4,5],[0,1,2,3,4,5,6],[0,1,2,3,4,5],[0,1,2,3,4,5,6,7,8],[0,1,2,3,4,5,6,7,8,9],[0,1,2,3,4,5],[0,1,2,3,4,5,11],[0,1,2,3,4,5],[0,1,2,3,4,5,11,12,13],[0,1,2,3,4,5,11,12,13,14],[0,1,2,3,4,5,6,7,8,9,10,11,12,13,14,15],[0,1,2,3,4,5,6,7,8,9,10,11,12,13,14,15,16],[0,1,2,3,4,5,6,7,8,9,10,11,12,13,14,15,16,17]]:=by kernel_rfl
theorem Qt:BX (BK Tryz.f117 2)=[[],[],[1],[],[3],[1,2,3,4],[0,1,2,3,4,5],[0,1,2,3,4,5,6]]:=by kernel_rfl
theorem Qu:BX (BK Tryz.f119 5)=[[],[],[0,1],[0,1,2],[],[4],[0,1,2,3,4,5]]:=by kernel_rfl
theorem Oq:BX (BK Tryz.f119 12)=[[],[0],[],[2],[],[2,3,4],[2,3,4,5],[],[],[2,3,4,5,6,7,8],[2,3,4,5,6,7,8,9],[0,1,2,3,4,5,6,7,8,9,10],[0,1,2,3,4,5,6,7,8,9,10,11],[0,1,2,3,4,5,6,7,8,9,10,11,12]]:=by kernel_rfl
theorem Qv:BX (BK Tryz.f142 6)=[[],[0],[],[2],[],[2,3,4],[2,3,4,5],[2,3,4,5,6],[2,3,4,5,6,7],[0,1,2,3,4,5,6,7,8],[0,1,2,3,4,5,6,7,8,9],[0,1,2,3,4,5,6,7,8,9,10]]:=by kernel_rfl
theorem Qw:BX (BK Tryz.f144 5)=[[],[0],[0,1],[0,1,2],[],[0,1,2,3,4],[0,1,2,3,4,5],[0,1,2,3,4,5,6],[0,1,2,3,4,5,6,7]]:=by kernel_rfl
theorem Ot:BX (BK Tryz.f144 13)=[[],[],[],[2],[],[2,3,4],[2,3,4,5],[],[0,1,2,3,4,5,6,7]]:=by kernel_rfl
theorem Ou:BX (BK Tryz.f144 23)=[[],[0],[],[],[3],[],[2,3,4,5],[2,3,4,5,6],[0,1,2,3,4,5,6,7],[0,1,2,3,4,5,6,7,8],[0,1,2,3,4,5,6,7,8,9]]:=by kernel_rfl
theorem Ov:BX (BK Tryz.f144 25)=[[],[],[1],[1,2],[1,2,3],[],[5],[1,2,3,4,5,6],[0,1,2,3,4,5,6,7],[0,1,2,3,4,5,6,7,8],[0,1,2,3,4,5,6,7,8,9]]:=by kernel_rfl
theorem Qx:BX (BK Tryz.f147 8)=[[],[0],[0,1],[],[],[0,1,2,4],[0,1,2,4,5],[0,1,2,4,5,6],[0,1,2,4,5,6,7],[0,1,2,4,5,6,7,8],[0,1,2,4,5,6,7],[0,1,2,4,5,6,7,10],[0,1,2,4,5,6,7,10,11],[0,1,2,4,5,6,7,10,11,12],[0,1,2,4,5,6,7,10,11,12,13],[0,1,2,4,5,6,7,10,11,12,13,14],[0,1,2,4,5,6,7,8,9,10,11,12,13,14,15],[0,1,2,4,5,6,7,8,9,10,11,12,13,14,15,16],[0,1,2,4,5,6,7,8,9,10,11,12,13,14,15,16,17],[0,1,2,3,4,5,6,7,8,9,10,11,12,13,14,15,16,17,18],[0,1,2,3,4,5,6,7,8,9,10,11,12,13,14,15,16,17,18,19],[0,1,2,3,4,5,6,7,8,9,10,11,12,13,14,15,16,17,18,19,20]]:=by kernel_rfl
theorem Ow:BX (BK Tryz.f147 13)=[[],[0],[0,1],[],[3],[3,4],[3,4,5],[],[3,4,5,6,7],[3,4,5,6,7,8],[3,4,5,6,7,8,9],[3,4,5,6,7,8,9,10],[0,1,2,3,4,5,6,7,8,9,10,11]]:=by kernel_rfl
theorem Ox:BX (BK Tryz.f147 18)=[[],[0],[0,1],[0,1,2],[],[0,1,2,3,4],[0,1,2,3,4,5],[0,1,2,3,4,5,6],[],[0,1,2,3,4,5,6,7,8],[0,1,2,3,4,5,6,7,8,9],[],[0,1,2,3,4,5,6,7,8,9,10,11],[0,1,2,3,4,5,6,7,8,9,10,11,12]]:=by kernel_rfl
theorem Oy:BX (BK Tryz.f154 23)=[[],[],[],[1,2],[1,2,3],[1,2,3,4],[],[1,2,3,4,5,6],[1,2,3,4,5,6,7],[1,2,3,4,5,6,7,8],[],[10],[],[12],[12,13],[10,11,12,13,14],[0,1,2,3,4,5,6,7,8,9,10,11,12,13,14,15],[],[0,1,2,3,4,5,6,7,8,9,10,11,12,13,14,15,16,17]]:=by kernel_rfl
theorem Oz:BX (BK Tryz.f154 24)=[[],[0],[],[2],[0,1],[0,1,4],[0,1,2,3,4,5],[0,1,2,3,4,5,6]]:=by kernel_rfl
theorem Qy:BX (BK Tryz.f158 7)=[[],[0],[0,1],[],[],[3,4],[3,4,5],[3,4,5,6],[3,4,5,6,7],[0,1,2,3,4,5,6,7,8]]:=by kernel_rfl
theorem O0:BX (BK Tryz.f158 12)=[[],[],[],[1,2],[1,2,3],[1,2,3,4],[],[1,2,3,4,5,6],[1,2,3,4,5,6,7],[1,2,3,4,5,6,7,8],[],[10],[],[10,11,12],[10,11,12,13],[0,1,2,3,4,5,6,7,8,9,10,11,12,13,14],[0,1,2,3,4,5,6,7,8,9,10,11,12,13,14,15]]:=by kernel_rfl
theorem Qz:BX (BK Tryz.f164 1)=[[],[],[1],[],[3],[1,2,3,4],[],[0,1,2,3,4,5,6],[0,1,2,3,4,5,6,7]]:=by kernel_rfl
theorem Q1:BX (BK Tryz.f174 4)=[[],[],[],[0,2],[0,1,2,3]]:=by kernel_rfl
theorem Q3:BX (BK Tryz.f174 7)=[[],[],[],[0,2],[0,1,2,3]]:=by kernel_rfl
theorem O1:BX (BK Tryz.f174 12)=[[],[],[],[0],[0,1,3],[0,1,2,3,4]]:=by kernel_rfl
theorem Q4:BX (BK Tryz.f178 1)=[[],[],[1],[],[1,2,3],[1,2,3,4],[],[0,1,2,3,4,5,6],[0,1,2,3,4,5,6,7]]:=by kernel_rfl
theorem O2:BX (BK Tryz.f195 10)=[[],[0],[0,1],[0,1,2],[],[4],[4,5],[4,5,6],[],[8],[4,5,6,7,8,9],[4,5,6,7,8,9,10],[],[4,5,6,7,8,9,10,11,12],[4,5,6,7,8,9,10,11,12,13],[0,1,2,3,4,5,6,7,8,9,10,11,12,13,14],[0,1,2,3,4,5,6,7,8,9,10,11,12,13,14,15]]:=by kernel_rfl
theorem Q5:BX (BK Tryz.f231 1)=[[],[],[0,1],[0,1,2],[],[],[5],[],[5,6,7],[0,1,2,3,4,5,6,7,8],[0,1,2,3,4,5,6,7,8,9]]:=by kernel_rfl
theorem Q6:BX (BK Tryz.f232 1)=[[],[0],[],[],[2,3],[0,1,2,3,4],[],[6],[6,7],[6,7,8],[0,1,2,3,4,5,6,7,8,9],[0,1,2,3,4,5,6,7,8,9,10],[0,1,2,3,4,5,6,7,8,9,10,11],[0,1,2,3,4,5,6,7,8,9,10,11,12],[0,1,2,3,4,5,6,7,8,9,10,11,12,13],[0,1,2,3,4,5,6,7,8,9,10,11,12,13,14],[0,1,2,3,4,5,6,7,8,9,10,11,12,13,14,15],[],[17],[17,18],[17,18,19],[0,1,2,3,4,5,6,7,8,9,10,11,12,13,14,15,16,17,18,19,20],[0,1,2,3,4,5,6,7,8,9,10,11,12,13,14,15,16,17,18,19,20,21],[0,1,2,3,4,5,6,7,8,9,10,11,12,13,14,15,16,17,18,19,20,21,22],[0,1,2,3,4,5,6,7,8,9,10,11,12,13,14,15,16,17,18,19,20,21,22,23]]:=by kernel_rfl
theorem O3:BX (BK Tryz.f237 12)=[[],[0],[],[2],[],[4],[],[6],[],[8],[4,5,6,7,8,9],[2,3,4,5,6,7,8,9,10],[2,3,4,5,6,7,8,9,10,11],[0,1,2,3,4,5,6,7,8,9,10,11,12],[0,1,2,3,4,5,6,7,8,9,10,11,12,13],[0,1,2,3,4,5,6,7,8,9,10,11,12,13,14]]:=by kernel_rfl
theorem Q7:BX (BK Tryz.f256 1)=[[],[0],[],[0,1,2],[],[4],[4,5],[4,5,6],[0,1,2,3,4,5,6,7],[0,1,2,3,4,5,6,7,8],[0,1,2,3,4,5,6,7,8,9],[0,1,2,3,4,5,6,7,8,9,10]]:=by kernel_rfl
theorem Q8:BX (BK Tryz.f264 9)=[[],[0],[],[],[],[2,3,4],[2,3,4,5],[0,1,2,3,4,5,6],[0,1,2,3,4,5,6,7],[0,1,2,3,4,5,6,7,8]]:=by kernel_rfl
@[simp] theorem al_100:DU MX.ty 100=some [.AI]:=by kernel_rfl
@[simp] theorem al_103:DU MX.ty 103=some [(.str []),.AI,.AI]:=by kernel_rfl
@[simp] theorem al_106:DU MX.ty 106=some [(.str []),.AI]:=by kernel_rfl
@[simp] theorem al_109:DU MX.ty 109=some [(.str []),(.int .i64 (0)),(.int .i64 (0)),(.str []),.AI]:=by kernel_rfl
@[simp] theorem al_162:DU MX.ty 162=some [(.str []),.AI]:=by kernel_rfl
@[simp] theorem al_196:DU MX.ty 196=some [(.int .i64 (0)),(.int .i64 (0)),(.int .i64 (0))]:=by kernel_rfl
@[simp] theorem al_210:DU MX.ty 210=some [(.str []),(.int .i64 (0)),.AI,(.int .i64 (0))]:=by kernel_rfl
@[simp] theorem al_221:DU MX.ty 221=some [.AI,.AI]:=by kernel_rfl
@[simp] theorem al_231:DU MX.ty 231=some [(.int .i64 (0)),(.int .i64 (0)),(.str []),.AI,(.int .i64 (0))]:=by kernel_rfl
@[simp] theorem al_25:DU MX.ty 25=some [(.int .i64 (0)),(.int .i64 (0)),(.str []),.AI]:=by kernel_rfl
@[simp] theorem al_270:DU MX.ty 270=some [(.str []),.AI,.AI]:=by kernel_rfl
@[simp] theorem al_28:DU MX.ty 28=some [.AI,(.int .i64 (0)),(.int .i64 (0)),(.str []),.AI,.AI]:=by kernel_rfl
@[simp] theorem al_3:DU MX.ty 3=some [(.int .i64 (0))]:=by kernel_rfl
@[simp] theorem al_301:DU MX.ty 301=some [.FY]:=by kernel_rfl
@[simp] theorem al_34:DU MX.ty 34=some [(.str []),(.int .i64 (0)),.AI]:=by kernel_rfl
@[simp] theorem al_62:DU MX.ty 62=some [(.int .i64 (0)),(.int .i64 (0)),(.str []),.AI]:=by kernel_rfl
@[simp] theorem al_90:DU MX.ty 90=some [(.int .i64 (0)),.AI,.AI,(.int .i64 (0))]:=by kernel_rfl
@[simp] theorem al_99:DU MX.ty 99=some [(.str []),(.int .i64 (0)),(.int .i64 (0))]:=by kernel_rfl
@[simp] theorem YE:∀ s x h,Ad MX.ty .append [100,100] [s,x] h=OR.DQ (apA 1 16 s x h):=fun s x h=>by cases x <;> kernel_rfl
@[simp] theorem YF:∀ s x h,Ad MX.ty .append [101,101] [s,x] h=OR.DQ (apA 2 40 s x h):=fun s x h=>by cases x <;> kernel_rfl
@[simp] theorem YG:∀ s x h,Ad MX.ty .append [104,104] [s,x] h=OR.DQ (apA 5 72 s x h):=fun s x h=>by cases x <;> kernel_rfl
@[simp] theorem YH:∀ s x h,Ad MX.ty .append [157,157] [s,x] h=OR.DQ (apA 2 40 s x h):=fun s x h=>by cases x <;> kernel_rfl
@[simp] theorem YI:∀ s x h,Ad MX.ty .append [160,160] [s,x] h=OR.DQ (apA 1 8 s x h):=fun s x h=>by cases x <;> kernel_rfl
@[simp] theorem YJ:∀ s x h,Ad MX.ty .append [211,211] [s,x] h=OR.DQ (apA 4 56 s x h):=fun s x h=>by cases x <;> kernel_rfl
@[simp] theorem ap_22_22:∀ s x h,Ad MX.ty .append [22,22] [s,x] h=OR.DQ (apA 3 64 s x h):=fun s x h=>by cases x <;> kernel_rfl
@[simp] theorem ap_23_23:∀ s x h,Ad MX.ty .append [23,23] [s,x] h=OR.DQ (apA 4 56 s x h):=fun s x h=>by cases x <;> kernel_rfl
@[simp] theorem YK:∀ s x h,Ad MX.ty .append [232,232] [s,x] h=OR.DQ (apA 5 64 s x h):=fun s x h=>by cases x <;> kernel_rfl
@[simp] theorem ap_26_26:∀ s x h,Ad MX.ty .append [26,26] [s,x] h=OR.DQ (apA 4 56 s x h):=fun s x h=>by cases x <;> kernel_rfl
@[simp] theorem YL:∀ s x h,Ad MX.ty .append [265,265] [s,x] h=OR.DQ (apA 3 64 s x h):=fun s x h=>by cases x <;> kernel_rfl
@[simp] theorem YM:∀ s x h,Ad MX.ty .append [268,268] [s,x] h=OR.DQ (apA 1 8 s x h):=fun s x h=>by cases x <;> kernel_rfl
@[simp] theorem ap_32_32:∀ s x h,Ad MX.ty .append [32,32] [s,x] h=OR.DQ (apA 3 48 s x h):=fun s x h=>by cases x <;> kernel_rfl
@[simp] theorem ap_39_39:∀ s x h,Ad MX.ty .append [39,39] [s,x] h=OR.DQ (apA 1 8 s x h):=fun s x h=>by cases x <;> kernel_rfl
@[simp] theorem ap_49_49:∀ s x h,Ad MX.ty .append [49,49] [s,x] h=OR.DQ (apA 4 64 s x h):=fun s x h=>by cases x <;> kernel_rfl
@[simp] theorem ap_88_88:∀ s x h,Ad MX.ty .append [88,88] [s,x] h=OR.DQ (apA 3 32 s x h):=fun s x h=>by cases x <;> kernel_rfl
@[simp] theorem bd_103_:C5 MX.ty 103 []=(B7 [(.str []),.AI,.AI] []).map .agg:=E7 [] [] (by kernel_rfl) (by kernel_rfl) (by kernel_rfl)
@[simp] theorem YN:∀ v0 v1,C5 MX.ty 103 [(0,v0),(1,v1)]=(B7 [(.str []),.AI,.AI] [(0,1,v0),(1,1,v1)]).map .agg:=fun v0 v1=>E7 [(0,0,1),(1,1,1)] [v0,v1] (by kernel_rfl) (by kernel_rfl) (by kernel_rfl)
@[simp] theorem bd_103_2:∀ v2,C5 MX.ty 103 [(2,v2)]=(B7 [(.str []),.AI,.AI] [(2,1,v2)]).map .agg:=fun v2=>E7 [(2,2,1)] [v2] (by kernel_rfl) (by kernel_rfl) (by kernel_rfl)
@[simp] theorem YO:∀ v0 v1,C5 MX.ty 106 [(0,v0),(1,v1)]=(B7 [(.str []),.AI] [(0,1,v0),(1,1,v1)]).map .agg:=fun v0 v1=>E7 [(0,0,1),(1,1,1)] [v0,v1] (by kernel_rfl) (by kernel_rfl) (by kernel_rfl)
@[simp] theorem bd_106_0:∀ v0,C5 MX.ty 106 [(0,v0)]=(B7 [(.str []),.AI] [(0,1,v0)]).map .agg:=fun v0=>E7 [(0,0,1)] [v0] (by kernel_rfl) (by kernel_rfl) (by kernel_rfl)
@[simp] theorem YP:∀ v0 v1,C5 MX.ty 109 [(0,v0),(1,v1)]=(B7 [(.str []),(.int .i64 (0)),(.int .i64 (0)),(.str []),.AI] [(0,1,v0),(1,4,v1)]).map .agg:=fun v0 v1=>E7 [(0,0,1),(1,1,4)] [v0,v1] (by kernel_rfl) (by kernel_rfl) (by kernel_rfl)
@[simp] theorem bd_159_:C5 MX.ty 159 []=(B7 [(.int .i64 (0)),.AI] []).map .agg:=E7 [] [] (by kernel_rfl) (by kernel_rfl) (by kernel_rfl)
@[simp] theorem bd_159_0:∀ v0,C5 MX.ty 159 [(0,v0)]=(B7 [(.int .i64 (0)),.AI] [(0,1,v0)]).map .agg:=fun v0=>E7 [(0,0,1)] [v0] (by kernel_rfl) (by kernel_rfl) (by kernel_rfl)
@[simp] theorem bd_159_1:∀ v1,C5 MX.ty 159 [(1,v1)]=(B7 [(.int .i64 (0)),.AI] [(1,1,v1)]).map .agg:=fun v1=>E7 [(1,1,1)] [v1] (by kernel_rfl) (by kernel_rfl) (by kernel_rfl)
@[simp] theorem bd_162_0:∀ v0,C5 MX.ty 162 [(0,v0)]=(B7 [(.str []),.AI] [(0,1,v0)]).map .agg:=fun v0=>E7 [(0,0,1)] [v0] (by kernel_rfl) (by kernel_rfl) (by kernel_rfl)
@[simp] theorem bd_196_:C5 MX.ty 196 []=(B7 [(.int .i64 (0)),(.int .i64 (0)),(.int .i64 (0))] []).map .agg:=E7 [] [] (by kernel_rfl) (by kernel_rfl) (by kernel_rfl)
@[simp] theorem YQ:∀ v0 v2,C5 MX.ty 196 [(0,v0),(2,v2)]=(B7 [(.int .i64 (0)),(.int .i64 (0)),(.int .i64 (0))] [(0,1,v0),(2,1,v2)]).map .agg:=fun v0 v2=>E7 [(0,0,1),(2,2,1)] [v0,v2] (by kernel_rfl) (by kernel_rfl) (by kernel_rfl)
@[simp] theorem YR:∀ v0 v1,C5 MX.ty 210 [(0,v0),(1,v1)]=(B7 [(.str []),(.int .i64 (0)),.AI,(.int .i64 (0))] [(0,3,v0),(3,1,v1)]).map .agg:=fun v0 v1=>E7 [(0,0,3),(1,3,1)] [v0,v1] (by kernel_rfl) (by kernel_rfl) (by kernel_rfl)
@[simp] theorem bd_221_0:∀ v0,C5 MX.ty 221 [(0,v0)]=(B7 [.AI,.AI] [(0,1,v0)]).map .agg:=fun v0=>E7 [(0,0,1)] [v0] (by kernel_rfl) (by kernel_rfl) (by kernel_rfl)
@[simp] theorem YS:∀ v0 v1,C5 MX.ty 231 [(0,v0),(1,v1)]=(B7 [(.int .i64 (0)),(.int .i64 (0)),(.str []),.AI,(.int .i64 (0))] [(0,4,v0),(4,1,v1)]).map .agg:=fun v0 v1=>E7 [(0,0,4),(1,4,1)] [v0,v1] (by kernel_rfl) (by kernel_rfl) (by kernel_rfl)
@[simp] theorem bd_267_0:∀ v0,C5 MX.ty 267 [(0,v0)]=(B7 [(.int .i64 (0)),.AI] [(0,1,v0)]).map .agg:=fun v0=>E7 [(0,0,1)] [v0] (by kernel_rfl) (by kernel_rfl) (by kernel_rfl)
@[simp] theorem bd_267_1:∀ v1,C5 MX.ty 267 [(1,v1)]=(B7 [(.int .i64 (0)),.AI] [(1,1,v1)]).map .agg:=fun v1=>E7 [(1,1,1)] [v1] (by kernel_rfl) (by kernel_rfl) (by kernel_rfl)
@[simp] theorem bd_270_0:∀ v0,C5 MX.ty 270 [(0,v0)]=(B7 [(.str []),.AI,.AI] [(0,1,v0)]).map .agg:=fun v0=>E7 [(0,0,1)] [v0] (by kernel_rfl) (by kernel_rfl) (by kernel_rfl)
@[simp] theorem XI:∀ v0 v1 v2,C5 MX.ty 28 [(0,v0),(1,v1),(2,v2)]=(B7 [.AI,(.int .i64 (0)),(.int .i64 (0)),(.str []),.AI,.AI] [(0,1,v0),(1,4,v1),(5,1,v2)]).map .agg:=fun v0 v1 v2=>E7 [(0,0,1),(1,1,4),(2,5,1)] [v0,v1,v2] (by kernel_rfl) (by kernel_rfl) (by kernel_rfl)
@[simp] theorem aj:∀ v0 v2,C5 MX.ty 34 [(0,v0),(2,v2)]=(B7 [(.str []),(.int .i64 (0)),.AI] [(0,1,v0),(2,1,v2)]).map .agg:=fun v0 v2=>E7 [(0,0,1),(2,2,1)] [v0,v2] (by kernel_rfl) (by kernel_rfl) (by kernel_rfl)
@[simp] theorem bd_34_1:∀ v1,C5 MX.ty 34 [(1,v1)]=(B7 [(.str []),(.int .i64 (0)),.AI] [(1,1,v1)]).map .agg:=fun v1=>E7 [(1,1,1)] [v1] (by kernel_rfl) (by kernel_rfl) (by kernel_rfl)
@[simp] theorem bs_100_0:∀ ml ps h,Ao MX.ty ml 100 0 ps h=bsA 1 [(.str [])] ml 0 ps h:=fun _ _ _=>by kernel_rfl
@[simp] theorem bs_100_1:∀ ml ps h,Ao MX.ty ml 100 1 ps h=bsA 1 [(.str [])] ml 1 ps h:=fun _ _ _=>by kernel_rfl
@[simp] theorem bs_100_2:∀ ml ps h,Ao MX.ty ml 100 2 ps h=bsA 1 [(.str [])] ml 2 ps h:=fun _ _ _=>by kernel_rfl
@[simp] theorem bs_100_3:∀ ml ps h,Ao MX.ty ml 100 3 ps h=bsA 1 [(.str [])] ml 3 ps h:=fun _ _ _=>by kernel_rfl
@[simp] theorem bs_101_1:∀ ml ps h,Ao MX.ty ml 101 1 ps h=bsA 2 [(.str []),.AI] ml 1 ps h:=fun _ _ _=>by kernel_rfl
@[simp] theorem bs_101_2:∀ ml ps h,Ao MX.ty ml 101 2 ps h=bsA 2 [(.str []),.AI] ml 2 ps h:=fun _ _ _=>by kernel_rfl
@[simp] theorem bs_104_1:∀ ml ps h,Ao MX.ty ml 104 1 ps h=bsA 5 [(.str []),(.int .i64 (0)),(.int .i64 (0)),(.str []),.AI] ml 1 ps h:=fun _ _ _=>by kernel_rfl
@[simp] theorem bs_157_1:∀ ml ps h,Ao MX.ty ml 157 1 ps h=bsA 2 [(.str []),.AI] ml 1 ps h:=fun _ _ _=>by kernel_rfl
@[simp] theorem bs_157_2:∀ ml ps h,Ao MX.ty ml 157 2 ps h=bsA 2 [(.str []),.AI] ml 2 ps h:=fun _ _ _=>by kernel_rfl
@[simp] theorem bs_160_1:∀ ml ps h,Ao MX.ty ml 160 1 ps h=bsA 1 [.D6] ml 1 ps h:=fun _ _ _=>by kernel_rfl
@[simp] theorem bs_204_2:∀ ml ps h,Ao MX.ty ml 204 2 ps h=bsA 1 [(.int .i64 (0))] ml 2 ps h:=fun _ _ _=>by kernel_rfl
@[simp] theorem bs_204_3:∀ ml ps h,Ao MX.ty ml 204 3 ps h=bsA 1 [(.int .i64 (0))] ml 3 ps h:=fun _ _ _=>by kernel_rfl
@[simp] theorem bs_211_1:∀ ml ps h,Ao MX.ty ml 211 1 ps h=bsA 4 [(.str []),(.int .i64 (0)),.AI,(.int .i64 (0))] ml 1 ps h:=fun _ _ _=>by kernel_rfl
@[simp] theorem bs_22_1:∀ ml ps h,Ao MX.ty ml 22 1 ps h=bsA 3 [(.str []),.AI,.AI] ml 1 ps h:=fun _ _ _=>by kernel_rfl
@[simp] theorem bs_23_1:∀ ml ps h,Ao MX.ty ml 23 1 ps h=bsA 4 [(.int .i64 (0)),(.int .i64 (0)),(.str []),.AI] ml 1 ps h:=fun _ _ _=>by kernel_rfl
@[simp] theorem bs_232_1:∀ ml ps h,Ao MX.ty ml 232 1 ps h=bsA 5 [(.int .i64 (0)),(.int .i64 (0)),(.str []),.AI,(.int .i64 (0))] ml 1 ps h:=fun _ _ _=>by kernel_rfl
@[simp] theorem bs_26_0:∀ ml ps h,Ao MX.ty ml 26 0 ps h=bsA 4 [(.int .i64 (0)),(.int .i64 (0)),(.str []),.AI] ml 0 ps h:=fun _ _ _=>by kernel_rfl
@[simp] theorem bs_265_1:∀ ml ps h,Ao MX.ty ml 265 1 ps h=bsA 3 [(.str []),.AI,.AI] ml 1 ps h:=fun _ _ _=>by kernel_rfl
@[simp] theorem bs_265_2:∀ ml ps h,Ao MX.ty ml 265 2 ps h=bsA 3 [(.str []),.AI,.AI] ml 2 ps h:=fun _ _ _=>by kernel_rfl
@[simp] theorem bs_268_1:∀ ml ps h,Ao MX.ty ml 268 1 ps h=bsA 1 [.D6] ml 1 ps h:=fun _ _ _=>by kernel_rfl
@[simp] theorem bs_32_0:∀ ml ps h,Ao MX.ty ml 32 0 ps h=bsA 3 [(.str []),(.int .i64 (0)),.AI] ml 0 ps h:=fun _ _ _=>by kernel_rfl
@[simp] theorem bs_32_1:∀ ml ps h,Ao MX.ty ml 32 1 ps h=bsA 3 [(.str []),(.int .i64 (0)),.AI] ml 1 ps h:=fun _ _ _=>by kernel_rfl
@[simp] theorem bs_39_0:∀ ml ps h,Ao MX.ty ml 39 0 ps h=bsA 1 [(.int .i64 (0))] ml 0 ps h:=fun _ _ _=>by kernel_rfl
@[simp] theorem bs_49_1:∀ ml ps h,Ao MX.ty ml 49 1 ps h=bsA 4 [(.int .i64 (0)),.AI,.AI,(.int .i64 (0))] ml 1 ps h:=fun _ _ _=>by kernel_rfl
@[simp] theorem bs_88_0:∀ ml ps h,Ao MX.ty ml 88 0 ps h=bsA 3 [(.str []),(.int .i64 (0)),(.int .i64 (0))] ml 0 ps h:=fun _ _ _=>by kernel_rfl
@[simp] theorem cv_3_236:∀ x h,Fw MX.ty 3 236 x h=cvI .u64 x h:=fun x h=>by cases x <;> kernel_rfl
@[simp] theorem cv_9_247:∀ x h,Fw MX.ty 9 247 x h=cvB x h:=fun x h=>by cases x <;> kernel_rfl
@[simp] theorem fa_103_0:∀ p,AX MX.ty 103 p 0=faA 0 p:=fun p=>by cases p <;> kernel_rfl
@[simp] theorem fa_103_1:∀ p,AX MX.ty 103 p 1=faA 1 p:=fun p=>by cases p <;> kernel_rfl
@[simp] theorem fa_103_2:∀ p,AX MX.ty 103 p 2=faA 2 p:=fun p=>by cases p <;> kernel_rfl
@[simp] theorem fa_106_0:∀ p,AX MX.ty 106 p 0=faA 0 p:=fun p=>by cases p <;> kernel_rfl
@[simp] theorem fa_106_1:∀ p,AX MX.ty 106 p 1=faA 1 p:=fun p=>by cases p <;> kernel_rfl
@[simp] theorem fa_109_0:∀ p,AX MX.ty 109 p 0=faA 0 p:=fun p=>by cases p <;> kernel_rfl
@[simp] theorem fa_109_1:∀ p,AX MX.ty 109 p 1=faA 1 p:=fun p=>by cases p <;> kernel_rfl
@[simp] theorem fa_159_0:∀ p,AX MX.ty 159 p 0=faA 0 p:=fun p=>by cases p <;> kernel_rfl
@[simp] theorem fa_159_1:∀ p,AX MX.ty 159 p 1=faA 1 p:=fun p=>by cases p <;> kernel_rfl
@[simp] theorem fa_162_0:∀ p,AX MX.ty 162 p 0=faA 0 p:=fun p=>by cases p <;> kernel_rfl
@[simp] theorem fa_162_1:∀ p,AX MX.ty 162 p 1=faA 1 p:=fun p=>by cases p <;> kernel_rfl
@[simp] theorem fa_196_0:∀ p,AX MX.ty 196 p 0=faA 0 p:=fun p=>by cases p <;> kernel_rfl
@[simp] theorem fa_196_1:∀ p,AX MX.ty 196 p 1=faA 1 p:=fun p=>by cases p <;> kernel_rfl
@[simp] theorem fa_196_2:∀ p,AX MX.ty 196 p 2=faA 2 p:=fun p=>by cases p <;> kernel_rfl
@[simp] theorem fa_210_0:∀ p,AX MX.ty 210 p 0=faA 0 p:=fun p=>by cases p <;> kernel_rfl
@[simp] theorem fa_210_1:∀ p,AX MX.ty 210 p 1=faA 3 p:=fun p=>by cases p <;> kernel_rfl
@[simp] theorem fa_221_0:∀ p,AX MX.ty 221 p 0=faA 0 p:=fun p=>by cases p <;> kernel_rfl
@[simp] theorem fa_221_1:∀ p,AX MX.ty 221 p 1=faA 1 p:=fun p=>by cases p <;> kernel_rfl
@[simp] theorem fa_231_0:∀ p,AX MX.ty 231 p 0=faA 0 p:=fun p=>by cases p <;> kernel_rfl
@[simp] theorem fa_231_1:∀ p,AX MX.ty 231 p 1=faA 4 p:=fun p=>by cases p <;> kernel_rfl
@[simp] theorem fa_25_0:∀ p,AX MX.ty 25 p 0=faA 0 p:=fun p=>by cases p <;> kernel_rfl
@[simp] theorem fa_25_1:∀ p,AX MX.ty 25 p 1=faA 1 p:=fun p=>by cases p <;> kernel_rfl
@[simp] theorem fa_25_2:∀ p,AX MX.ty 25 p 2=faA 2 p:=fun p=>by cases p <;> kernel_rfl
@[simp] theorem fa_25_3:∀ p,AX MX.ty 25 p 3=faA 3 p:=fun p=>by cases p <;> kernel_rfl
@[simp] theorem fa_267_0:∀ p,AX MX.ty 267 p 0=faA 0 p:=fun p=>by cases p <;> kernel_rfl
@[simp] theorem fa_267_1:∀ p,AX MX.ty 267 p 1=faA 1 p:=fun p=>by cases p <;> kernel_rfl
@[simp] theorem fa_270_1:∀ p,AX MX.ty 270 p 1=faA 1 p:=fun p=>by cases p <;> kernel_rfl
@[simp] theorem fa_270_2:∀ p,AX MX.ty 270 p 2=faA 2 p:=fun p=>by cases p <;> kernel_rfl
@[simp] theorem fa_28_0:∀ p,AX MX.ty 28 p 0=faA 0 p:=fun p=>by cases p <;> kernel_rfl
@[simp] theorem fa_28_1:∀ p,AX MX.ty 28 p 1=faA 1 p:=fun p=>by cases p <;> kernel_rfl
@[simp] theorem fa_28_2:∀ p,AX MX.ty 28 p 2=faA 5 p:=fun p=>by cases p <;> kernel_rfl
@[simp] theorem fa_34_0:∀ p,AX MX.ty 34 p 0=faA 0 p:=fun p=>by cases p <;> kernel_rfl
@[simp] theorem fa_34_1:∀ p,AX MX.ty 34 p 1=faA 1 p:=fun p=>by cases p <;> kernel_rfl
@[simp] theorem fa_34_2:∀ p,AX MX.ty 34 p 2=faA 2 p:=fun p=>by cases p <;> kernel_rfl
@[simp] theorem fa_62_0:∀ p,AX MX.ty 62 p 0=faA 0 p:=fun p=>by cases p <;> kernel_rfl
@[simp] theorem fa_62_1:∀ p,AX MX.ty 62 p 1=faA 1 p:=fun p=>by cases p <;> kernel_rfl
@[simp] theorem fa_62_2:∀ p,AX MX.ty 62 p 2=faA 2 p:=fun p=>by cases p <;> kernel_rfl
@[simp] theorem fa_62_3:∀ p,AX MX.ty 62 p 3=faA 3 p:=fun p=>by cases p <;> kernel_rfl
@[simp] theorem fa_90_0:∀ p,AX MX.ty 90 p 0=faA 0 p:=fun p=>by cases p <;> kernel_rfl
@[simp] theorem fa_90_1:∀ p,AX MX.ty 90 p 1=faA 1 p:=fun p=>by cases p <;> kernel_rfl
@[simp] theorem fa_90_2:∀ p,AX MX.ty 90 p 2=faA 2 p:=fun p=>by cases p <;> kernel_rfl
@[simp] theorem fa_90_3:∀ p,AX MX.ty 90 p 3=faA 3 p:=fun p=>by cases p <;> kernel_rfl
@[simp] theorem fa_99_0:∀ p,AX MX.ty 99 p 0=faA 0 p:=fun p=>by cases p <;> kernel_rfl
@[simp] theorem fa_99_1:∀ p,AX MX.ty 99 p 1=faA 1 p:=fun p=>by cases p <;> kernel_rfl
@[simp] theorem fa_99_2:∀ p,AX MX.ty 99 p 2=faA 2 p:=fun p=>by cases p <;> kernel_rfl
@[simp] theorem ixs_9:∀ x i,L6 MX.ty 9 x i=ixS x i:=fun x i=>by cases x <;> cases i <;> kernel_rfl
@[simp] theorem ix_100:∀ x i,BJ MX.ty 100 x i=ixA 1 x i:=fun x i=>by cases x <;> cases i <;> kernel_rfl
@[simp] theorem ix_101:∀ x i,BJ MX.ty 101 x i=ixA 2 x i:=fun x i=>by cases x <;> cases i <;> kernel_rfl
@[simp] theorem ix_104:∀ x i,BJ MX.ty 104 x i=ixA 5 x i:=fun x i=>by cases x <;> cases i <;> kernel_rfl
@[simp] theorem ix_157:∀ x i,BJ MX.ty 157 x i=ixA 2 x i:=fun x i=>by cases x <;> cases i <;> kernel_rfl
@[simp] theorem ix_160:∀ x i,BJ MX.ty 160 x i=ixA 1 x i:=fun x i=>by cases x <;> cases i <;> kernel_rfl
@[simp] theorem ix_204:∀ x i,BJ MX.ty 204 x i=ixA 1 x i:=fun x i=>by cases x <;> cases i <;> kernel_rfl
@[simp] theorem ix_211:∀ x i,BJ MX.ty 211 x i=ixA 4 x i:=fun x i=>by cases x <;> cases i <;> kernel_rfl
@[simp] theorem ix_22:∀ x i,BJ MX.ty 22 x i=ixA 3 x i:=fun x i=>by cases x <;> cases i <;> kernel_rfl
@[simp] theorem ix_23:∀ x i,BJ MX.ty 23 x i=ixA 4 x i:=fun x i=>by cases x <;> cases i <;> kernel_rfl
@[simp] theorem ix_232:∀ x i,BJ MX.ty 232 x i=ixA 5 x i:=fun x i=>by cases x <;> cases i <;> kernel_rfl
@[simp] theorem ix_247:∀ x i,BJ MX.ty 247 x i=ixA 1 x i:=fun x i=>by cases x <;> cases i <;> kernel_rfl
@[simp] theorem ix_26:∀ x i,BJ MX.ty 26 x i=ixA 4 x i:=fun x i=>by cases x <;> cases i <;> kernel_rfl
@[simp] theorem ix_265:∀ x i,BJ MX.ty 265 x i=ixA 3 x i:=fun x i=>by cases x <;> cases i <;> kernel_rfl
@[simp] theorem ix_268:∀ x i,BJ MX.ty 268 x i=ixA 1 x i:=fun x i=>by cases x <;> cases i <;> kernel_rfl
@[simp] theorem ix_32:∀ x i,BJ MX.ty 32 x i=ixA 3 x i:=fun x i=>by cases x <;> cases i <;> kernel_rfl
@[simp] theorem ix_39:∀ x i,BJ MX.ty 39 x i=ixA 1 x i:=fun x i=>by cases x <;> cases i <;> kernel_rfl
@[simp] theorem ix_49:∀ x i,BJ MX.ty 49 x i=ixA 4 x i:=fun x i=>by cases x <;> cases i <;> kernel_rfl
@[simp] theorem ix_88:∀ x i,BJ MX.ty 88 x i=ixA 3 x i:=fun x i=>by cases x <;> cases i <;> kernel_rfl
@[simp] theorem len_100:∀ x h,Ad MX.ty .len [100] [x] h=Bu x h:=fun x h=>by cases x <;> kernel_rfl
@[simp] theorem len_101:∀ x h,Ad MX.ty .len [101] [x] h=Bu x h:=fun x h=>by cases x <;> kernel_rfl
@[simp] theorem len_104:∀ x h,Ad MX.ty .len [104] [x] h=Bu x h:=fun x h=>by cases x <;> kernel_rfl
@[simp] theorem len_157:∀ x h,Ad MX.ty .len [157] [x] h=Bu x h:=fun x h=>by cases x <;> kernel_rfl
@[simp] theorem len_160:∀ x h,Ad MX.ty .len [160] [x] h=Bu x h:=fun x h=>by cases x <;> kernel_rfl
@[simp] theorem len_204:∀ x h,Ad MX.ty .len [204] [x] h=Bu x h:=fun x h=>by cases x <;> kernel_rfl
@[simp] theorem len_211:∀ x h,Ad MX.ty .len [211] [x] h=Bu x h:=fun x h=>by cases x <;> kernel_rfl
@[simp] theorem len_22:∀ x h,Ad MX.ty .len [22] [x] h=Bu x h:=fun x h=>by cases x <;> kernel_rfl
@[simp] theorem len_23:∀ x h,Ad MX.ty .len [23] [x] h=Bu x h:=fun x h=>by cases x <;> kernel_rfl
@[simp] theorem len_232:∀ x h,Ad MX.ty .len [232] [x] h=Bu x h:=fun x h=>by cases x <;> kernel_rfl
@[simp] theorem len_247:∀ x h,Ad MX.ty .len [247] [x] h=Bu x h:=fun x h=>by cases x <;> kernel_rfl
@[simp] theorem len_26:∀ x h,Ad MX.ty .len [26] [x] h=Bu x h:=fun x h=>by cases x <;> kernel_rfl
@[simp] theorem len_265:∀ x h,Ad MX.ty .len [265] [x] h=Bu x h:=fun x h=>by cases x <;> kernel_rfl
@[simp] theorem len_268:∀ x h,Ad MX.ty .len [268] [x] h=Bu x h:=fun x h=>by cases x <;> kernel_rfl
@[simp] theorem len_32:∀ x h,Ad MX.ty .len [32] [x] h=Bu x h:=fun x h=>by cases x <;> kernel_rfl
@[simp] theorem len_39:∀ x h,Ad MX.ty .len [39] [x] h=Bu x h:=fun x h=>by cases x <;> kernel_rfl
@[simp] theorem len_49:∀ x h,Ad MX.ty .len [49] [x] h=Bu x h:=fun x h=>by cases x <;> kernel_rfl
@[simp] theorem len_88:∀ x h,Ad MX.ty .len [88] [x] h=Bu x h:=fun x h=>by cases x <;> kernel_rfl
@[simp] theorem len_9:∀ x h,Ad MX.ty .len [9] [x] h=XG x h:=fun x h=>by cases x <;> kernel_rfl
@[simp] theorem ld_100:∀ h p,Bt MX.ty h 100 p=ld1 h p:=fun _ _=>by kernel_rfl
@[simp] theorem ld_101:∀ h p,Bt MX.ty h 101 p=ld1 h p:=fun _ _=>by kernel_rfl
@[simp] theorem ld_103:∀ h p,Bt MX.ty h 103 p=ldN 3 h p:=fun _ _=>by kernel_rfl
@[simp] theorem ld_104:∀ h p,Bt MX.ty h 104 p=ld1 h p:=fun _ _=>by kernel_rfl
@[simp] theorem ld_106:∀ h p,Bt MX.ty h 106 p=ldN 2 h p:=fun _ _=>by kernel_rfl
@[simp] theorem ld_109:∀ h p,Bt MX.ty h 109 p=ldN 5 h p:=fun _ _=>by kernel_rfl
@[simp] theorem ld_111:∀ h p,Bt MX.ty h 111 p=ld1 h p:=fun _ _=>by kernel_rfl
@[simp] theorem ld_112:∀ h p,Bt MX.ty h 112 p=ld1 h p:=fun _ _=>by kernel_rfl
@[simp] theorem ld_157:∀ h p,Bt MX.ty h 157 p=ld1 h p:=fun _ _=>by kernel_rfl
@[simp] theorem ld_160:∀ h p,Bt MX.ty h 160 p=ld1 h p:=fun _ _=>by kernel_rfl
@[simp] theorem ld_162:∀ h p,Bt MX.ty h 162 p=ldN 2 h p:=fun _ _=>by kernel_rfl
@[simp] theorem ld_196:∀ h p,Bt MX.ty h 196 p=ldN 3 h p:=fun _ _=>by kernel_rfl
@[simp] theorem ld_201:∀ h p,Bt MX.ty h 201 p=ld1 h p:=fun _ _=>by kernel_rfl
@[simp] theorem ld_210:∀ h p,Bt MX.ty h 210 p=ldN 4 h p:=fun _ _=>by kernel_rfl
@[simp] theorem ld_22:∀ h p,Bt MX.ty h 22 p=ld1 h p:=fun _ _=>by kernel_rfl
@[simp] theorem ld_221:∀ h p,Bt MX.ty h 221 p=ldN 2 h p:=fun _ _=>by kernel_rfl
@[simp] theorem ld_224:∀ h p,Bt MX.ty h 224 p=ld1 h p:=fun _ _=>by kernel_rfl
@[simp] theorem ld_23:∀ h p,Bt MX.ty h 23 p=ld1 h p:=fun _ _=>by kernel_rfl
@[simp] theorem ld_231:∀ h p,Bt MX.ty h 231 p=ldN 5 h p:=fun _ _=>by kernel_rfl
@[simp] theorem ld_25:∀ h p,Bt MX.ty h 25 p=ldN 4 h p:=fun _ _=>by kernel_rfl
@[simp] theorem ld_26:∀ h p,Bt MX.ty h 26 p=ld1 h p:=fun _ _=>by kernel_rfl
@[simp] theorem ld_265:∀ h p,Bt MX.ty h 265 p=ld1 h p:=fun _ _=>by kernel_rfl
@[simp] theorem ld_268:∀ h p,Bt MX.ty h 268 p=ld1 h p:=fun _ _=>by kernel_rfl
@[simp] theorem ld_270:∀ h p,Bt MX.ty h 270 p=ldN 3 h p:=fun _ _=>by kernel_rfl
@[simp] theorem ld_28:∀ h p,Bt MX.ty h 28 p=ldN 6 h p:=fun _ _=>by kernel_rfl
@[simp] theorem ld_282:∀ h p,Bt MX.ty h 282 p=ld1 h p:=fun _ _=>by kernel_rfl
@[simp] theorem ld_3:∀ h p,Bt MX.ty h 3 p=ld1 h p:=fun _ _=>by kernel_rfl
@[simp] theorem ld_301:∀ h p,Bt MX.ty h 301 p=ld1 h p:=fun _ _=>by kernel_rfl
@[simp] theorem ld_32:∀ h p,Bt MX.ty h 32 p=ld1 h p:=fun _ _=>by kernel_rfl
@[simp] theorem ld_34:∀ h p,Bt MX.ty h 34 p=ldN 3 h p:=fun _ _=>by kernel_rfl
@[simp] theorem ld_35:∀ h p,Bt MX.ty h 35 p=ld1 h p:=fun _ _=>by kernel_rfl
@[simp] theorem ld_39:∀ h p,Bt MX.ty h 39 p=ld1 h p:=fun _ _=>by kernel_rfl
@[simp] theorem ld_49:∀ h p,Bt MX.ty h 49 p=ld1 h p:=fun _ _=>by kernel_rfl
@[simp] theorem ld_5:∀ h p,Bt MX.ty h 5 p=ld1 h p:=fun _ _=>by kernel_rfl
@[simp] theorem ld_62:∀ h p,Bt MX.ty h 62 p=ldN 4 h p:=fun _ _=>by kernel_rfl
@[simp] theorem ld_88:∀ h p,Bt MX.ty h 88 p=ld1 h p:=fun _ _=>by kernel_rfl
@[simp] theorem ld_9:∀ h p,Bt MX.ty h 9 p=ld1 h p:=fun _ _=>by kernel_rfl
@[simp] theorem ld_90:∀ h p,Bt MX.ty h 90 p=ldN 4 h p:=fun _ _=>by kernel_rfl
@[simp] theorem ld_99:∀ h p,Bt MX.ty h 99 p=ldN 3 h p:=fun _ _=>by kernel_rfl
@[simp] theorem lk_224:∀ m k ok h,GC MX.ty 224 m k ok h=lkA (some .string) .FY m k ok h:=lk_of (kt:=9) (e:=225) (by kernel_rfl) (by kernel_rfl) (by kernel_rfl)
@[simp] theorem up_224:∀ m k v h,J3 MX.ty 224 m k v h=upA (some .string) m k v h:=fun m k v h=>by cases m <;> kernel_rfl
@[simp] theorem sl_100:∀ x lo hi mx,F8 MX.ty 100 x lo hi mx=slA 1 x lo hi mx:=fun x lo hi mx=>by cases x <;> cases mx <;> cases hi <;> kernel_rfl
@[simp] theorem sl_101:∀ x lo hi mx,F8 MX.ty 101 x lo hi mx=slA 2 x lo hi mx:=fun x lo hi mx=>by cases x <;> cases mx <;> cases hi <;> kernel_rfl
@[simp] theorem sl_211:∀ x lo hi mx,F8 MX.ty 211 x lo hi mx=slA 4 x lo hi mx:=fun x lo hi mx=>by cases x <;> cases mx <;> cases hi <;> kernel_rfl
@[simp] theorem sl_22:∀ x lo hi mx,F8 MX.ty 22 x lo hi mx=slA 3 x lo hi mx:=fun x lo hi mx=>by cases x <;> cases mx <;> cases hi <;> kernel_rfl
@[simp] theorem sl_232:∀ x lo hi mx,F8 MX.ty 232 x lo hi mx=slA 5 x lo hi mx:=fun x lo hi mx=>by cases x <;> cases mx <;> cases hi <;> kernel_rfl
@[simp] theorem st_100:∀ h p v,CL MX.ty h 100 p v=stA 1 h p v:=EM (by kernel_rfl) (by kernel_rfl)
@[simp] theorem st_101:∀ h p v,CL MX.ty h 101 p v=stA 1 h p v:=EM (by kernel_rfl) (by kernel_rfl)
@[simp] theorem st_103:∀ h p v,CL MX.ty h 103 p v=stA 3 h p v:=EM (by kernel_rfl) (by kernel_rfl)
@[simp] theorem st_104:∀ h p v,CL MX.ty h 104 p v=stA 1 h p v:=EM (by kernel_rfl) (by kernel_rfl)
@[simp] theorem st_106:∀ h p v,CL MX.ty h 106 p v=stA 2 h p v:=EM (by kernel_rfl) (by kernel_rfl)
@[simp] theorem st_109:∀ h p v,CL MX.ty h 109 p v=stA 5 h p v:=EM (by kernel_rfl) (by kernel_rfl)
@[simp] theorem st_157:∀ h p v,CL MX.ty h 157 p v=stA 1 h p v:=EM (by kernel_rfl) (by kernel_rfl)
@[simp] theorem st_160:∀ h p v,CL MX.ty h 160 p v=stA 1 h p v:=EM (by kernel_rfl) (by kernel_rfl)
@[simp] theorem st_162:∀ h p v,CL MX.ty h 162 p v=stA 2 h p v:=EM (by kernel_rfl) (by kernel_rfl)
@[simp] theorem st_196:∀ h p v,CL MX.ty h 196 p v=stA 3 h p v:=EM (by kernel_rfl) (by kernel_rfl)
@[simp] theorem st_210:∀ h p v,CL MX.ty h 210 p v=stA 4 h p v:=EM (by kernel_rfl) (by kernel_rfl)
@[simp] theorem st_221:∀ h p v,CL MX.ty h 221 p v=stA 2 h p v:=EM (by kernel_rfl) (by kernel_rfl)
@[simp] theorem st_23:∀ h p v,CL MX.ty h 23 p v=stA 1 h p v:=EM (by kernel_rfl) (by kernel_rfl)
@[simp] theorem st_231:∀ h p v,CL MX.ty h 231 p v=stA 5 h p v:=EM (by kernel_rfl) (by kernel_rfl)
@[simp] theorem st_25:∀ h p v,CL MX.ty h 25 p v=stA 4 h p v:=EM (by kernel_rfl) (by kernel_rfl)
@[simp] theorem st_268:∀ h p v,CL MX.ty h 268 p v=stA 1 h p v:=EM (by kernel_rfl) (by kernel_rfl)
@[simp] theorem st_270:∀ h p v,CL MX.ty h 270 p v=stA 3 h p v:=EM (by kernel_rfl) (by kernel_rfl)
@[simp] theorem st_28:∀ h p v,CL MX.ty h 28 p v=stA 6 h p v:=EM (by kernel_rfl) (by kernel_rfl)
@[simp] theorem st_3:∀ h p v,CL MX.ty h 3 p v=stA 1 h p v:=EM (by kernel_rfl) (by kernel_rfl)
@[simp] theorem st_301:∀ h p v,CL MX.ty h 301 p v=stA 1 h p v:=EM (by kernel_rfl) (by kernel_rfl)
@[simp] theorem st_34:∀ h p v,CL MX.ty h 34 p v=stA 3 h p v:=EM (by kernel_rfl) (by kernel_rfl)
@[simp] theorem st_39:∀ h p v,CL MX.ty h 39 p v=stA 1 h p v:=EM (by kernel_rfl) (by kernel_rfl)
@[simp] theorem st_62:∀ h p v,CL MX.ty h 62 p v=stA 4 h p v:=EM (by kernel_rfl) (by kernel_rfl)
@[simp] theorem st_88:∀ h p v,CL MX.ty h 88 p v=stA 1 h p v:=EM (by kernel_rfl) (by kernel_rfl)
@[simp] theorem st_90:∀ h p v,CL MX.ty h 90 p v=stA 4 h p v:=EM (by kernel_rfl) (by kernel_rfl)
@[simp] theorem st_99:∀ h p v,CL MX.ty h 99 p v=stA 3 h p v:=EM (by kernel_rfl) (by kernel_rfl)
end Go.Proofs.Am12
