/- Part 12. -/
import Derived.Test.YtggemipepaajmaaGreatSam11
import Derived.Shelf.Sort.Plain
import Derived.Shelf.Slices.In.SortNone
import Derived.Shelf.Slices.CompactS
import Derived.Shelf.Slices.CompactI
set_option linter.all false
namespace Go.Am
open Go Go.Proofs Go.Sort Go.Shelf
def strs(l:List (List UInt8)):List (List AV):=l.map fun s=>[AV.str s]
def JL:List (List AV)->Option (List (List UInt8))
 | []=>some []
 | [.str s]::r=>(JL r).map (s :: ·)
 | _=>none
theorem NA:∀ l,JL (strs l)=some l
 | []=>rfl
 | s::r=>by
  have:=NA r;simp only[strs,Hj,JL]at this ⊢;rw[this];rfl
theorem Ql:∀{es:List (List AV)} {l:List (List UInt8)},JL es=some l->es=strs l
 | [],l,h=>by simp only[JL,AM]at h;subst h;rfl
 | e::r,l,h=>by
  unfold JL at h;split at h
  .rename_i heq;cases heq
  .rename_i s r' heq;cases heq;rw[D6]at h;obtain⟨l',h1,rfl⟩:=h;rw[Ql h1];rfl
  .cases h
theorem IC(l:List (List UInt8)):(strs l).length=l.length:=by simp[strs]
theorem Rs{l:List (List UInt8)}{i:Nat}{e:List AV}(h:(strs l)[i]? = some e):∃ s,l[i]? = some s/\e=[.str s]:=by
 simp only[strs,Fe,D6]at h;obtain⟨s,h1,h2⟩:=h;exact⟨s,h1,h2.symm⟩
theorem Pq{g:G}{h:AE}{fr:Fr}{w:World}(s:Sim g h fr w){id B c:Nat}{lk:Bool}{ss:List (List UInt8)}(hk:h[id]? = some (.arr 1 lk (strs ss)))(hp:g.pl id ss.length=some (B,c)) :
 Holds encStr w B 0 ss.toArray/\B<w.heap.size/\ss.length<=c:=by
 obtain⟨B',c',vs,T,fz,h1,h2,h3,h4,h5,h6,h7,h8,h9,h10⟩:=s.blk id _ hk;rw[IC]at h1 h4;rw[hp]at h1;simp only[AM,A1]at h1;obtain⟨rfl,rfl⟩:=h1;refine⟨fun j hj => ?_,s.lt _ _ _ _ hp,h4⟩;simp only[Mb]at hj;have hjv:j<vs.size:=by omega
 have he:(strs ss)[j]? = some [.str ss[j]]:=by simp[strs,hj]
 have hr:=h8 j _ he 0 _ vs[j] rfl (by simp[hjv]);have e0:ss.toArray[j]! = ss[j]:=by simp[hj]
 rw[DW,e0];constructor
 .rw[cell_of h2,FL hjv];generalize vs[j]=v at hr;cases hr;rfl
 .unfold World.frozen?;simp only[h2];have:=h5 j hjv;by_cases ha:fz.1<=j
  .simp[ha];omega
  .simp[ha]
theorem Pr{g:G}{h:AE}{fr:Fr}{w:World}(s:Sim g h fr w){id B c:Nat}{ss ss':List (List UInt8)}(hk:h[id]? = some (.arr 1 false (strs ss)))(hp:g.pl id ss.length=some (B,c))(hl:ss'.length=ss.length)(n:Nat)(os:Array Obj) :
 Sim g (h.set id (.arr 1 false (strs ss'))) fr (grow (putRow encStr (Sort.ahead w n) B 0 ss'.toArray) os):=by
 obtain⟨B',c',vs,T,fz,h1,h2,h3,h4,h5,h6,h7,h8,h9,h10⟩:=s.blk id _ hk;rw[IC]at h1 h4 h10;rw[hp]at h1;simp only[AM,A1]at h1;obtain⟨rfl,rfl⟩:=h1;have hB:B<w.heap.size:=s.lt _ _ _ _ hp;have hid:id<h.length:=(Ac.1 hk).1;have hheap:∀ b,b<w.heap.size->(grow (putRow encStr (Sort.ahead w n) B 0 ss'.toArray) os).heap[b]? = if B=b then w.heap[b]?.map (onCells (putCells encStr 0 ss'.toArray))else w.heap[b]? := by
  intro b hb;simp only[grow,putRow,mapBlock,Sort.ahead];rw[Ld (by simpa using hb),PT]
 refine s.upd id _ hid g rfl (fun _ _ _=>rfl) (Le.refl g) (by simp[grow]) (fun b hb hne => ?_) (fun b o u hm => ?_) (fun gen b c hp=> .inl ⟨gen,c,hp⟩) ?_ rfl rfl rfl
 .rw[hheap b hb,if_neg (fun e=>hne ss.length c (by rw[hp,e]))]
 .have hbB:B≠b:=fun e=>by
   have:=h9 o (fun hh=>by cases hh);rw[e,hm]at this;cases this
  have h0:=s.mem b o u hm;have hb:=s.Ls hm;unfold World.cell? at h0 ⊢;rw[hheap b hb,if_neg hbB];exact h0
 .refine⟨B,c,putCells encStr 0 ss'.toArray vs,T,fz,by rw[IC,hl];exact hp,?_,by simpa[putCells]using h3,by rw[IC,hl];exact h4,by simpa[putCells]using h5,fun i e he => ?_,fun i v hv => ?_,fun i e he k x v hx hv => ?_,fun o _=>h9 o (fun hh=>by cases hh),fun gen hgen=>h10 gen (by rw[IC,hl]at hgen;exact hgen)⟩
  .rw[hheap B hB,if_pos rfl,h2];rfl
  .obtain⟨t,_,rfl⟩:=Rs he;rfl
  .simp only[putCells,QP,D6]at hv;obtain⟨a,ha,rfl⟩:=hv;split
   .rfl
   .exact h7 i a ha
  .obtain⟨t,ht,rfl⟩:=Rs he;cases k with
   | succ k=>simp at hx
   | zero=>
    simp only[Gs,AM]at hx;subst hx;have hi:i<ss'.length:=(Ac.1 ht).1;simp only[putCells,QP,D6,Nat.mul_one,HL]at hv;obtain⟨a,ha,rfl⟩:=hv;rw[if_pos ⟨H7 _,by simpa using hi⟩];have:ss'.toArray[i - 0]! = t:=by
     rw[Nat.sub_zero];have:=(Ac.1 ht);simp[hi,this.2]
    rw[this];exact .str _ _
def Rt:List AV->AE->Option (CR×AE)
 | [.hs id gen 1 0 len _],h=>match h[id]? with
  | some (.arr 1 false es)=>match JL es with
   | some ss=>match Nat.beq es.length gen&&Nat.beq len gen&&Nat.blt 0 len&&Nat.blt len 4611686018427387904 with
    | true=>some (.ret (.tup []),h.set id (.arr 1 false (strs (ss.mergeSort fun x y=>decide (x<=y)))))
    | false=>none
   | none=>none
  | _=>none
 | [.AI],h=>some (.ret (.tup []),h)
 | _,_=>none
def KB:List AV->AE->Option (CR×AE)
 | [.hs id gen 1 0 len false],h=>match h[id]? with
  | some (.arr 1 false es)=>match JL es with
   | some ss=>match Nat.beq es.length gen&&Nat.beq len gen&&Nat.blt 0 len&&Nat.blt len 4611686018427387904 with
    | true=>some (.ret (.hs id gen 1 0 (Lib.compact ss).length false),h.set id (.arr 1 false (strs (Lib.compact ss++List.replicate (ss.length - (Lib.compact ss).length) []))))
    | false=>none
   | none=>none
  | _=>none
 | [.AI],h=>some (.ret .AI,h)
 | _,_=>none
def L3:List AV->AE->Option (CR×AE)
 | [.int .u64 n],h=>match decide (0<=n/\n<=18446744073709551615)with
  | true=>some (.ret (.int .i64 (Lib.bitLen n.toNat)),h)
  | false=>none
 | _,_=>none
theorem NR{g:G}{id gen sz off len:Nat}{ex:Bool}{x:Value}(hr:Rel g true (.hs id gen sz off len ex) x)(h0:0<len) :
 ∃ B c c',g.pl id gen=some (B,c)/\off+len<=c/\x=.slice (some ⟨B,off * sz,none⟩) len c'/\c'=(if ex then len else c - off)/\len<=c':=by
 cases hr with
 | hs _ _ _ _ _ _ B c o c' h h1 hc ho=>
  have hle:len<=c':=by rw[hc];split <;> omega
  have:=ho (by omega);subst this;exact⟨B,c,c',h,h1,rfl,hc,hle⟩
theorem Gf{g:G}{a:AV}{cargs:Array Value}(h:A3 g true [a] cargs):∃ x,cargs = #[x]/\Rel g true a x:=by
 obtain⟨h1,h2⟩:=h
 match cargs,h1 with
 | ⟨[x]⟩,_=>exact⟨x,rfl,h2 0 a x rfl rfl⟩
section
variable{P:Program}{ρ:Ren}
theorem bk(Ly:Lays.n190 P ρ){args:List AV}{h h':AE}{r:CR}(he:Rt args h=some (r,h')){g:G}{fr:Fr}{w:World}{cargs:Array Value}(sim:Sim g h fr w)(hr:A3 g true args cargs) :
 Calls P (ρ.f 190) cargs w fun e w'=>∃ g',Le g g'/\Sim g' h' fr w'/\J6 g' r e:=by
 unfold Rt at he;split at he
 .rename_i id gen len ex;split at he
  .rename_i es hk;split at he
   .rename_i ss hss;split at he
    .rename_i hc;simp only[Ba,Br,GB]at hc;simp only[AM,A1]at he;obtain⟨rfl,rfl⟩:=he;have hes:=Ql hss;subst hes;rw[IC]at hc;obtain⟨⟨⟨hg,hl⟩,h0⟩,hb⟩:=hc;subst hg;subst hl;obtain⟨x,rfl,hx⟩:=Gf hr;obtain⟨B,c,c',hp,h1,rfl,h2,h3⟩:=NR hx h0;obtain⟨hH,hB,hc⟩:=Pq sim hk hp;refine(Any.slices_Sort_string Ly B 0 c' ss w hH hB hb).mono fun e w' he => ?_
     obtain⟨rfl,n,os,rfl⟩:=he;exact⟨g,Le.refl g,Pr sim hk hp (by rw[List.length_mergeSort]) n os,.tup true [] #[] rfl (fun i c v h=>by simp at h)⟩
    .cases he
   .cases he
  .cases he
 .simp only[AM,A1]at he;obtain⟨rfl,rfl⟩:=he;obtain⟨x,rfl,hx⟩:=Gf hr;cases hx;refine(Any.slices_Sort_string_none Ly none 0 w).mono fun e w' he => ?_
  obtain⟨rfl,rfl⟩:=he;exact⟨g,Le.refl g,sim,.tup true [] #[] rfl (fun i c v h=>by simp at h)⟩
 .cases he
theorem KC{α:Type}[Inhabited α][DecidableEq α](zs:List α):(Lib.compact zs).length<=zs.length:=by
 unfold Lib.compact Lib.compactUpTo;simp only[FB];exact Cz (List.length_filter_le _ _) (by simp)
theorem Tv(Ly:Lays.n194 P ρ){args:List AV}{h h':AE}{r:CR}(he:KB args h=some (r,h')){g:G}{fr:Fr}{w:World}{cargs:Array Value}(sim:Sim g h fr w)(hr:A3 g true args cargs) :
 Calls P (ρ.f 194) cargs w fun e w'=>∃ g',Le g g'/\Sim g' h' fr w'/\J6 g' r e:=by
 unfold KB at he;split at he
 .rename_i id gen len;split at he
  .rename_i es hk;split at he
   .rename_i ss hss;split at he
    .rename_i hc;simp only[Ba,Br,GB]at hc;simp only[AM,A1]at he;obtain⟨rfl,rfl⟩:=he;have hes:=Ql hss;subst hes;rw[IC]at hc;obtain⟨⟨⟨hg,hl⟩,h0⟩,hb⟩:=hc;subst hg;subst hl;obtain⟨x,rfl,hx⟩:=Gf hr;obtain⟨B,c,c',hp,h1,rfl,h2,h3⟩:=NR hx h0;obtain⟨hH,hB,hc⟩:=Pq sim hk hp;refine(Any.slices_Compact_string Ly B 0 c' ss w hH (by omega) h3).mono fun e w' he => ?_
     obtain⟨rfl,q,rfl⟩:=he;have hcl:=KC ss;have ht:=Pr sim hk hp (ss':=Lib.compact ss++List.replicate (ss.length - (Lib.compact ss).length) []) (by simp;omega) q #[];rw[grow_empty]at ht;refine⟨g,Le.refl g,ht,?_⟩;have:=Rel.hs (g:=g) id ss.length 1 0 (Lib.compact ss).length false B c 0 c' hp (by omega) (by simpa using h2) (fun _=>rfl);exact this
    .cases he
   .cases he
  .cases he
 .simp only[AM,A1]at he;obtain⟨rfl,rfl⟩:=he;obtain⟨x,rfl,hx⟩:=Gf hr;cases hx;refine(Any.slices_Compact_string_empty Ly none 0 w).mono fun e w' he => ?_
  obtain⟨rfl,rfl⟩:=he;exact⟨g,Le.refl g,sim,.AI _⟩
 .cases he
theorem WT(Ly:Lays.n125 P ρ){args:List AV}{h h':AE}{r:CR}(he:L3 args h=some (r,h')){g:G}{fr:Fr}{w:World}{cargs:Array Value}(sim:Sim g h fr w)(hr:A3 g true args cargs) :
 Calls P (ρ.f 125) cargs w fun e w'=>∃ g',Le g g'/\Sim g' h' fr w'/\J6 g' r e:=by
 unfold L3 at he;split at he
 .split at he
  .rename_i hd;have hd:=of_decide_eq_true hd;simp only[AM,A1]at he;obtain⟨rfl,rfl⟩:=he;obtain⟨x,rfl,hx⟩:=Gf hr;cases hx;have hcall:=calls_of_every_depth fun D=>AnyS.bits_LenInS Ly D _ w hd.1 hd.2
   refine hcall.mono fun e w' he => ?_
   obtain⟨rfl,rfl⟩:=he;exact⟨g,Le.refl g,sim,.int _ _ _⟩
  .cases he
 .cases he
end
def DA(l:List Int):List (List AV):=l.map fun s=>[AV.int .i64 s]
def KD:List (List AV)->Option (List Int)
 | []=>some []
 | [.int .i64 s]::r=>(KD r).map (s :: ·)
 | _=>none
theorem KE:∀ l,KD (DA l)=some l
 | []=>rfl
 | s::r=>by
  have:=KE r;simp only[DA,Hj,KD]at this ⊢;rw[this];rfl
theorem NS:∀{es:List (List AV)} {l:List Int},KD es=some l->es=DA l
 | [],l,h=>by simp only[KD,AM]at h;subst h;rfl
 | e::r,l,h=>by
  unfold KD at h;split at h
  .rename_i heq;cases heq
  .rename_i s r' heq;cases heq;rw[D6]at h;obtain⟨l',h1,rfl⟩:=h;rw[NS h1];rfl
  .cases h
theorem D1(l:List Int):(DA l).length=l.length:=by simp[DA]
theorem Ru{l:List Int}{i:Nat}{e:List AV}(h:(DA l)[i]? = some e):∃ s,l[i]? = some s/\e=[.int .i64 s]:=by
 simp only[DA,Fe,D6]at h;obtain⟨s,h1,h2⟩:=h;exact⟨s,h1,h2.symm⟩
theorem Ps{g:G}{h:AE}{fr:Fr}{w:World}(s:Sim g h fr w){id B c:Nat}{lk:Bool}{ss:List Int}(hk:h[id]? = some (.arr 1 lk (DA ss)))(hp:g.pl id ss.length=some (B,c)) :
 Holds (Value.int .i64) w B 0 ss.toArray/\B<w.heap.size/\ss.length<=c:=by
 obtain⟨B',c',vs,T,fz,h1,h2,h3,h4,h5,h6,h7,h8,h9,h10⟩:=s.blk id _ hk;rw[D1]at h1 h4;rw[hp]at h1;simp only[AM,A1]at h1;obtain⟨rfl,rfl⟩:=h1;refine⟨fun j hj => ?_,s.lt _ _ _ _ hp,h4⟩;simp only[Mb]at hj;have hjv:j<vs.size:=by omega
 have he:(DA ss)[j]? = some [.int .i64 ss[j]]:=by simp[DA,hj]
 have hr:=h8 j _ he 0 _ vs[j] rfl (by simp[hjv]);have e0:ss.toArray[j]! = ss[j]:=by simp[hj]
 rw[DW,e0];constructor
 .rw[cell_of h2,FL hjv];generalize vs[j]=v at hr;cases hr;rfl
 .unfold World.frozen?;simp only[h2];have:=h5 j hjv;by_cases ha:fz.1<=j
  .simp[ha];omega
  .simp[ha]
theorem Pt{g:G}{h:AE}{fr:Fr}{w:World}(s:Sim g h fr w){id B c:Nat}{ss ss':List Int}(hk:h[id]? = some (.arr 1 false (DA ss)))(hp:g.pl id ss.length=some (B,c))(hl:ss'.length=ss.length)(n:Nat)(os:Array Obj) :
 Sim g (h.set id (.arr 1 false (DA ss'))) fr (grow (putRow (Value.int .i64) (Sort.ahead w n) B 0 ss'.toArray) os):=by
 obtain⟨B',c',vs,T,fz,h1,h2,h3,h4,h5,h6,h7,h8,h9,h10⟩:=s.blk id _ hk;rw[D1]at h1 h4 h10;rw[hp]at h1;simp only[AM,A1]at h1;obtain⟨rfl,rfl⟩:=h1;have hB:B<w.heap.size:=s.lt _ _ _ _ hp;have hid:id<h.length:=(Ac.1 hk).1;have hheap:∀ b,b<w.heap.size->(grow (putRow (Value.int .i64) (Sort.ahead w n) B 0 ss'.toArray) os).heap[b]? = if B=b then w.heap[b]?.map (onCells (putCells (Value.int .i64) 0 ss'.toArray))else w.heap[b]? := by
  intro b hb;simp only[grow,putRow,mapBlock,Sort.ahead];rw[Ld (by simpa using hb),PT]
 refine s.upd id _ hid g rfl (fun _ _ _=>rfl) (Le.refl g) (by simp[grow]) (fun b hb hne => ?_) (fun b o u hm => ?_) (fun gen b c hp=> .inl ⟨gen,c,hp⟩) ?_ rfl rfl rfl
 .rw[hheap b hb,if_neg (fun e=>hne ss.length c (by rw[hp,e]))]
 .have hbB:B≠b:=fun e=>by
   have:=h9 o (fun hh=>by cases hh);rw[e,hm]at this;cases this
  have h0:=s.mem b o u hm;have hb:=s.Ls hm;unfold World.cell? at h0 ⊢;rw[hheap b hb,if_neg hbB];exact h0
 .refine⟨B,c,putCells (Value.int .i64) 0 ss'.toArray vs,T,fz,by rw[D1,hl];exact hp,?_,by simpa[putCells]using h3,by rw[D1,hl];exact h4,by simpa[putCells]using h5,fun i e he => ?_,fun i v hv => ?_,fun i e he k x v hx hv => ?_,fun o _=>h9 o (fun hh=>by cases hh),fun gen hgen=>h10 gen (by rw[D1,hl]at hgen;exact hgen)⟩
  .rw[hheap B hB,if_pos rfl,h2];rfl
  .obtain⟨t,_,rfl⟩:=Ru he;rfl
  .simp only[putCells,QP,D6]at hv;obtain⟨a,ha,rfl⟩:=hv;split
   .rfl
   .exact h7 i a ha
  .obtain⟨t,ht,rfl⟩:=Ru he;cases k with
   | succ k=>simp at hx
   | zero=>
    simp only[Gs,AM]at hx;subst hx;have hi:i<ss'.length:=(Ac.1 ht).1;simp only[putCells,QP,D6,Nat.mul_one,HL]at hv;obtain⟨a,ha,rfl⟩:=hv;rw[if_pos ⟨H7 _,by simpa using hi⟩];have:ss'.toArray[i - 0]! = t:=by
     rw[Nat.sub_zero];have:=(Ac.1 ht);simp[hi,this.2]
    rw[this];exact .int _ _ _
def Rv:List AV->AE->Option (CR×AE)
 | [.hs id gen 1 0 len _],h=>match h[id]? with
  | some (.arr 1 false es)=>match KD es with
   | some ss=>match Nat.beq es.length gen&&Nat.beq len gen&&Nat.blt 0 len&&Nat.blt len 4611686018427387904 with
    | true=>some (.ret (.tup []),h.set id (.arr 1 false (DA (ss.mergeSort fun x y=>decide (x<=y)))))
    | false=>none
   | none=>none
  | _=>none
 | [.AI],h=>some (.ret (.tup []),h)
 | _,_=>none
def KG:List AV->AE->Option (CR×AE)
 | [.hs id gen 1 0 len false],h=>match h[id]? with
  | some (.arr 1 false es)=>match KD es with
   | some ss=>match Nat.beq es.length gen&&Nat.beq len gen&&Nat.blt 0 len&&Nat.blt len 4611686018427387904 with
    | true=>some (.ret (.hs id gen 1 0 (Lib.compact ss).length false),h.set id (.arr 1 false (DA (Lib.compact ss++List.replicate (ss.length - (Lib.compact ss).length) 0))))
    | false=>none
   | none=>none
  | _=>none
 | [.AI],h=>some (.ret .AI,h)
 | _,_=>none
section
variable{P:Program}{ρ:Ren}
theorem YN(Ly:Lays.n189 P ρ){args:List AV}{h h':AE}{r:CR}(he:Rv args h=some (r,h')){g:G}{fr:Fr}{w:World}{cargs:Array Value}(sim:Sim g h fr w)(hr:A3 g true args cargs) :
 Calls P (ρ.f 189) cargs w fun e w'=>∃ g',Le g g'/\Sim g' h' fr w'/\J6 g' r e:=by
 unfold Rv at he;split at he
 .rename_i id gen len ex;split at he
  .rename_i es hk;split at he
   .rename_i ss hss;split at he
    .rename_i hc;simp only[Ba,Br,GB]at hc;simp only[AM,A1]at he;obtain⟨rfl,rfl⟩:=he;have hes:=NS hss;subst hes;rw[D1]at hc;obtain⟨⟨⟨hg,hl⟩,h0⟩,hb⟩:=hc;subst hg;subst hl;obtain⟨x,rfl,hx⟩:=Gf hr;obtain⟨B,c,c',hp,h1,rfl,h2,h3⟩:=NR hx h0;obtain⟨hH,hB,hc⟩:=Ps sim hk hp;refine(Any.slices_Sort_int Ly B 0 c' ss w hH hB hb).mono fun e w' he => ?_
     obtain⟨rfl,n,os,rfl⟩:=he;exact⟨g,Le.refl g,Pt sim hk hp (by rw[List.length_mergeSort]) n os,.tup true [] #[] rfl (fun i c v h=>by simp at h)⟩
    .cases he
   .cases he
  .cases he
 .simp only[AM,A1]at he;obtain⟨rfl,rfl⟩:=he;obtain⟨x,rfl,hx⟩:=Gf hr;cases hx;refine(Any.slices_Sort_int_none Ly none 0 w).mono fun e w' he => ?_
  obtain⟨rfl,rfl⟩:=he;exact⟨g,Le.refl g,sim,.tup true [] #[] rfl (fun i c v h=>by simp at h)⟩
 .cases he
theorem Rx(Ly:Lays2.n20 P ρ){args:List AV}{h h':AE}{r:CR}(he:KG args h=some (r,h')){g:G}{fr:Fr}{w:World}{cargs:Array Value}(sim:Sim g h fr w)(hr:A3 g true args cargs) :
 Calls P (ρ.f 20) cargs w fun e w'=>∃ g',Le g g'/\Sim g' h' fr w'/\J6 g' r e:=by
 unfold KG at he;split at he
 .rename_i id gen len;split at he
  .rename_i es hk;split at he
   .rename_i ss hss;split at he
    .rename_i hc;simp only[Ba,Br,GB]at hc;simp only[AM,A1]at he;obtain⟨rfl,rfl⟩:=he;have hes:=NS hss;subst hes;rw[D1]at hc;obtain⟨⟨⟨hg,hl⟩,h0⟩,hb⟩:=hc;subst hg;subst hl;obtain⟨x,rfl,hx⟩:=Gf hr;obtain⟨B,c,c',hp,h1,rfl,h2,h3⟩:=NR hx h0;obtain⟨hH,hB,hc⟩:=Ps sim hk hp;refine(Any.slices_Compact_int Ly B 0 c' ss w hH (by omega) h3).mono fun e w' he => ?_
     obtain⟨rfl,q,rfl⟩:=he;have hcl:=KC ss;have ht:=Pt sim hk hp (ss':=Lib.compact ss++List.replicate (ss.length - (Lib.compact ss).length) 0) (by simp;omega) q #[];rw[grow_empty]at ht;refine⟨g,Le.refl g,ht,?_⟩;have:=Rel.hs (g:=g) id ss.length 1 0 (Lib.compact ss).length false B c 0 c' hp (by omega) (by simpa using h2) (fun _=>rfl);exact this
    .cases he
   .cases he
  .cases he
 .simp only[AM,A1]at he;obtain⟨rfl,rfl⟩:=he;obtain⟨x,rfl,hx⟩:=Gf hr;cases hx;refine(Any.slices_Compact_int_empty Ly none 0 w).mono fun e w' he => ?_
  obtain⟨rfl,rfl⟩:=he;exact⟨g,Le.refl g,sim,.AI _⟩
 .cases he
end
end Go.Am
namespace Go.Proofs.Am12
open Go Go.Am Tryz
def effX(f:FuncId):Option (List AV->AE->Option (CR×AE)):=match Nat.beq f 149 with
 | true=>some Rt
 | false=>match Nat.beq f 150 with
  | true=>some KB
  | false=>match Nat.beq f 184 with
   | true=>some L3
   | false=>match Nat.beq f 170 with
    | true=>some Rv
    | false=>match Nat.beq f 171 with
     | true=>some KG
     | false=>none
def bl:FuncId->Bool:=fun f=>Nat.beq f 101||(Nat.beq f 174||(Nat.beq f 197||(Nat.beq f 216||(Nat.beq f 238||(Nat.beq f 239||(Nat.beq f 265||(Nat.beq f 79||(Nat.beq f 82||(Nat.beq f 83||(Nat.beq f 116||(Nat.beq f 147||(Nat.beq f 182||(Nat.beq f 199||(Nat.beq f 63||(Nat.beq f 159||(Nat.beq f 189||(Nat.beq f 218||(Nat.beq f 246))))))))))))))))))
def YO:FuncId->Bool:=fun f=>Nat.beq f 76||(Nat.ble 123 f&&Nat.ble f 133 && !Nat.beq f 125 && !Nat.beq f 130)||Nat.beq f 167||Nat.beq f 172||Nat.beq f 28
noncomputable def MX:Par := { MW with eff:=effX,eqs:=fun t=>Nat.beq t 99,mode:=fun f=>match bl f with
 | true => {}
 | false=>match YO f with
  | true => { fresh:=true }
  | false=>MW.mode f }
theorem YP:Fits MX Tryz.prog:=⟨Rn.ty,Rn.fn,Rn.mixed,Rn.fld,Rn.elm,fun t h=>by
 have:=Br.1 h;subst this;exact⟨by kernel_rfl,by kernel_rfl⟩⟩
theorem primX:Dw MX Tryz.prog:=fun f p hp=>primW f p hp
theorem gi:Xw MX Tryz.prog:=by
 intro f e he args h r h' hr;change effX f=some e at he;unfold effX at he;split at he
 .rename_i hf;have:=Br.1 hf;subst this;simp only[AM]at he;subst he;exact⟨⟨f149,_,by kernel_rfl,rfl⟩,fun g fr w cargs sim ha=>bk Tryz.bg hr sim ha⟩
 .split at he
  .rename_i hf;have:=Br.1 hf;subst this;simp only[AM]at he;subst he;exact⟨⟨f150,_,by kernel_rfl,rfl⟩,fun g fr w cargs sim ha=>Tv Tryz.bh hr sim ha⟩
  .split at he
   .rename_i hf;have:=Br.1 hf;subst this;simp only[AM]at he;subst he;exact⟨⟨f184,_,by kernel_rfl,rfl⟩,fun g fr w cargs sim ha=>WT Tryz.bf hr sim ha⟩
   .split at he
    .rename_i hf;have:=Br.1 hf;subst this;simp only[AM]at he;subst he;exact⟨⟨f170,_,by kernel_rfl,rfl⟩,fun g fr w cargs sim ha=>YN Tryz.bj hr sim ha⟩
    .split at he
     .rename_i hf;have:=Br.1 hf;subst this;simp only[AM]at he;subst he;exact⟨⟨f171,_,by kernel_rfl,rfl⟩,fun g fr w cargs sim ha=>Rx Tryz.WS hr sim ha⟩
     .cases he
end Go.Proofs.Am12
namespace Go.Am
open Go
def CLe(C C':CH):Prop:=∀ f a h r,C f a h=some r->C' f a h=some r
section
variable{M:Par}{C C':CH}(hC:CLe C C')
include hC
theorem Ry:CLe (AH M C) (AH M C'):=by
 intro f a h r hr;unfold AH at hr ⊢;split at hr
 .exact hC _ _ _ _ hr
 .split at hr
  .cases hr
  .split at hr
   .cases hr
   .cases hc:C f _ []with
    | none=>rw[hc]at hr;cases hr
    | some x=>rw[hc]at hr;rw[hC _ _ _ _ hc];exact hr
theorem Pu{fid:Nat}{t:Tm}{op:Op}{h:AE}{r:OR}(hr:Av M fid C t op h=some r):Av M fid C' t op h=some r:=by
 cases op with
 | makeFunc f _ _=>cases f <;> exact hr
 | makeMap _ r0=>cases r0 <;> exact hr
 | call c=>
  obtain⟨callee,args,ats⟩:=c;cases callee with
  | value f=>
   simp only[Av,Eo]at hr ⊢;split at hr
   .split at hr
    .exact hr
    .rename_i g fs cap vs _ _ _ _;cases hd:AH M C g (fs++vs++cap) h with
     | none=>rw[hd]at hr;cases hr
     | some x=>rw[hd]at hr;rw[Ry hC _ _ _ _ hd];exact hr
   .cases hr
  | builtin b=>exact hr
  | invoke=>exact hr
 | _=>exact hr
theorem Ih{fid N:Nat}{ops:Array Oper}:∀{l:List Oper} {t:Tm} {h:AE} {ks:List Kd} {r:RO},Ap M fid N C ops l t h ks=some r->Ap M fid N C' ops l t h ks=some r
 | [],_,_,_,_,hr=>hr
 | o::l,t,h,ks,r,hr=>by
  simp only[Ap]at hr ⊢;split at hr
  .cases hr
  .split at hr
   .rename_i hp;exact Ih hr
   .cases hr
  .cases ho:Av M fid C t o.op h with
   | none=>rw[ho]at hr;cases hr
   | some x=>
    rw[ho]at hr;rw[Pu hC ho];cases x with
    | val v h'=>
     simp only at hr ⊢;split at hr
     .exact Ih hr
     .cases hr
    | pan v h'=>exact hr
theorem Qm{fid N id:Nat}{ops:Array Oper}{d:Bool}{s:St}{r:Ex×St}(hr:BZ M fid N C id ops d s=some r):BZ M fid N C' id ops d s=some r:=by
 unfold BZ at hr ⊢;cases ho:Ap M fid N C ops ops.toList s.1 s.2 []with
 | none=>rw[ho]at hr;cases hr
 | some x=>rw[ho]at hr;rw[Ih hC ho];exact hr
end
theorem Kl{f g:St->Option (Ex×St)}(hf:∀ s r,f s=some r->g s=some r):∀{n m:Nat} {s:St} {r:Ex×St},n<=m->iter n f s=some r->iter m g s=some r
 | 0,_,_,_,_,h=>by cases h
 | n+1,0,_,_,hle,_=>by omega
 | n+1,m+1,s,r,hle,h=>by
  simp only[iter]at h ⊢;cases hs:f s with
  | none=>rw[hs]at h;cases h
  | some x=>
   rw[hs]at h;rw[hf _ _ hs];obtain⟨e,s'⟩:=x;cases e with
   | nrm=>exact Kl hf (by omega) h
   | ext=>exact h
   | ret=>exact h
   | pan=>exact h
theorem Db{M:Par}{C C':CH}(hC:CLe C C'){fid N L L':Nat}(hL:L<=L'):∀{c:Code} {s:St} {r:Ex×St},codeF M fid N C L c s=some r->codeF M fid N C' L' c s=some r
 | .skip,_,_,h=>h
 | .region id ops d,s,r,h=>by simp only[codeF]at h ⊢;exact Qm hC h
 | .seq a b,s,r,h=>by
  simp only[codeF]at h ⊢;cases ha:codeF M fid N C L a s with
  | none=>rw[ha]at h;cases h
  | some x=>
   rw[ha]at h;rw[Db hC hL ha];obtain⟨e,s'⟩:=x;cases e with
   | nrm=>exact Db hC hL h
   | ext=>exact h
   | ret=>exact h
   | pan=>exact h
 | .cond c a b,s,r,h=>by
  simp only[codeF]at h ⊢;split at h
  .exact Db hC hL h
  .exact Db hC hL h
  .cases h
 | .block id c,s,r,h=>by
  simp only[codeF]at h ⊢;cases ha:codeF M fid N C L c s with
  | none=>rw[ha]at h;cases h
  | some x=>rw[ha]at h;rw[Db hC hL ha];exact h
 | .loop c,s,r,h=>by
  simp only[codeF]at h ⊢;exact Kl (fun s r h=>Db hC hL h) hL h
 | .exit _,_,_,h=>h
 | .ret,_,_,h=>h
 | .scope _,_,_,h=>by simp[codeF]at h
 | .rangeFunc ..,_,_,h=>by simp[codeF]at h
 | .label _,_,_,h=>by simp[codeF]at h
 | .goto _,_,_,h=>by simp[codeF]at h
 | .refuse _,_,_,h=>by simp[codeF]at h
theorem WU{M:Par}{C C':CH}(hC:CLe C C'){L L':Nat}(hL:L<=L'):CLe (NG M C L) (NG M C' L'):=by
 intro f a h r hr;unfold NG at hr ⊢;split at hr
 .cases hr
 .rename_i fn hfn;split at hr
  .cases hr
  .rename_i c hc;split at hr
   .rename_i hle;cases hx:codeF M f fn.ntmps C L c (Tm.init 0 a,h)with
    | none=>rw[hx]at hr;cases hr
    | some x=>rw[hx]at hr;rw[Db hC hL hx];exact hr
   .cases hr
theorem OI(M:Par):∀ n,CLe (ES M n) (ES M (n+1))
 | 0=>fun f a h r hr=>by cases hr
 | n+1=>fun f a h r hr=>by
  simp only[ES]at hr ⊢;split at hr
  .exact hr
  .exact WU (OI M n) (Nat.le_succ n) f a h r hr
theorem FA(M:Par){n m:Nat}(h:n<=m):CLe (ES M n) (ES M m):=by
 induction m with
 | zero=>rw[Mg.1 h];exact fun _ _ _ _ h=>h
 | succ m ih=>
  by_cases he:n=m+1
  .rw[he];exact fun _ _ _ _ h=>h
  .exact fun f a hh r hr=>OI M m f a hh r (ih (by omega) f a hh r hr)
end Go.Am
namespace Go.Am
open Go
open Classical in
noncomputable def lim{α β:Type}(F:Nat->α->Option β)(x:α):Option β:=if h:∃ r,∃ n,F n x=some r then some (Classical.choose h)else none
theorem Rz{α β:Type}{F:Nat->α->Option β}(hm:∀ n m x r,n<=m->F n x=some r->F m x=some r){x:α}{r:β}:lim F x=some r↔∃ n,F n x=some r:=by
 unfold lim;constructor
 .intro h;split at h
  .rename_i hx;simp only[AM]at h;rw[<- h];exact Classical.choose_spec hx
  .cases h
 .rintro⟨n,hn⟩;have hx:∃ r,∃ n,F n x=some r:=⟨r,n,hn⟩;rw[dif_pos hx];obtain⟨m,hm'⟩:=Classical.choose_spec hx;have h1:=hm _ (max n m) _ _ (Hi n m) hn;have h2:=hm _ (max n m) _ _ (H5 n m) hm';rw[h1]at h2;exact h2.symm
noncomputable def Pv(f:St->Option (Ex×St))(s:St):Option (Ex×St):=lim (fun n s=>iter n f s) s
theorem JM{f:St->Option (Ex×St)}{s:St}{r:Ex×St}:Pv f s=some r↔∃ n,iter n f s=some r:=
 Rz (F:=fun n s=>iter n f s) fun n m x r h hr=>Kl (fun _ _ h=>h) h hr
theorem Tw{f:St->Option (Ex×St)}{s s':St}{r:Ex×St}(h:f s=some (.nrm,s'))(hl:Pv f s'=some r):Pv f s=some r:=by
 obtain⟨n,hn⟩:=JM.1 hl;exact JM.2 ⟨n+1,by simp only[iter,h];exact hn⟩
theorem WX{f:St->Option (Ex×St)}{s s':St}{e:Ex}(h:f s=some (e,s'))(he:e≠.nrm):Pv f s=some (e,s'):=by
 refine JM.2 ⟨1,?_⟩;simp only[iter,h];cases e <;> first | rfl | exact absurd rfl he
noncomputable def AX(M:Par)(fid N:Nat)(C:CH):Code->St->Option (Ex×St)
 | .skip,s=>some (.nrm,s)
 | .region id ops d,s=>BZ M fid N C id ops d s
 | .seq a b,s=>match AX M fid N C a s with
  | some (.nrm,s')=>AX M fid N C b s'
  | r=>r
 | .cond c a b,s=>match ev s.1 c with
  | some (.bool true)=>AX M fid N C a s
  | some (.bool false)=>AX M fid N C b s
  | _=>none
 | .block id c,s=>match AX M fid N C c s with
  | some (.ext j,s')=>match Nat.beq j id with
   | true=>some (.nrm,s')
   | false=>some (.ext j,s')
  | r=>r
 | .loop c,s=>Pv (AX M fid N C c) s
 | .exit id,s=>some (.ext id,s)
 | .ret,s=>some (.ret,s)
 | _,_=>none
noncomputable def AG(M:Par):CH:=fun f a h=>lim (fun n (x:FuncId×List AV×AE)=>ES M n x.1 x.2.1 x.2.2) (f,a,h)
theorem G7{M:Par}{f:FuncId}{a:List AV}{h:AE}{r:CR×AE}:AG M f a h=some r↔∃ n,ES M n f a h=some r:=
 Rz (F:=fun n (x:FuncId×List AV×AE)=>ES M n x.1 x.2.1 x.2.2) fun n m x r h hr=>FA M h _ _ _ _ hr
noncomputable def AJ(M:Par)(f:FuncId)(args:List AV)(h:AE):Option (CR×AE):=
 match M.fn f with
 | none=>none
 | some fn=>match fn.body with
  | none=>none
  | some c=>match Nat.ble args.length fn.ntmps with
   | true=>finish M.ty fn (AX M f fn.ntmps (AG M) c (Tm.init 0 args,h))
   | false=>none
section
variable{M:Par}
theorem Tx{f:FuncId}{a:List AV}{h:AE}{r:CR×AE}(hr:AH M (AG M) f a h=some r):∃ n,AH M (ES M n) f a h=some r:=by
 unfold AH at hr;split at hr
 .rename_i hf;obtain⟨n,hn⟩:=G7.1 hr;exact⟨n,by unfold AH;rw[hf];exact hn⟩
 .rename_i hf;split at hr
  .cases hr
  .rename_i args' h' hs;split at hr
   .cases hr
   .rename_i hn;cases hc:AG M f args' []with
    | none=>rw[hc]at hr;cases hr
    | some x=>
     obtain⟨n,hn'⟩:=G7.1 hc;refine⟨n,?_⟩;rw[hc]at hr;unfold AH;simp only[hf,hs,hn,hn'];exact hr
theorem YQ{fid:Nat}{t:Tm}{op:Op}{h:AE}{r:OR}(hr:Av M fid (AG M) t op h=some r):∃ n,Av M fid (ES M n) t op h=some r:=by
 cases op with
 | makeFunc f _ _=>cases f <;> exact⟨0,hr⟩
 | makeMap _ r0=>cases r0 <;> exact⟨0,hr⟩
 | call c=>
  obtain⟨callee,args,ats⟩:=c;cases callee with
  | value f=>
   simp only[Av,Eo]at hr ⊢;split at hr
   .split at hr
    .exact⟨0,hr⟩
    .rename_i g fs cap vs _ _ _ _;cases hd:AH M (AG M) g (fs++vs++cap) h with
     | none=>rw[hd]at hr;cases hr
     | some x=>
      rw[hd]at hr;obtain⟨n,hn⟩:=Tx hd;exact⟨n,by rw[hn];exact hr⟩
   .cases hr
  | builtin b=>exact⟨0,hr⟩
  | invoke=>exact⟨0,hr⟩
 | _=>exact⟨0,hr⟩
theorem LO{fid N:Nat}{ops:Array Oper}:∀{l:List Oper} {t:Tm} {h:AE} {ks:List Kd} {r:RO},Ap M fid N (AG M) ops l t h ks=some r->∃ n,Ap M fid N (ES M n) ops l t h ks=some r
 | [],_,_,_,_,hr=>⟨0,hr⟩
 | o::l,t,h,ks,r,hr=>by
  simp only[Ap]at hr ⊢;split at hr
  .cases hr
  .split at hr
   .exact LO hr
   .cases hr
  .cases ho:Av M fid (AG M) t o.op h with
   | none=>rw[ho]at hr;cases hr
   | some x=>
    obtain⟨n,hn⟩:=YQ ho;rw[ho]at hr;cases x with
    | val v h'=>
     simp only at hr;split at hr
     .rename_i t' hp;obtain⟨m,hm⟩:=LO hr;refine⟨max n m,?_⟩;rw[Pu (FA M (Hi n m)) hn];simp only[hp];exact Ih (FA M (H5 n m)) hm
     .cases hr
    | pan v h'=>exact⟨n,by rw[hn];exact hr⟩
theorem G8{fid N:Nat}:∀{c:Code} {s:St} {r:Ex×St},AX M fid N (AG M) c s=some r->∃ n,codeF M fid N (ES M n) n c s=some r
 | .skip,_,_,h=>⟨0,h⟩
 | .region id ops d,s,r,h=>by
  simp only[AX]at h;simp only[codeF];unfold BZ at h ⊢;cases ho:Ap M fid N (AG M) ops ops.toList s.1 s.2 []with
  | none=>rw[ho]at h;cases h
  | some x=>
   obtain⟨n,hn⟩:=LO ho;rw[ho]at h;exact⟨n,by rw[hn];exact h⟩
 | .seq a b,s,r,h=>by
  simp only[AX]at h;simp only[codeF];cases ha:AX M fid N (AG M) a s with
  | none=>rw[ha]at h;cases h
  | some x=>
   obtain⟨n,hn⟩:=G8 ha;rw[ha]at h;obtain⟨e,s'⟩:=x;cases e with
   | nrm=>
    obtain⟨m,hm⟩:=G8 (c:=b) h;refine⟨max n m,?_⟩;rw[Db (FA M (Hi n m)) (Hi n m) hn];exact Db (FA M (H5 n m)) (H5 n m) hm
   | ext=>exact⟨n,by rw[hn];exact h⟩
   | ret=>exact⟨n,by rw[hn];exact h⟩
   | pan=>exact⟨n,by rw[hn];exact h⟩
 | .cond c a b,s,r,h=>by
  simp only[AX]at h;simp only[codeF];split at h
  .rename_i hc;obtain⟨n,hn⟩:=G8 h;exact⟨n,by rw[hc];exact hn⟩
  .rename_i hc;obtain⟨n,hn⟩:=G8 h;exact⟨n,by rw[hc];exact hn⟩
  .cases h
 | .block id c,s,r,h=>by
  simp only[AX]at h;simp only[codeF];cases ha:AX M fid N (AG M) c s with
  | none=>rw[ha]at h;cases h
  | some x=>
   obtain⟨n,hn⟩:=G8 ha;rw[ha]at h;exact⟨n,by rw[hn];exact h⟩
 | .loop c,s,r,h=>by
  simp only[AX]at h;simp only[codeF];obtain⟨k,hk⟩:=JM.1 h;have key:∀(k:Nat) (s:St),iter k (AX M fid N (AG M) c) s=some r->∃ n,iter n (codeF M fid N (ES M n) n c) s=some r:=by
   intro k;induction k with
   | zero=>intro s h;cases h
   | succ k ih=>
    intro s h;simp only[iter]at h;cases ha:AX M fid N (AG M) c s with
    | none=>rw[ha]at h;cases h
    | some x=>
     obtain⟨n,hn⟩:=G8 ha;rw[ha]at h;obtain⟨e,s'⟩:=x;cases e with
     | nrm=>
      obtain⟨m,hm⟩:=ih s' h;refine⟨max n m+1,?_⟩;simp only[iter];rw[Db (FA M (by omega)) (by omega:n<=max n m+1) hn];exact Kl (fun s r h=>Db (FA M (by omega)) (by omega:m<=max n m+1) h) (H5 n m) hm
     | ext=>exact⟨n+1,by simp only[iter];rw[Db (FA M (by omega)) (by omega:n<=n+1) hn];exact h⟩
     | ret=>exact⟨n+1,by simp only[iter];rw[Db (FA M (by omega)) (by omega:n<=n+1) hn];exact h⟩
     | pan=>exact⟨n+1,by simp only[iter];rw[Db (FA M (by omega)) (by omega:n<=n+1) hn];exact h⟩
  exact key k s hk
 | .exit _,_,_,h=>⟨0,h⟩
 | .ret,_,_,h=>⟨0,h⟩
 | .scope _,_,_,h=>by simp[AX]at h
 | .rangeFunc ..,_,_,h=>by simp[AX]at h
 | .label _,_,_,h=>by simp[AX]at h
 | .goto _,_,_,h=>by simp[AX]at h
 | .refuse _,_,_,h=>by simp[AX]at h
theorem I0{f:FuncId}{a:List AV}{h:AE}{r:CR×AE}(he:M.eff f=none)(hr:AJ M f a h=some r):AG M f a h=some r:=by
 unfold AJ at hr;split at hr
 .cases hr
 .rename_i fn hfn;split at hr
  .cases hr
  .rename_i c hc;split at hr
   .rename_i hle;cases hx:AX M f fn.ntmps (AG M) c (Tm.init 0 a,h)with
    | none=>rw[hx]at hr;cases hr
    | some x=>
     obtain⟨n,hn⟩:=G8 hx;rw[hx]at hr;refine G7.2 ⟨n+1,?_⟩;simp only[ES,he];unfold NG;simp only[hfn,hc,hle,hn];exact hr
   .cases hr
theorem Mm{f:FuncId}{a:List AV}{h:AE}{r:CR×AE}{e:List AV->AE->Option (CR×AE)}(he:M.eff f=some e)(hr:e a h=some r):AG M f a h=some r:=
 G7.2 ⟨1,by simp only[ES,he];exact hr⟩
end
def CP:Code->List Code
 | .seq a b=>CP a++CP b
 | .cond _ a b=>CP a++CP b
 | .block _ c=>CP c
 | .loop c=>c::CP c
 | _=>[]
def AL(fn:Func)(k:Nat):Code:=match fn.body with
 | some c=>(CP c).getD k .skip
 | none=> .skip
theorem KH{i n:Nat}(h:i<n):F0 (i:Int) n=some i:=by
 have h2:((i:Int)<(n:Int)):=by omega
 simp[F0,h]
theorem BU{n:Int}(h:0<=n)(h2:n<9223372036854775808):wr .i64 n=n:=by
 simp[wr,Ix,h,h2]
section
variable(M:Par)(fid N:Nat)(C:CH)
noncomputable def E5(c:Code)(s:St):Option (Ex×St):=Pv (AX M fid N C c) s
theorem Dc(s:St):AX M fid N C .skip s=some (.nrm,s):=rfl
theorem Bn(id:Nat)(ops:Array Oper)(d:Bool)(s:St):AX M fid N C (.region id ops d) s=BZ M fid N C id ops d s:=rfl
theorem Ec(a b:Code)(s:St):AX M fid N C (.seq a b) s=(match AX M fid N C a s with
 | some (.nrm,s')=>AX M fid N C b s'
 | r=>r):=rfl
theorem Dd(c:Operand)(a b:Code)(s:St):AX M fid N C (.cond c a b) s=(match ev s.1 c with
 | some (.bool true)=>AX M fid N C a s
 | some (.bool false)=>AX M fid N C b s
 | _=>none):=rfl
theorem CQ(id:Nat)(c:Code)(s:St):AX M fid N C (.block id c) s=(match AX M fid N C c s with
 | some (.ext j,s')=>(match Nat.beq j id with
  | true=>some (.nrm,s')
  | false=>some (.ext j,s'))
 | r=>r):=rfl
theorem Dx(c:Code)(s:St):AX M fid N C (.loop c) s=E5 M fid N C c s:=rfl
theorem Dy(id:Nat)(s:St):AX M fid N C (.exit id) s=some (.ext id,s):=rfl
theorem Ey(s:St):AX M fid N C .ret s=some (.ret,s):=rfl
variable{M fid N C}
theorem OJ{c:Code}{s s':St}{r:Ex×St}(h:AX M fid N C c s=some (.nrm,s'))(hl:E5 M fid N C c s'=some r):E5 M fid N C c s=some r:=Tw h hl
theorem Km{c:Code}{s s':St}{e:Ex}(h:AX M fid N C c s=some (e,s'))(he:e≠.nrm):E5 M fid N C c s=some (e,s'):=WX h he
end
end Go.Am
namespace Go.Am
open Go
def ld1(h:AE)(p:AV):Option AV:=(EK h p).bind List.head?
def Fo(n:Nat)(cs:List AV):Option AV:=match Nat.ble n cs.length with
 | true=>some (.agg (cs.take n))
 | false=>none
def ldN(n:Nat)(h:AE)(p:AV):Option AV:=(EK h p).bind (Fo n)
def faA(off:Nat)(p:AV):Option AV:=match p with
 | .ro cs=>some (.ro (cs.drop off))
 | .hp id o=>some (.hp id (o+off))
 | .ep id gen sz i k=>some (.ep id gen sz i (k+off))
 | _=>none
def stA(n:Nat)(h:AE)(p v:AV):Option AE:=
 match v.cells with
 | some cs=>
  match Nat.beq cs.length n with
  | true=>match p with
   | .hp id off=>match h[id]? with
    | some (.var false old)=>match Nat.ble (off+cs.length) old.length with
     | true=>some (h.set id (.var false (BA old off cs)))
     | false=>none
    | _=>none
   | .ep id gen sz' i k=>match h[id]? with
    | some (.arr sz false es)=>match Nat.beq es.length gen&&Nat.beq sz sz',es[i]? with
     | true,some e=>match Nat.ble (k+cs.length) e.length with
      | true=>some (h.set id (.arr sz false (es.set i (BA e k cs))))
      | false=>none
     | _,_=>none
    | _=>none
   | _=>none
  | false=>none
 | none=>none
def ixA(sz:Nat)(x ix:AV):Option AV:=
 match x,intOf ix with
 | .sl s _ es,some i=>match Nat.beq s sz&&true,F0 i es.length with
  | true,some j=>(es[j]?).map .ro
  | _,_=>none
 | .hs id gen s off len _,some i=>match Nat.beq s sz&&true,F0 i len with
  | true,some j=>some (.ep id gen s (off+j) 0)
  | _,_=>none
 | _,_=>none
def ixS(x ix:AV):Option AV:=
 match x,intOf ix with
 | .str s,some i=>match F0 i s.length with
  | some j=>(s[j]?).map fun b=> .int .u8 b.toNat
  | none=>none
 | _,_=>none
def Bi(x:AV)(h:AE):Option OR:=match x with
 | .AI=>some (.val (.int .i64 0) h)
 | .sl _ _ es=>some (.val (.int .i64 es.length) h)
 | .hs _ _ _ _ l _=>some (.val (.int .i64 l) h)
 | _=>none
def fp(x:AV)(h:AE):Option OR:=match x with
 | .str s=>some (.val (.int .i64 s.length) h)
 | _=>none
def fq(x:AV)(h:AE):Option OR:=match x with
 | .AI=>some (.val (.int .i64 0) h)
 | .sl _ true es=>some (.val (.int .i64 es.length) h)
 | .hs _ _ _ _ l true=>some (.val (.int .i64 l) h)
 | _=>none
def apX(sz byt:Nat)(s:AV)(xs:List (List AV))(n:Nat)(h:AE):Option (AV×AE):=
 match Bu sz s&&Nat.blt 0 sz&&Nat.ble ((n+xs.length) * byt) 17592186044416&&Nat.ble (n+xs.length) 17592186044416&&true with
 | false=>none
 | true=>match xs with
  | []=>match s with
   | .AI=>some (s,h)
   | .sl .. => some (s,h)
   | .hs .. => some (s,h)
   | _=>none
  | _::_=>match s with
   | .AI=>some (Aw h sz xs)
   | .sl _ true es=>some (Aw h sz (es++xs))
   | .hs id gen sz0 off len ex=>match h[id]? with
    | some (.arr sz' lk es)=>match Nat.beq es.length gen&&Nat.beq sz' sz0&&Nat.ble (off+len) es.length with
     | false=>none
     | true=>match ex with
      | true=>some (Aw h sz ((es.drop off).take len++xs))
      | false=>match Nat.beq off 0&&(Nat.beq len es.length||(!lk&&Nat.blt es.length (len+xs.length)))with
       | true=>some (.hs id (len+xs.length) sz0 0 (len+xs.length) false,h.set id (.arr sz0 lk (es.take len++xs)))
       | false=>match !lk&&Nat.ble (off+len+xs.length) es.length with
        | true=>some (.hs id gen sz0 off (len+xs.length) false,h.set id (.arr sz0 lk (es.take (off+len)++xs++es.drop (off+len+xs.length))))
        | false=>none
    | _=>none
   | _=>none
def apA(sz byt:Nat)(s x:AV)(h:AE):Option (AV×AE):=
 match(match x with
  | .str b=>match Nat.beq sz 1 with
   | true=>some (DZ b)
   | false=>none
  | _=>match Bu sz x with
   | true=>Ax h x
   | false=>none),Fs s with
 | some xs,some n=>apX sz byt s xs n h
 | _,_=>none
def Bo(cells:List AV):List (Nat×Nat×AV)->Option (List AV)
 | []=>some cells
 | (off,size,v)::rest=>match v.cells with
  | some cs=>match Nat.beq cs.length size&&Nat.ble (off+cs.length) cells.length with
   | true=>Bo (BA cells off cs) rest
   | false=>none
  | none=>none
def Tz(T:Ty)(t:TypeId)(i:Nat):Option (Nat×Nat):=match und T t with
 | some (.struct fs)=>(fs[i]?).map fun f=>(f.offset,siz T f.type)
 | _=>none
def isStr(d:Option TypeDesc):Bool:=match d with
 | some (.struct _)=>true
 | _=>false
theorem FE{T:Ty}{t:TypeId}{zero:List AV}(tr:List (Nat×Nat×Nat))(vs:List AV)(hz:EL T t=some zero)(hs:isStr (und T t)=true)(hp:tr.all (fun q=>match Tz T t q.1 with
 | some (a,b)=>Nat.beq a q.2.1&&Nat.beq b q.2.2
 | none=>false)=true):Cx T t (List.zipWith (fun q v=>(q.1,v)) tr vs)=(Bo zero (List.zipWith (fun q v=>(q.2.1,q.2.2,v)) tr vs)).map .agg:=by
 unfold Cx;cases hu:und T t with
 | none=>rw[hu]at hs;cases hs
 | some d=>
  cases d with
  | struct fs=>
   simp only[hz]
   congr 1
   have key:∀(tr:List (Nat×Nat×Nat)) (vs cells:List AV),tr.all (fun q=>match Tz T t q.1 with
    | some (a,b)=>Nat.beq a q.2.1&&Nat.beq b q.2.2
    | none=>false)=true->Jx (fun i=>(fs[i]?).map fun f=>(f.offset,siz T f.type)) cells (List.zipWith (fun q v=>(q.1,v)) tr vs)=Bo cells (List.zipWith (fun q v=>(q.2.1,q.2.2,v)) tr vs):=by
    intro tr;induction tr with
    | nil=>intro vs cells _;rfl
    | cons q tr ih=>
     intro vs cells hp;cases vs with
     | nil=>rfl
     | cons v vs=>
      rw[Hk,Ba]at hp;obtain⟨h1,h2⟩:=hp;have hpl:(fs[q.1]?).map (fun f=>(f.offset,siz T f.type))=some (q.2.1,q.2.2):=by
       unfold Tz at h1;rw[hu]at h1;simp only at h1;cases hm:(fs[q.1]?).map (fun f=>(f.offset,siz T f.type))with
       | none=>rw[hm]at h1;cases h1
       | some x=>
        rw[hm]at h1;obtain⟨a,b⟩:=x;simp only[Ba]at h1;rw[Nk h1.1,Nk h1.2]
      simp only[List.zipWith_cons_cons,Jx,Bo,hpl];cases v.cells with
      | none=>rfl
      | some cs=>
       show(match cs.length.beq q.2.2&&(q.2.1+cs.length).ble cells.length with
        | true=>Jx _ (BA cells q.2.1 cs) _
        | false=>none)=(match cs.length.beq q.2.2&&(q.2.1+cs.length).ble cells.length with
        | true=>Bo (BA cells q.2.1 cs) _
        | false=>none)
       cases cs.length.beq q.2.2&&(q.2.1+cs.length).ble cells.length with
       | true=>exact ih _ _ h2
       | false=>rfl
   exact key tr vs zero hp
  | _=>rw[hu]at hs;cases hs
def bsA(sz:Nat)(zero:List AV)(ml:Bool)(len:Nat)(parts:List (Nat×AV))(h:AE):Option (AV×AE):=
 match Ag sz (List.replicate len zero) parts with
 | some es=>match !ml&&es.all AF with
  | true=>some (.sl sz true es,h)
  | false=>some (Aw h sz es)
 | none=>none
def lkA(d:Option TypeDesc)(z m k:AV)(ok:Bool)(h:AE):Option AV:=
 match(match m with | .Gm=>some [] | .hm id=>(match h[id]? with | some (.mp es)=>some es | _=>none) | _=>none)with
 | none=>none
 | some es=>match(match E4 d k k with | some _=>HN d k es | none=>none)with
  | some r=>match ok with
   | true=>some (.tup [r.getD z,.bool r.isSome])
   | false=>some (r.getD z)
  | none=>none
def upA(d:Option TypeDesc)(m k v:AV)(h:AE):Option AE:=
 match m with
 | .hm id=>match h[id]? with
  | some (.mp es)=>match(match E4 d k k with | some _=>HN d k es | none=>none)with
   | some _=>some (h.set id (.mp (NF d k v es)))
   | none=>none
  | _=>none
 | _=>none
def slA(sz:Nat)(x:AV)(lo hi mx:Option AV):Option AV:=
 match mx.isSome&&hi.isNone with
 | true=>none
 | false=>match x with
  | .AI=>match C8 0 lo,C8 0 hi,C8 0 mx with
   | some 0,some 0,some 0=>some .AI
   | _,_,_=>none
  | .sl s ex es=>match Nat.beq s sz&&true,(C8 es.length hi).bind (Fq · es.length),C8 0 lo with
   | true,some b,some l=>match Fq l b,K0 b mx with
    | some a,true=>some (.sl s (mx.isSome||(ex&&Nat.beq b es.length)) ((es.drop a).take (b - a)))
    | _,_=>none
   | _,_,_=>none
  | .hs id gen s off len ex=>match Nat.beq s sz&&true,(C8 len hi).bind (Fq · len),C8 0 lo with
   | true,some b,some l=>match Fq l b,K0 b mx&&(mx.isSome || !ex||Nat.beq b len)with
    | some a,true=>some (.hs id gen s (off+a) (b - a) (mx.isSome||ex))
    | _,_=>none
   | _,_,_=>none
  | _=>none
def cvI(k:IntKind)(x:AV)(h:AE):Option (AV×AE):=match x with
 | .int _ n=>some (.int k (wr k n),h)
 | _=>none
def cvB(x:AV)(h:AE):Option (AV×AE):=match x with
 | .str s=>some (Aw h 1 (DZ s))
 | _=>none
theorem ET{T:Ty}{t:TypeId}{n:Nat}(h1:(T t).isSome=true)(h2:siz T t=n)(h:AE)(p v:AV):CG T h t p v=stA n h p v:=by
 unfold CG stA;unfold siz at h2;cases ht:T t with
 | none=>rw[ht]at h1;cases h1
 | some i=>
  rw[ht]at h2;subst h2;cases v.cells <;> rfl
theorem lk_of{T:Ty}{t kt e:TypeId}{z:AV}(hu:und T t=some (.map kt e))(hk:und T kt=some .string)(hz:zeroV T e=some z)(m k:AV)(ok:Bool)(h:AE):Hn T t m k ok h=lkA (some .string) z m k ok h:=by
 have e:∀(x:Option (List (AV×AV))),(match x with
  | none=>none
  | some es=>match(match E4 (some .string) k k with | some _=>HN (some .string) k es | none=>none),some z with
   | some r,some z=>(match ok with
    | true=>some (.tup [r.getD z,.bool r.isSome])
    | false=>some (r.getD z))
   | _,_=>none)=(match x with
  | none=>none
  | some es=>match(match E4 (some .string) k k with | some _=>HN (some .string) k es | none=>none)with
   | some r=>(match ok with
    | true=>some (AV.tup [r.getD z,.bool r.isSome])
    | false=>some (r.getD z))
   | none=>none):=by
  intro x;cases x with
  | none=>rfl
  | some es=>
   show(match(match E4 (some .string) k k with | some _=>HN (some .string) k es | none=>none),some z with
    | some r,some z=>(match ok with
     | true=>some (.tup [r.getD z,.bool r.isSome])
     | false=>some (r.getD z))
    | _,_=>none)=(match(match E4 (some .string) k k with | some _=>HN (some .string) k es | none=>none)with
    | some r=>(match ok with
     | true=>some (AV.tup [r.getD z,.bool r.isSome])
     | false=>some (r.getD z))
    | none=>none)
   cases E4 (some .string) k k with
   | none=>rfl
   | some b=>cases hf:HN (some .string) k es <;> simp only[hf]
 unfold Hn lkA;simp only[hu,hk,hz];exact e _
section
variable(h:AE)(cs:List AV)(c:AV)(n i off id gen sz k len:Nat)(ex:Bool)(es:List (List AV))
theorem F7:EK h (.ro cs)=some cs:=rfl
theorem F8:EK h (.hp id off)=(match h[id]? with
 | some (.var _ cs)=>some (cs.drop off)
 | _=>none):=rfl
theorem Fp:EK h (.ep id gen sz i k)=(match h[id]? with
 | some (.arr sz' _ es)=>(match Nat.beq es.length gen&&Nat.beq sz' sz with
  | true=>(es[i]?).map (·.drop k)
  | false=>none)
 | _=>none):=rfl
theorem Dz(p:AV):ld1 h p=(EK h p).bind List.head? := rfl
theorem D0(p:AV):ldN n h p=(EK h p).bind (Fo n):=rfl
theorem Ez:faA off (.ro cs)=some (.ro (cs.drop off)):=rfl
theorem E0:faA off (.hp id n)=some (.hp id (n+off)):=rfl
theorem E1:faA off (.ep id gen sz i k)=some (.ep id gen sz i (k+off)):=rfl
theorem Bb:Bi .AI h=some (.val (.int .i64 0) h):=rfl
theorem Cn:Bi (.sl sz ex es) h=some (.val (.int .i64 es.length) h):=rfl
theorem Co:Bi (.hs id gen sz off len ex) h=some (.val (.int .i64 len) h):=rfl
theorem Bx(s:List UInt8):fp (.str s) h=some (.val (.int .i64 s.length) h):=rfl
theorem ID(kd:IntKind)(hi:i<es.length):ixA sz (.sl sz ex es) (.int kd i)=some (.ro es[i]):=by
 simp[ixA,intOf,KH hi,Br.2 rfl,hi]
theorem ED(kd:IntKind)(hi:i<len):ixA sz (.hs id gen sz off len ex) (.int kd i)=some (.ep id gen sz (off+i) 0):=by
 simp[ixA,intOf,KH hi,Br.2 rfl]
theorem NT(kd:IntKind)(s:List UInt8)(hi:i<s.length):ixS (.str s) (.int kd i)=some (.int .u8 s[i].toNat):=by
 simp[ixS,intOf,KH hi,hi]
end
section
variable(cs:List AV)(k:IntKind)(n:Int)(id off gen sz i j len f:Nat)(ex b:Bool)(es:List (List AV))(s:List UInt8)(fs:List AV)(v:AV)
theorem Bz:AV.cells (.int k n)=some [.int k n]:=rfl
theorem Bc:AV.cells (.bool b)=some [.bool b]:=rfl
theorem B6:AV.cells (.str s)=some [.str s]:=rfl
theorem Bd:AV.cells .Ea=some [.Ea]:=rfl
theorem Cp:AV.cells (.ro cs)=some [.ro cs]:=rfl
theorem Cq:AV.cells (.hp id off)=some [.hp id off]:=rfl
theorem Cr:AV.cells (.ep id gen sz i j)=some [.ep id gen sz i j]:=rfl
theorem Be:AV.cells .AI=some [.AI]:=rfl
theorem Cs:AV.cells (.sl sz ex es)=some [.sl sz ex es]:=rfl
theorem Ct:AV.cells (.hs id gen sz off len ex)=some [.hs id gen sz off len ex]:=rfl
theorem Bf:AV.cells .Gm=some [.Gm]:=rfl
theorem Cu:AV.cells (.hm id)=some [.hm id]:=rfl
theorem Cv:AV.cells (.fn f fs cs)=some [.fn f fs cs]:=rfl
theorem Bg:AV.cells .Gn=some [.Gn]:=rfl
theorem B7:AV.cells (.agg cs)=some cs:=rfl
end
def Gp:Kd->Bool
 | .ch _=>false
 | _=>true
theorem B8{ops:Array Oper}{ks:List Kd}(h:ks.all Gp=true):Ip ops ks=true:=by
 unfold Ip;have h1:∀(ks:List Kd) (k:Nat),ks.all Gp=true->∀ p∈Cb k ks,Gp p.2=true:=by
  intro ks;induction ks with
  | nil=>intro k _ p hp;cases hp
  | cons a r ih=>
   intro k h p hp;simp only[Hk,Ba]at h;cases a with
   | st=>exact ih (k+1) h.2 p hp
   | ld id=>
    rcases CF.1 hp with rfl | hp
    .rfl
    .exact ih (k+1) h.2 p hp
   | ch m=>cases h.1
 have h2:∀(l:List (Nat×Kd)) (bef:Array Nat),(∀ p∈l,Gp p.2=true)->GP bef l=true:=by
  intro l;induction l with
  | nil=>intro _ _;rfl
  | cons a r ih=>
   intro bef h;obtain⟨i,x⟩:=a;simp only[GP,Ba,ER];refine⟨fun p hp => ?_,ih bef fun p hp=>h p (PW _ hp)⟩;have hx:=h (i,x) (List.mem_cons_self ..);have hy:=h p (PW _ hp);obtain⟨j,y⟩:=p;cases x <;> cases y <;> first | rfl | (simp[Gp]at hx;done) | (simp[Gp]at hy;done)
 exact h2 _ _ (h1 ks 0 h)
section
variable{M:Par}{fid N:Nat}{C:CH}{c:Code}
theorem AQ{β:Type}{n:Nat}(S:Nat->β->St)(I:Nat->β->Prop)(Q:Ex×St->Prop)
 (step:∀ i b,i<n->I i b->(∃ b',AX M fid N C c (S i b)=some (.nrm,S (i+1) b')/\I (i+1) b')\/(∃ e s,AX M fid N C c (S i b)=some (e,s)/\e≠.nrm/\Q (e,s)))
 (fin:∀ b,I n b->∃ e s,AX M fid N C c (S n b)=some (e,s)/\e≠.nrm/\Q (e,s)) (b:β) (h0:I 0 b):∃ e s,E5 M fid N C c (S 0 b)=some (e,s)/\Q (e,s):=by
 have key:∀ k i b,i+k=n->I i b->∃ e s,E5 M fid N C c (S i b)=some (e,s)/\Q (e,s):=by
  intro k;induction k with
  | zero=>
   intro i b hi hI;have:i=n:=(by omega);subst this;obtain⟨e,s,h1,h2,h3⟩:=fin b hI;exact⟨e,s,Km h1 h2,h3⟩
  | succ k ih=>
   intro i b hi hI;rcases step i b (by omega) hI with⟨b',h1,h2⟩ | ⟨e,s,h1,h2,h3⟩
   .obtain⟨e,s,h3,h4⟩:=ih (i+1) b' (by omega) h2;exact⟨e,s,OJ h1 h3,h4⟩
   .exact⟨e,s,Km h1 h2,h3⟩
 exact key n 0 b (by omega) h0
theorem Mn{β:Type}(S:β->St)(I:β->Prop)(m:β->Nat)(Q:Ex×St->Prop)
 (step:∀ b,I b->(∃ b',AX M fid N C c (S b)=some (.nrm,S b')/\I b'/\m b'<m b)\/(∃ e s,AX M fid N C c (S b)=some (e,s)/\e≠.nrm/\Q (e,s)))
 (b:β) (h0:I b):∃ e s,E5 M fid N C c (S b)=some (e,s)/\Q (e,s):=by
 have key:∀ k b,m b<=k->I b->∃ e s,E5 M fid N C c (S b)=some (e,s)/\Q (e,s):=by
  intro k;induction k with
  | zero=>
   intro b hm hI;rcases step b hI with⟨b',h1,h2,h3⟩ | ⟨e,s,h1,h2,h3⟩
   .omega
   .exact⟨e,s,Km h1 h2,h3⟩
  | succ k ih=>
   intro b hm hI;rcases step b hI with⟨b',h1,h2,h3⟩ | ⟨e,s,h1,h2,h3⟩
   .obtain⟨e,s,h4,h5⟩:=ih b' (by omega) h2;exact⟨e,s,OJ h1 h4,h5⟩
   .exact⟨e,s,Km h1 h2,h3⟩
 exact key (m b) b (Cd _) h0
end
def SlR{α:Type}(R:α->List AV->Prop)(sz:Nat)(l:List α)(v:AV):Prop:=
 (l=[]/\v=.AI)\/∃ ex es,v=.sl sz ex es/\es.length=l.length/\∀(i:Nat) a e,l[i]? = some a->es[i]? = some e->R a e
section
variable{α:Type}{R:α->List AV->Prop}{sz:Nat}{l:List α}{v:AV}
theorem SlR.len(hv:SlR R sz l v)(h:AE):Bi v h=some (.val (.int .i64 l.length) h):=by
 rcases hv with⟨rfl,rfl⟩ | ⟨ex,es,rfl,hl,_⟩
 .rfl
 .simp[Bi,hl]
theorem SlR.ix(hv:SlR R sz l v){i:Nat}(hi:i<l.length):∃ e,(∀ kd,ixA sz v (.int kd i)=some (.ro e))/\R l[i] e:=by
 rcases hv with⟨rfl,rfl⟩ | ⟨ex,es,rfl,hl,hr⟩
 .simp at hi
 .exact⟨es[i]'(by omega),fun kd=>ID _ _ _ _ kd (by omega),hr i _ _ (AO hi) (AO (by omega))⟩
theorem SlR.AA(hv:SlR R sz l v):v.AA=true:=by
 rcases hv with⟨rfl,rfl⟩ | ⟨ex,es,rfl,_,_⟩ <;> rfl
theorem SlR.cells(hv:SlR R sz l v):v.cells=some [v]:=by
 rcases hv with⟨rfl,rfl⟩ | ⟨ex,es,rfl,_,_⟩ <;> rfl
theorem SlR.rd(hv:SlR R sz l v)(h:AE):∃ es,Ax h v=some es/\Bu sz v=true/\es.length=l.length/\∀(i:Nat) a e,l[i]? = some a->es[i]? = some e->R a e:=by
 rcases hv with⟨rfl,rfl⟩ | ⟨ex,es,rfl,hl,hr⟩
 .exact⟨[],rfl,rfl,rfl,fun i a e h=>by simp at h⟩
 .exact⟨es,rfl,by simp[Bu,BF,Ay],hl,hr⟩
theorem SlR.mono{S:α->List AV->Prop}(hv:SlR R sz l v)(hs:∀ a e,R a e->S a e):SlR S sz l v:=by
 rcases hv with⟨rfl,rfl⟩ | ⟨ex,es,rfl,hl,hr⟩
 .exact .inl ⟨rfl,rfl⟩
 .exact .inr ⟨ex,es,rfl,hl,fun i a e h1 h2=>hs _ _ (hr i a e h1 h2)⟩
end
end Go.Am
namespace Go.Am
open Go
def Ak(sz base:Nat)(rest:AE)(a:AV)(es:List (List AV)):Prop:=
 (es=[]/\a=.AI)\/∃ j,es≠[]/\a=.hs (base+j) es.length sz 0 es.length false/\rest[j]? = some (.arr sz false es)
theorem Ak.nil(sz base:Nat)(rest:AE):Ak sz base rest .AI []:=.inl ⟨rfl,rfl⟩
theorem Ak.grow{sz base:Nat}{rest:AE}{a:AV}{es:List (List AV)}(h:Ak sz base rest a es)(l:AE):Ak sz base (rest++l) a es:=by
 rcases h with h | ⟨j,h0,h1,h2⟩
 .exact .inl h
 .exact .inr ⟨j,h0,h1,by rw[A9 (Ac.1 h2).1];exact h2⟩
theorem Ak.ft{sz byt:Nat}{P rest:AE}{a:AV}{es xs:List (List AV)}{x:AV}(h:Ak sz P.length rest a es)(hx:Ax (P++rest) x=some xs)(hs:Bu sz x=true)(hnx:∀ b,x≠.str b)(hxs:xs≠[])(h0:0<sz)(hb:byt<=1024)(hn:es.length+xs.length<16777216) :
 ∃ a' rest',apA sz byt a x (P++rest)=some (a',P++rest')/\Ak sz P.length rest' a' (es++xs):=by
 have hbb:(es.length+xs.length) * byt<=17592186044416:=Cz (Lm (Jg hn) hb) (by decide);have hap:∀ n,Fs a=some n->apA sz byt a x (P++rest)=apX sz byt a xs n (P++rest):=fun n hl=>by
  unfold apA;cases x with
  | str b=>exact absurd rfl (hnx b)
  | _=>first | simp only[hs,hx,hl] | (simp only[Ax]at hx;cases hx)
 obtain⟨y,ys,rfl⟩:∃ y ys,xs=y::ys:=by cases xs with | nil=>exact absurd rfl hxs | cons y ys=>exact⟨y,ys,rfl⟩
 rcases h with⟨rfl,rfl⟩ | ⟨j,hne,rfl,h2⟩
 .refine⟨.hs (P.length+rest.length) (ys.length+1) sz 0 (ys.length+1) false,rest++[.arr sz false (y::ys)],?_,.inr ⟨rest.length,by simp,by simp,by simp⟩⟩;rw[hap 0 rfl];have e1:Bu sz AV.AI=true:=rfl;have h2:=hbb;simp only[Jd,DW,DC]at h2 hn;simp[apX,e1,GB.2 h0,HR.2 h2,HR.2 (show ys.length+1<=17592186044416 by omega),Aw]
 .have hj:=(Ac.1 h2).1;have hg:(P++rest)[P.length+j]? = some (.arr sz false es):=by rw[En (by omega)];simpa using h2
  refine⟨.hs (P.length+j) (es.length+(ys.length+1)) sz 0 (es.length+(ys.length+1)) false,rest.set j (.arr sz false (es++y::ys)),?_,.inr ⟨j,by simp,by simp,by simp[hj]⟩⟩;rw[hap es.length rfl];have e1:Bu sz (.hs (P.length+j) es.length sz 0 es.length false)=true:=by simp[Bu,BF,Ay]
  simp only[DC]at hbb hn;simp[apX,e1,GB.2 h0,HR.2 hbb,HR.2 (show es.length+(ys.length+1)<=17592186044416 by omega),hg,Ay,A6,List.set_append_right]
theorem Ak.push{sz byt:Nat}{P rest:AE}{a:AV}{es:List (List AV)}(x:List AV)(ex:Bool)(h:Ak sz P.length rest a es)(h0:0<sz)(hb:byt<=1024)(hn:es.length<16777215) :
 ∃ a' rest',apA sz byt a (.sl sz ex [x]) (P++rest)=some (a',P++rest')/\Ak sz P.length rest' a' (es++[x]):=
 h.ft (xs:=[x]) rfl (by simp[Bu,BF,Ay]) (fun b hb=>by cases hb) (by simp) h0 hb (by simp;omega)
theorem Ak.AA{sz base:Nat}{rest:AE}{a:AV}{es:List (List AV)}(h:Ak sz base rest a es):a.AA=es.isEmpty:=by
 rcases h with⟨rfl,rfl⟩ | ⟨j,h0,rfl,h2⟩
 .rfl
 .cases es with
  | nil=>exact absurd rfl h0
  | cons=>rfl
theorem Ak.cells{sz base:Nat}{rest:AE}{a:AV}{es:List (List AV)}(h:Ak sz base rest a es):a.cells=some [a]:=by
 rcases h with⟨rfl,rfl⟩ | ⟨j,h0,rfl,h2⟩ <;> rfl
theorem Ak.snap{sz n:Nat}{P rest:AE}{a:AV}{es:List (List AV)}(h:Ak sz P.length rest a es)(hn:es.all AF=true)(h0:es≠[]) :
 Am.snap (n+1) a (P++rest)=some (.sl sz false es,P++(match a with | .hs id _ _ _ _ _=>rest.set (id - P.length) (.arr sz true es) | _=>rest)):=by
 rcases h with⟨rfl,rfl⟩ | ⟨j,_,rfl,h2⟩
 .exact absurd rfl h0
 .have hg:(P++rest)[P.length+j]? = some (.arr sz false es):=by rw[En (by omega)];simpa using h2
  have hb:(Nat.beq es.length es.length&&Nat.beq sz sz&&Nat.ble (0+es.length) es.length&&es.all AF)=true:=by simp[Ay,A6,hn]
  simp only[Am.snap,hg,hb];simp[List.set_append_right]
theorem Ak.rep{α:Type}{R:α->List AV->Prop}{l:List α}{es:List (List AV)}{sz:Nat}(hl:es.length=l.length)(hr:∀(i:Nat) a e,l[i]? = some a->es[i]? = some e->R a e)(ex:Bool):SlR R sz l (.sl sz ex es):=.inr ⟨ex,es,rfl,hl,hr⟩
theorem EU{α:Type}{R:α->List AV->Prop}{l:List α}{es:List (List AV)}(hl:es.length=l.length)(hr:∀(i:Nat) a e,l[i]? = some a->es[i]? = some e->R a e){a:α}{e:List AV}(h:R a e) :
 (es++[e]).length=(l++[a]).length/\∀(i:Nat) a' e',(l++[a])[i]? = some a'->(es++[e])[i]? = some e'->R a' e':=by
 refine⟨by simp[hl],fun i a' e' h1 h2 => ?_⟩;by_cases hi:i<l.length
 .rw[A9 hi]at h1;rw[A9 (by omega)]at h2;exact hr i a' e' h1 h2
 .rw[En (by omega)]at h1;rw[En (by omega)]at h2;rw[hl]at h2;cases hk:i - l.length with
  | zero=>rw[hk]at h1 h2;simp at h1 h2;exact h1 ▸ h2 ▸ h
  | succ k=>rw[hk]at h1;simp at h1
theorem BN{α:Type}{R:α->List AV->Prop}{l:List α}{es:List (List AV)}(hl:es.length=l.length)(hr:∀(i:Nat) a e,l[i]? = some a->es[i]? = some e->R a e)(hR:∀ a e,R a e->AF e=true):es.all AF=true:=by
 rw[ER];intro e he;obtain⟨i,hi,rfl⟩:=Gt he;exact hR _ _ (hr i l[i] es[i] (AO (by omega)) (AO hi))
def Gq:Kd->Nat
 | .st=>0
 | .ld _=>1
 | .ch _=>2
def FU:Nat->List Nat->List (Nat×Nat)
 | _,[]=>[]
 | k,0::r=>FU (k+1) r
 | k,x::r=>(k,x)::FU (k+1) r
def BO(ops:Array Oper):List (List Nat):=(Region.before ops).toList.map fun m=>(List.range ops.size).filter m.testBit
def CI(L:List (List Nat)):List (Nat×Nat)->Bool
 | []=>true
 | (i,x)::r=>(r.all fun p=>decide (x+p.2<3)||(L.getD p.1 []).elem i)&&CI L r
theorem C1{ops:Array Oper}{ks:List Kd}(h:CI (BO ops) (FU 0 (ks.map Gq))=true):Ip ops ks=true:=by
 unfold Ip;have h1:∀(ks:List Kd) (k:Nat),FU k (ks.map Gq)=(Cb k ks).map fun p=>(p.1,Gq p.2):=by
  intro ks;induction ks with
  | nil=>intro k;rfl
  | cons a r ih=>intro k;cases a <;> simp[FU,Cb,Gq,ih]
 rw[h1]at h;have hb:∀ i j,((BO ops).getD j []).elem i=true->((Region.before ops).getD j 0).testBit i=true:=by
  intro i j h;unfold BO at h;rw[Lh,Fe]at h;cases hm:(Region.before ops).toList[j]? with
  | none=>rw[hm]at h;simp at h
  | some m=>
   rw[hm]at h;simp only[FM,GG,List.elem_eq_mem,decide_eq_true_eq,Jt]at h;have hm':(Region.before ops)[j]? = some m:=(by simpa using hm);rw[HJ,hm'];exact h.2
 have h2:∀(l:List (Nat×Kd)),CI (BO ops) (l.map fun p=>(p.1,Gq p.2))=true->GP (Region.before ops) l=true:=by
  intro l;induction l with
  | nil=>intro _;rfl
  | cons a r ih=>
   intro h;obtain⟨i,x⟩:=a;simp only[Hj,CI,Ba,ER,E3]at h;simp only[GP,Ba,ER];refine⟨fun p hp => ?_,ih h.2⟩;have:=h.1 (p.1,Gq p.2) ⟨p,hp,rfl⟩;obtain⟨j,y⟩:=p;simp only[Mz,Iw,decide_eq_true_eq]at this ⊢;rcases this with h3 | h3
   .left
    cases x <;> cases y <;> first | rfl | (simp[Gq]at h3;done)
   .right;exact hb i j h3
 exact h2 _ h
def Az(id:Nat):Code->Option (Array Oper)
 | .region i ops _=>match Nat.beq i id with
  | true=>some ops
  | false=>none
 | .seq a b=>match Az id a with
  | some o=>some o
  | none=>Az id b
 | .cond _ a b=>match Az id a with
  | some o=>some o
  | none=>Az id b
 | .block _ c=>Az id c
 | .loop c=>Az id c
 | _=>none
def Ab(fn:Func)(id:Nat):Array Oper:=match fn.body with
 | some c=>(Az id c).getD #[]
 | none => #[]
end Go.Am
namespace Go.Am
open Go
def BC(K:Nat)(c:AV)(h:AE)(c':AV)(h':AE):Prop:=∀ n,snap (n+K) c h=some (c',h')
def BK(K:Nat)(cs:List AV)(h:AE)(cs':List AV)(h':AE):Prop:=∀ n,GY (n+K) cs h=some (cs',h')
def CS(K:Nat)(es:List (List AV))(h:AE)(es':List (List AV))(h':AE):Prop:=∀ n,GS (n+K) es h=some (es',h')
theorem BC.mono{K K':Nat}{c c':AV}{h h':AE}(s:BC K c h c' h')(hk:K<=K'):BC K' c h c' h':=fun n=>by
 have:=s (n+(K' - K));rwa [show n+(K' - K)+K=n+K' by omega]at this
theorem BK.mono{K K':Nat}{c c':List AV}{h h':AE}(s:BK K c h c' h')(hk:K<=K'):BK K' c h c' h':=fun n=>by
 have:=s (n+(K' - K));rwa [show n+(K' - K)+K=n+K' by omega]at this
theorem CS.mono{K K':Nat}{c c':List (List AV)}{h h':AE}(s:CS K c h c' h')(hk:K<=K'):CS K' c h c' h':=fun n=>by
 have:=s (n+(K' - K));rwa [show n+(K' - K)+K=n+K' by omega]at this
theorem BC.at{K:Nat}{c c':AV}{h h':AE}(s:BC K c h c' h')(hk:K<=C0):snap C0 c h=some (c',h'):=by
 have:=s (C0 - K);rwa [show C0 - K+K=C0 by omega]at this
theorem BK.nil(h:AE):BK 1 [] h [] h:=fun _=>rfl
theorem BK.cons{K L:Nat}{c c':AV}{cs cs':List AV}{h h1 h2:AE}(a:BC K c h c' h1)(b:BK L cs h1 cs' h2):BK (max K L+1) (c::cs) h (c'::cs') h2:=fun n=>by
 have e1:=a.mono (Hi K L) n;have e2:=b.mono (H5 K L) n;show GY ((n+max K L)+1) _ _=_;simp only[GY,e1,e2]
theorem CS.nil(h:AE):CS 1 [] h [] h:=fun _=>rfl
theorem CS.cons{K L:Nat}{c c':List AV}{cs cs':List (List AV)}{h h1 h2:AE}(a:BK K c h c' h1)(b:CS L cs h1 cs' h2):CS (max K L+1) (c::cs) h (c'::cs') h2:=fun n=>by
 have e1:=a.mono (Hi K L) n;have e2:=b.mono (H5 K L) n;show GS ((n+max K L)+1) _ _=_;simp only[GS,e1,e2]
def AV.flat:AV->Bool
 | .hp .. => false
 | .ep .. => false
 | .hs .. => false
 | .hm .. => false
 | .iface .. => false
 | .agg cs=>AF cs
 | .tup cs=>AF cs
 | .fn _ fs cs=>AF fs&&AF cs
 | _=>true
theorem BC.flat{c:AV}(hc:c.flat=true)(h:AE):BC 1 c h c h:=fun n=>by
 cases c <;> first | rfl | (simp only[AV.flat]at hc;simp only[snap,hc];done) | cases hc
theorem BC.agg{K:Nat}{cs cs':List AV}{h h':AE}(hn:AF cs=false)(s:BK K cs h cs' h'):BC (K+1) (.agg cs) h (.agg cs') h':=fun n=>by
 show snap ((n+K)+1) _ _=_;simp only[snap,hn,s n,FM]
theorem BC.tup{K:Nat}{cs cs':List AV}{h h':AE}(hn:AF cs=false)(s:BK K cs h cs' h'):BC (K+1) (.tup cs) h (.tup cs') h':=fun n=>by
 show snap ((n+K)+1) _ _=_;simp only[snap,hn,s n,FM]
theorem Ak.OK{sz:Nat}{P rest:AE}{a:AV}{es:List (List AV)}(h:Ak sz P.length rest a es)(hn:es.all AF=true) :
 ∃ v' rest',BC 1 a (P++rest) v' (P++rest')/\((es=[]/\v'=.AI)\/v'=.sl sz false es):=by
 by_cases h0:es=[]
 .rcases h with⟨_,rfl⟩ | ⟨_,h1,_⟩
  .exact⟨.AI,rest,fun n=>rfl,.inl ⟨h0,rfl⟩⟩
  .exact absurd h0 h1
 .exact⟨_,_,fun n=>h.snap hn h0,.inr rfl⟩
end Go.Am
namespace Go.Proofs.Am12
open Go Go.Am Tryz
set_option maxRecDepth 10000
@[simp] theorem fn_8:MX.fn 8=some f8:=by kernel_rfl
abbrev Ao(f:Nat):Prop:=MX.eff f=none
abbrev AP(f:Nat):Prop:=MX.prim f=none
abbrev FG(f:Nat):Prop:=MX.mutLit f=false
abbrev fnN(f:Nat)(x:Func):Prop:=MX.fn f=some x
abbrev KK(f r:Nat)(l:List Nat):Prop:=MX.keep f r=some l
abbrev MF(f:Nat):Prop:=MX.mode f={ fresh:=true,keepTop:=false }
@[simp] theorem eff_8:Ao 8:=rfl
@[simp] theorem mutS0:FG 8/\FG 15/\FG 31/\FG 38/\FG 49/\FG 50/\FG 51/\FG 52/\FG 68/\FG 75/\FG 79/\FG 80/\FG 81/\FG 88/\FG 98/\FG 100/\FG 101/\FG 119/\FG 125/\FG 126/\FG 129/\FG 130/\FG 133/\FG 142/\FG 144:=by and_intros <;> unfold FG <;> kernel_rfl
@[simp] theorem mutS25:FG 147/\FG 151/\FG 163/\FG 164/\FG 168/\FG 185/\FG 189/\FG 195/\FG 231/\FG 232/\FG 237/\FG 252/\FG 256/\FG 258/\FG 264:=by and_intros <;> unfold FG <;> kernel_rfl
@[simp] theorem kpS0:KK 8 0 [2,3]/\KK 8 1 [2,3,20]/\KK 8 3 [2,3,33]/\KK 8 4 [4]/\KK 8 5 [2,3,5,6]/\KK 8 6 [2,3,5,6,41]/\KK 8 7 [4]/\KK 8 8 [2,3,5,7,8]/\KK 8 9 [2,3,5,57]/\KK 8 11 [2,3,5,9]/\KK 8 12 [2,5,9]/\KK 8 13 [2,5,9,10]/\KK 8 14 [2,5,9,10,11]/\KK 8 15 [2,5,9,10,11,12]/\KK 8 16 [2,5,9,10,11,12,74]/\KK 8 17 [2,5,9,10,11,12]/\KK 8 18 [2,5,9,10,11,12,13,14]/\KK 8 19 [2,5,9,10,11,12,13,14,15,16]/\KK 8 20 [2,5,9,10,11,12,13,108]/\KK 8 22 [2,5,9,10,11,12,13,17,18]/\KK 8 23 [2,5,9,10,11,12,148]/\KK 8 25 [4]/\KK 11 0 [1]/\KK 11 1 [1,16]/\KK 11 2 [2]/\KK 11 3 [1,3]/\KK 11 4 [1,3,21]/\KK 11 5 [1,3]/\KK 11 6 [1,3,41]/\KK 11 7 [2]/\KK 11 8 [1,3,4]/\KK 11 9 [1,3,4,50]/\KK 11 10 [1,3,4]/\KK 11 11 [1,3,4,5]/\KK 11 12 [1,3,4,5,65]/\KK 11 13 [2]/\KK 11 14 [1,3,4,5,6]/\KK 11 15 [1,3,4,5,6,69]/\KK 11 16 [1,3,4,5,6]/\KK 11 17 [1,3,4,5,6,78]/\KK 11 18 [2]/\KK 11 19 [2]/\KK 12 0 [1]/\KK 12 1 [4]/\KK 12 2 [2]/\KK 13 0 [1]/\KK 13 1 [2]/\KK 15 0 [1,2]/\KK 15 1 [2]/\KK 21 0 [0,3]/\KK 21 1 [0,3,9]/\KK 21 2 [4]/\KK 21 3 [0,5,6]/\KK 21 4 [0,5,6,7]/\KK 21 5 [0,5,6,7,22]/\KK 21 6 [0,5,6,7]/\KK 21 7 [0,5,6,7]/\KK 21 8 [4]/\KK 25 0 [0,2,4,6]/\KK 25 1 [0,2,4,6,14]:=by and_intros <;> decide +kernel
@[simp] theorem kpS60:KK 25 2 [6]/\KK 25 3 [0,2,6,7]/\KK 25 4 [0,2,6,7,8]/\KK 25 5 [0,2,6,7,8,27]/\KK 25 6 [0,2,6,7,8]/\KK 25 7 [0,2,6,7,8]/\KK 25 8 [0,2,6,7,8,9]/\KK 25 9 [0,2,6,7,8,9,10]/\KK 25 10 [0,2,6,7,8,9,10,49]/\KK 25 11 [0,2,6,7,8,9,10]/\KK 25 12 [0,2,6,7,8,9,10,11]/\KK 25 13 [0,2,6,7,8,9,10,11,12]/\KK 25 14 [0,2,6,7,8,9,10,12]/\KK 25 15 [0,2,6,7,8,9,10]/\KK 25 16 [6]/\KK 26 0 [0,3]/\KK 26 1 [0,3,6]/\KK 26 2 [4]/\KK 26 3 [4]/\KK 27 0 [1]/\KK 27 1 [1,4,5]/\KK 27 2 [1,4,5,13]/\KK 27 4 [4,6]/\KK 27 5 [6]/\KK 27 6 [6,26]/\KK 27 7 [2,3]/\KK 27 8 [2,3]/\KK 31 0 [0]/\KK 31 1 [0,3]/\KK 31 2 [0,3,4]/\KK 31 3 [0,3,4,11]/\KK 31 4 [0,3,4]/\KK 31 5 [0,3,4,5]/\KK 31 6 [0,3,4,5,6]/\KK 31 7 [0,3,4,5,6,33]/\KK 31 8 [0,3,4,5,6]/\KK 31 9 [0,3,4,5,6,7]/\KK 31 10 [0,3,4,5,6]/\KK 31 11 [0,3,4]/\KK 31 12 [2]/\KK 32 0 [1]/\KK 32 1 [1,4]/\KK 32 2 [1,4,13]/\KK 32 3 [2,3]/\KK 32 4 [1,18]/\KK 32 5 [2,3]/\KK 32 6 [1,22]/\KK 32 7 [2,3]/\KK 32 8 [1,5]/\KK 32 9 [1,5,27]/\KK 32 10 [1,5]/\KK 32 11 [1,5,6]/\KK 32 12 [1,5,6,41]/\KK 32 13 [2,3]/\KK 32 14 [2,3]/\KK 34 0 [0,3]/\KK 34 1 [0,3,5]/\KK 34 2 [0,3,5,9]/\KK 34 3 [4]/\KK 34 4 [4]:=by and_intros <;> decide +kernel
@[simp] theorem kpS120:KK 35 0 [0,4,5]/\KK 35 1 [0,4,5,12]/\KK 35 2 [6]/\KK 35 3 [5,7]/\KK 35 4 [5,7,18]/\KK 35 5 [6]/\KK 35 6 [8]/\KK 35 7 [8,9]/\KK 35 8 [8,9,25]/\KK 35 9 [8,9]/\KK 35 10 [8,9,35]/\KK 35 11 [6]/\KK 35 12 [6]/\KK 38 0 [1]/\KK 38 1 [1,3]/\KK 38 2 [1,3,4]/\KK 38 3 [1,3,4,5]/\KK 38 4 [1,3,4,5,13]/\KK 38 5 [1,3,4,5]/\KK 38 6 [1,3,4,5]/\KK 38 7 [2]/\KK 43 0 [2,3]/\KK 43 1 [2,3,6]/\KK 43 2 [2,3,6,11]/\KK 43 3 [4,5]/\KK 43 4 [4,5]/\KK 49 0 [1,2]/\KK 49 1 [1,2,3]/\KK 49 2 [1,2,3]/\KK 49 3 [1,2,3,4]/\KK 49 4 [1,2,3,4,11]/\KK 49 5 [1,2,3,4]/\KK 49 6 [1,2,3,4]/\KK 49 7 [2]/\KK 50 0 [2,3]/\KK 50 1 [2,3,6,7]/\KK 50 2 [2,3,6,7]/\KK 50 3 [2,3,6,7,20]/\KK 50 4 [4,5]/\KK 50 5 [2,3,6,8]/\KK 50 6 [8,24]/\KK 50 7 [4,5]/\KK 50 8 [4,5]/\KK 51 0 [0]/\KK 51 1 [0,3]/\KK 51 2 [0,3,4]/\KK 51 3 [0,3,4,9]/\KK 51 4 [0,3,4]/\KK 51 5 [0,3,4,5]/\KK 51 6 [0,3,4,5]/\KK 51 7 [0,3,4,5]/\KK 51 8 [0,3,4]/\KK 51 9 [2]/\KK 52 0 [0,3]/\KK 52 1 [0,3,6]/\KK 52 2 [0,3,6,14]/\KK 52 3 [4,5]/\KK 52 4 [4,5]/\KK 59 0 [1]/\KK 59 1 [2]:=by and_intros <;> decide +kernel
@[simp] theorem kpS180:KK 62 0 [0,3]/\KK 62 1 [4]/\KK 63 0 [1]/\KK 63 1 [4,6]/\KK 63 2 [2,3]/\KK 64 0 [0,1]/\KK 64 1 [0,1,9]/\KK 64 2 [1,14,15]/\KK 64 3 [1,14,15,16]/\KK 64 4 [1,5,14,15]/\KK 64 5 [1,14,15,22]/\KK 64 6 [4]/\KK 64 7 [1,14,15]/\KK 64 8 [4]/\KK 64 9 [1,27,28,29]/\KK 64 10 [1,27,28,29,30]/\KK 64 11 [1,7,27,28,29]/\KK 64 12 [1,27,28,29,36]/\KK 64 13 [4]/\KK 64 14 [1,27,28,29]/\KK 64 15 [4]/\KK 66 0 [1]/\KK 66 1 [2]/\KK 67 0 [0]/\KK 67 1 [2]/\KK 68 0 [0,3]/\KK 68 1 [0,3,13]/\KK 68 2 [4]/\KK 68 3 [3,5]/\KK 68 4 [3,5,6]/\KK 68 5 [3,5,6,7]/\KK 68 6 [3,5,6,7,28]/\KK 68 7 [3,5,6,7]/\KK 68 8 [3,5,6,7,8]/\KK 68 9 [3,5,6,7,8,9]/\KK 68 10 [3,5,6,7,8,9,46]/\KK 68 11 [3,5,6,7,8,9]/\KK 68 12 [3,5,6,7,8,9,10]/\KK 68 13 [3,5,6,7,8,9]/\KK 68 14 [3,5,6,7]/\KK 68 15 [4]/\KK 69 0 [0,3]/\KK 69 1 [0,3,5]/\KK 69 2 [0,3,5,6]/\KK 69 3 [0,3,5,6,11]/\KK 69 4 [0,3,5,6]/\KK 69 5 [0,3,5,6]/\KK 69 6 [4]/\KK 72 0 [0,1]/\KK 72 1 [0,1,5]/\KK 72 2 [0,1,5,9]/\KK 72 3 [0,1,5]/\KK 72 4 [0,1,5,18]/\KK 72 5 [4]/\KK 72 6 [4]/\KK 74 0 [0,3]/\KK 74 1 [0,5,6]/\KK 74 2 [0,5,6,7]/\KK 74 3 [0,5,6,7,14]/\KK 74 4 [0,5,6,7]:=by and_intros <;> decide +kernel
@[simp] theorem kpS240:KK 74 5 [0,5,6,7]/\KK 74 6 [4]/\KK 75 0 [0,1]/\KK 75 1 [0,1,21]/\KK 75 2 [4]/\KK 75 3 [0,1,5]/\KK 75 4 [0,1,5,41]/\KK 75 5 [4]/\KK 75 6 [0,1,6]/\KK 75 7 [0,1,6,8]/\KK 75 8 [0,1,6,8,9]/\KK 75 9 [0,1,6,8,9,70]/\KK 75 10 [0,1,6,8,9,77,78,79]/\KK 75 11 [0,1,6,8,9,77,78,79,80]/\KK 75 12 [0,1,6,8,9,10,11,77,78,79]/\KK 75 13 [0,1,6,8,9,11,12,77,78,79]/\KK 75 14 [0,1,6,8,9,77,78,79]/\KK 75 15 [0,1,6,8,9,77,78,79]/\KK 75 16 [4]/\KK 75 17 [0,1,6,8,9,13]/\KK 75 18 [0,1,6,8,9,13,119,120,121]/\KK 75 19 [0,1,6,8,9,13,119,120,121,122]/\KK 75 20 [0,1,6,8,9,13,15,119,120,121]/\KK 75 21 [0,1,6,8,9,13,15,16,119,120,121]/\KK 75 22 [0,1,6,8,9,13,119,120,121]/\KK 75 23 [0,1,6,8,9,13,119,120,121]/\KK 75 24 [0,1,6,8,9,13,158]/\KK 75 25 [0,8,17]/\KK 75 26 [8]/\KK 75 27 [4]/\KK 76 0 [0]/\KK 76 1 [0,3]/\KK 76 2 [3,12]/\KK 76 3 [2]/\KK 76 4 [2]/\KK 79 0 [0,2,4]/\KK 79 1 [2,9,10]/\KK 79 2 [2,9,10]/\KK 79 3 [2,9,10,32]/\KK 79 4 [6,7,8]/\KK 79 5 [9,34,35,36]/\KK 79 6 [9,34,35,36,37]/\KK 79 7 [9,11,12,34,35,36]/\KK 79 8 [9,11,13,34,35,36]/\KK 79 9 [9,11,13,34,35,36,45]/\KK 79 10 [6,7,8]/\KK 79 11 [9,34,35,36]/\KK 79 12 [6,7,8]/\KK 80 0 [0]/\KK 80 1 [2]/\KK 81 0 [0]/\KK 81 1 [0,3]/\KK 81 2 [0,3,4]/\KK 81 3 [0,3,4,8]/\KK 81 4 [0,3,4]/\KK 81 5 [0,3,4]/\KK 81 6 [2]/\KK 82 0 [0,3]/\KK 82 1 [0,3,6]/\KK 82 2 [0,3,6,11]:=by and_intros <;> decide +kernel
@[simp] theorem kpS300:KK 82 3 [4,5]/\KK 82 4 [4,5]/\KK 83 0 [0,3]/\KK 83 1 [0,3,5]/\KK 83 2 [0,3,5,11]/\KK 83 3 [4]/\KK 83 4 [3,6]/\KK 83 5 [3,6,17]/\KK 83 6 [4]/\KK 83 7 [7]/\KK 83 8 [7]/\KK 83 9 [4]/\KK 84 0 [0]/\KK 84 1 [4]/\KK 84 2 [2]/\KK 85 0 [0,3]/\KK 85 1 [0,3,5]/\KK 85 2 [0,3,5,11]/\KK 85 3 [4]/\KK 85 4 [0,3,6]/\KK 85 5 [0,3,6,19]/\KK 85 6 [4]/\KK 85 7 [26]/\KK 85 8 [4]/\KK 85 9 [4]/\KK 86 0 [1]/\KK 86 1 [2]/\KK 87 0 [0,4,5]/\KK 87 1 [0,4,5,8]/\KK 87 2 [6]/\KK 87 3 [0,4,5,8,9]/\KK 87 4 [14]/\KK 87 5 [6]/\KK 87 6 [0,4,5,8,15]/\KK 87 7 [5,20]/\KK 87 8 [6]/\KK 87 9 [24]/\KK 87 10 [6]/\KK 87 11 [0,4,5,8,25]/\KK 87 12 [4,5,29]/\KK 87 13 [6]/\KK 87 14 [4,5,33]/\KK 87 15 [6]/\KK 87 16 [42]/\KK 87 17 [6]/\KK 87 18 [0,4,5,43]/\KK 87 19 [6]/\KK 87 20 [6]/\KK 88 0 [1]/\KK 88 1 [1,7]/\KK 88 2 [2]/\KK 88 3 [1,3]/\KK 88 4 [1,3,4]/\KK 88 5 [1,3,4,15]/\KK 88 6 [1,3,4]/\KK 88 7 [1,3,4]/\KK 88 8 [2]/\KK 89 0 [0,1]/\KK 89 1 [0,1,5]/\KK 89 2 [0,1,5,9]:=by and_intros <;> decide +kernel
@[simp] theorem kpS360:KK 89 3 [0,1,5]/\KK 89 4 [0,1,5,17]/\KK 89 5 [4]/\KK 89 6 [4]/\KK 91 0 [2,3]/\KK 91 1 [2,3,7]/\KK 91 2 [2,3,7,8]/\KK 91 3 [4]/\KK 91 4 [2,3,15]/\KK 91 5 [2,3,19,20]/\KK 91 6 [2,3,19,20,21]/\KK 91 7 [2,3,5,19,20]/\KK 91 8 [2,3,19,20,41]/\KK 91 9 [4]/\KK 91 10 [2,3,19,20]/\KK 91 11 [4]/\KK 91 12 [4]/\KK 93 0 [2,3]/\KK 93 1 [2,3,6]/\KK 93 2 [2,3,6,13]/\KK 93 3 [4]/\KK 93 4 [4]/\KK 95 0 [0,4,5]/\KK 95 1 [8]/\KK 95 2 [6]/\KK 97 0 [0]/\KK 97 1 [5,6,7]/\KK 97 2 [5,6,7,8]/\KK 97 3 [4,5,6,7]/\KK 97 4 [4,5,6,7,12]/\KK 97 5 [2]/\KK 97 6 [5,6,7]/\KK 97 7 [2]/\KK 98 0 [0]/\KK 98 1 [2]/\KK 99 0 [1,2,3,4]/\KK 99 1 [2,3,4,6,7]/\KK 99 2 [3,23]/\KK 99 3 [5]/\KK 99 4 []/\KK 99 5 [5]/\KK 100 0 [0,3]/\KK 100 1 [0,3,6]/\KK 100 2 [0,3,6,7]/\KK 100 3 [0,3,6,7,20]/\KK 100 4 [4,5]/\KK 100 5 [0,3,6,7,8,9]/\KK 100 6 [0,3,6,7,8,31]/\KK 100 7 [4,5]/\KK 100 8 [0,3,6,7,8,10]/\KK 100 9 [0,3,6,7,10,11]/\KK 100 10 [0,3,6,7,10,11,39]/\KK 100 11 [0,3,6,10]/\KK 100 12 [0,3,6,10,47]/\KK 100 13 [4,5]/\KK 100 14 [0,3,10,12]/\KK 100 15 [0,3,10,12,60]/\KK 100 16 [4,5]/\KK 100 17 [0,3,6]/\KK 101 0 [0]:=by and_intros <;> decide +kernel
@[simp] theorem kpS420:KK 101 1 [2]/\KK 102 0 [1,2]/\KK 102 1 [1,2,5]/\KK 102 2 [1,5,6]/\KK 102 3 [1,5,6,15]/\KK 102 4 [1,5,6,7]/\KK 102 5 [1,5,6,7]/\KK 102 6 [1,5,6,7]/\KK 102 7 [1,5,6,7,35]/\KK 102 8 [4]/\KK 102 9 [1,5,6,7,39,40,41]/\KK 102 10 [1,5,6,7,39,40,41,42]/\KK 102 11 [1,5,6,7,9,39,40,41]/\KK 102 12 [1,5,6,7,39,40,41]/\KK 102 13 [1,5,6,7,39,40,41]/\KK 102 14 [4]/\KK 103 0 [1]/\KK 103 1 [2]/\KK 104 0 [0,1,2]/\KK 104 1 [6]/\KK 110 0 [1,2,3]/\KK 110 1 [1,2,3]/\KK 110 2 [1,2,3,21]/\KK 110 3 [6]/\KK 110 4 [1,2,3,7]/\KK 110 5 [1,2,3,7,30]/\KK 110 6 [1,2,3,7]/\KK 110 7 [1,2,3,7]/\KK 110 8 [6]/\KK 111 0 [0,1]/\KK 111 1 [1,5]/\KK 111 2 [4]/\KK 111 3 [4]/\KK 114 0 [0,1]/\KK 114 1 [0,1,7,8]/\KK 114 2 [0,1,7,8,9]/\KK 114 3 [0,1,5,7,8]/\KK 114 4 [0,1,5,7,8,16]/\KK 114 5 [4]/\KK 114 6 [0,1,7,8]/\KK 114 7 [4]/\KK 115 0 [1,2]/\KK 115 1 [3]/\KK 116 0 [0]/\KK 116 1 [2]/\KK 117 0 [3,4,5]/\KK 117 1 [3,4,5,12]/\KK 117 2 [6]/\KK 117 3 [6]/\KK 118 0 [0,1]/\KK 118 1 [0,1,5]/\KK 118 2 [0,1,5,9]/\KK 118 3 [0,1,5]/\KK 118 4 [0,1,5,18]/\KK 118 5 [4]/\KK 118 6 [4]/\KK 119 0 [1,2,3,6]/\KK 119 1 [1,2,3,6,12]/\KK 119 2 [1,2,3,6,7]/\KK 119 3 [1,2,3,6,7,16]:=by and_intros <;> decide +kernel
@[simp] theorem kpS480:KK 119 4 [1,2,3,6,7]/\KK 119 5 [1,2,3,6,7,25]/\KK 119 6 [6]/\KK 119 7 [1,2,3,6,8]/\KK 119 8 [1,2,3,6,8]/\KK 119 9 [1,2,3,6,8,9]/\KK 119 10 [1,2,3,6,8,9,37]/\KK 119 11 [1,2,3,6,8,9]/\KK 119 12 [1,2,3,6,8,9]/\KK 119 13 [6]/\KK 121 0 [0,1]/\KK 121 1 [4]/\KK 122 0 [0,3]/\KK 122 1 [0,3,5]/\KK 122 2 [0,3,5,6]/\KK 122 3 [0,3,5,6,11]/\KK 122 4 [0,3,5,6]/\KK 122 5 [0,3,5,6]/\KK 122 6 [4]/\KK 123 0 [0,3]/\KK 123 1 [0,3,6]/\KK 123 2 [0,3,6,7]/\KK 123 3 [4]/\KK 123 4 [0,3,33]/\KK 123 5 [4]/\KK 123 6 [4]/\KK 124 0 [0,3]/\KK 124 1 [0,3,6]/\KK 124 2 [0,3,6,7]/\KK 124 3 [4]/\KK 124 4 [0,3,38]/\KK 124 5 [4]/\KK 124 6 [4]/\KK 125 0 [0,3]/\KK 125 1 [0,3]/\KK 125 2 [0]/\KK 125 3 [4]/\KK 126 0 [0,3]/\KK 126 1 [0,3,11]/\KK 126 2 [0,3,11,12]/\KK 126 3 [4,5]/\KK 126 4 [0,3,19]/\KK 126 5 [0,3,25]/\KK 126 6 [4,5]/\KK 126 7 [0,27,28,29]/\KK 126 8 [0,27,28,29,30]/\KK 126 9 [0,6,7,27,28,29]/\KK 126 10 [0,6,8,9,27,28,29]/\KK 126 11 [0,6,8,27,28,29,46]/\KK 126 12 [4,5]/\KK 126 13 [0,27,28,29]/\KK 126 14 [4,5]/\KK 127 0 [0,1]/\KK 127 1 [0,7,8,9]/\KK 127 2 [0,7,8,9,10]/\KK 127 3 [0,6,7,8,9]/\KK 127 4 [0,7,8,9]/\KK 127 5 [0,7,8,9]/\KK 127 6 [4]/\KK 128 0 [0,1,2]:=by and_intros <;> decide +kernel
@[simp] theorem kpS540:KK 128 1 [0,1,2,10]/\KK 128 2 [6]/\KK 128 3 [0,1,2,7]/\KK 128 4 [0,1,2,7]/\KK 128 5 [7]/\KK 128 6 [6]/\KK 129 0 [0,1]/\KK 129 1 [0,1,5]/\KK 129 2 [5,25,26,27]/\KK 129 3 [5,25,26,27,28]/\KK 129 4 [5,7,25,26,27]/\KK 129 5 [5,25,26,27]/\KK 129 6 [5,25,26,27]/\KK 129 7 [4]/\KK 130 0 [0,1,2]/\KK 130 1 [0,1,2,7]/\KK 130 2 [1,2,7,15,16,17]/\KK 130 3 [1,2,7,15,16,17,18]/\KK 130 4 [1,2,7,9,15,16,17]/\KK 130 5 [1,2,7,9,10,11,15,16,17]/\KK 130 6 [1,2,7,10,15,16,17,43]/\KK 130 7 [1,2,7,15,16,17]/\KK 130 8 [1,2,7,15,16,17]/\KK 130 9 [7]/\KK 130 10 [6]/\KK 131 0 [0,1]/\KK 131 1 [4]/\KK 132 0 [0]/\KK 132 1 [2]/\KK 133 0 [0,1]/\KK 133 1 [4]/\KK 142 0 [1,2]/\KK 142 1 [1,2,3]/\KK 142 2 [1,2,3]/\KK 142 3 [1,2,3,4]/\KK 142 4 [1,2,3,4,11]/\KK 142 5 [1,2,3,4]/\KK 142 6 [1,2,3,4]/\KK 142 7 [2]/\KK 143 0 [0,3]/\KK 143 1 [7]/\KK 143 2 [4]/\KK 144 0 [3,4,5]/\KK 144 1 [3,4,5,19]/\KK 144 2 [6]/\KK 144 3 [3,4,5,7]/\KK 144 4 [3,4,5,7,28]/\KK 144 5 [6]/\KK 144 6 [3,4,5,7,40]/\KK 144 7 [6]/\KK 144 8 [3,4,5,7,8]/\KK 144 9 [3,4,5,7,8,53,54,55]/\KK 144 10 [3,4,5,7,8,53,54,55,56]/\KK 144 11 [3,4,5,7,8,9,10,53,54,55]/\KK 144 12 [3,4,5,7,8,9,10,53,54,55]/\KK 144 13 [3,4,5,7,8,53,54,55]/\KK 144 14 [3,4,5,7,8,53,54,55]/\KK 144 15 [3,7,8,11]/\KK 144 16 [3,8,11,79,80,81]/\KK 144 17 [3,8,11,79,80,81,82]:=by and_intros <;> decide +kernel
@[simp] theorem kpS600:KK 144 18 [3,8,11,13,79,80,81]/\KK 144 19 [3,8,11,13,14,79,80,81]/\KK 144 20 [3,8,11,14,79,80,81,89,90,91]/\KK 144 21 [3,8,11,14,79,80,81,89,90,91,92]/\KK 144 22 [3,8,11,14,16,79,80,81,89,90,91]/\KK 144 23 [3,8,11,14,79,80,81,89,90,91]/\KK 144 24 [3,8,11,14,79,80,81,89,90,91]/\KK 144 25 [3,8,11,79,80,81]/\KK 144 26 [3,8,11,79,80,81]/\KK 144 27 [6]/\KK 145 0 [1,2]/\KK 145 1 [1,2,5]/\KK 145 2 [1,5,6]/\KK 145 3 [1,5,6,15]/\KK 145 4 [1,5,6,7]/\KK 145 5 [1,5,6,7]/\KK 145 6 [1,5,6,7]/\KK 145 7 [1,5,6,7,35]/\KK 145 8 [4]/\KK 145 9 [1,5,6,7,39,40,41]/\KK 145 10 [1,5,6,7,39,40,41,42]/\KK 145 11 [1,5,6,7,9,39,40,41]/\KK 145 12 [1,5,6,7,39,40,41]/\KK 145 13 [1,5,6,7,39,40,41]/\KK 145 14 [4]/\KK 146 0 [1]/\KK 146 1 [2]/\KK 147 0 [0,3]/\KK 147 1 [0,3,5]/\KK 147 2 [0,3,5,16]/\KK 147 3 [0,3,5,16,17]/\KK 147 4 [4]/\KK 147 5 [0,3,5,16,20]/\KK 147 6 [4]/\KK 147 7 [0,3,5,16,29]/\KK 147 8 [4]/\KK 147 9 [0,3,52]/\KK 147 10 [0,3,6]/\KK 147 11 [0,3,6,59]/\KK 147 12 [4]/\KK 147 13 [0,3,6,72]/\KK 147 14 [4]/\KK 147 15 [0,6,74,75,76]/\KK 147 16 [0,6,74,75,76,77]/\KK 147 17 [0,6,7,8,74,75,76]/\KK 147 18 [0,6,9,74,75,76]/\KK 147 19 [0,6,9,74,75,76,95]/\KK 147 20 [4]/\KK 147 21 [0,6,74,75,76]/\KK 147 22 [4]/\KK 147 23 [4]/\KK 148 0 [1]/\KK 148 1 [1,8]/\KK 148 2 [2]/\KK 148 3 [1,3]/\KK 148 4 [3,13,14,15]/\KK 148 5 [3,13,14,15,16]/\KK 148 6 [3,5,13,14,15]/\KK 148 7 [3,13,14,15]/\KK 148 8 [3,13,14,15]:=by and_intros <;> decide +kernel
@[simp] theorem kpS660:KK 148 9 [2]/\KK 151 0 [0]/\KK 151 1 [0,4]/\KK 151 2 [2]/\KK 151 3 [2]/\KK 152 0 [0]/\KK 152 1 [0,8]/\KK 152 2 [2,3]/\KK 152 3 [0,4]/\KK 152 4 [0,4,12]/\KK 152 5 [0,4]/\KK 152 6 [0,4,5]/\KK 152 7 [0,4,5,24]/\KK 152 8 [2,3]/\KK 152 9 [2,3]/\KK 153 0 [0,1,5]/\KK 153 1 [0,1,5,9]/\KK 153 2 [6]/\KK 153 3 [6]/\KK 154 0 [0,4,5,6]/\KK 154 1 [0,4,6,7]/\KK 154 2 [0,4,6,7,20]/\KK 154 3 [6,7]/\KK 154 4 [6]/\KK 154 5 [0,4,6,7,37]/\KK 154 6 [6,7]/\KK 154 7 [6]/\KK 154 8 [0,4,6,7,50]/\KK 154 9 [6,7]/\KK 154 10 [6]/\KK 154 11 [0,4,6,7,60]/\KK 154 12 [6,7]/\KK 154 13 [6]/\KK 154 14 [0,4,6,7,64]/\KK 154 15 [6]/\KK 154 16 [0,6,7,8]/\KK 154 17 [0,6,7,8,9]/\KK 154 18 [0,6,7,8,9,72]/\KK 154 19 [0,6,7,8,9]/\KK 154 20 [0,6,7,8,9,10]/\KK 154 21 [0,6,7,8,9,10,82]/\KK 154 22 [0,6,7,8,9,10]/\KK 154 23 [0,6,7,8,9,10,11]/\KK 154 24 [0,6,7,8,9,10]/\KK 154 25 [0,6,7,8,9,10,110]/\KK 154 26 [6]/\KK 154 27 [6]/\KK 155 0 [0]/\KK 155 1 [2]/\KK 156 0 [1,2,3]/\KK 156 1 [1,2,3]/\KK 156 2 [1,2,3,21]/\KK 156 3 [6]/\KK 156 4 [1,2,3,7]/\KK 156 5 [1,2,3,7,30]/\KK 156 6 [1,2,3,7]/\KK 156 7 [1,2,3,7]/\KK 156 8 [6]/\KK 157 0 [0]/\KK 157 1 [0,13]:=by and_intros <;> decide +kernel
@[simp] theorem kpS720:KK 157 2 [2]/\KK 157 3 [0,3]/\KK 157 4 [0,3,17]/\KK 157 5 [0,3]/\KK 157 6 [0,3,4]/\KK 157 7 [0,3,4,5]/\KK 157 8 [0,3,54]/\KK 157 9 [2]/\KK 157 10 [2]/\KK 158 0 [0,4,5]/\KK 158 1 [0,4,5,12]/\KK 158 2 [6]/\KK 158 3 [0,5,7]/\KK 158 4 [0,5,7,8]/\KK 158 5 [0,5,7,8,21]/\KK 158 6 [6]/\KK 158 7 [0,5,7,8,31]/\KK 158 8 [6]/\KK 158 9 [0,5,7,8,9]/\KK 158 10 [0,5,7,8,9,36]/\KK 158 11 [0,5,7,8,9]/\KK 158 12 [0,5,7,8,9,10]/\KK 158 13 [0,5,7,8,9,10,56]/\KK 158 14 [6]/\KK 158 15 [6]/\KK 159 0 [0,4,5]/\KK 159 1 [5,8,10]/\KK 159 2 [5,8,10,19]/\KK 159 3 [5,8,10]/\KK 159 4 [5,8,10,23]/\KK 159 5 [8,10]/\KK 159 6 [6,7]/\KK 160 0 [1,2,4]/\KK 160 1 [2,4,8,9,10]/\KK 160 2 [2,4,8,9,10,11]/\KK 160 3 [2,4,7,8,9,10]/\KK 160 4 [2,4,7,8,9,10,20]/\KK 160 5 [4,5]/\KK 160 6 [2,4,8,9,10]/\KK 160 7 [2,4,8,9,10]/\KK 160 8 [4,5]/\KK 161 0 [0,1]/\KK 161 1 [0,1,7,8]/\KK 161 2 [0,1,7,8,9]/\KK 161 3 [0,1,5,7,8]/\KK 161 4 [0,1,5,7,8,16]/\KK 161 5 [4]/\KK 161 6 [0,1,7,8]/\KK 161 7 [4]/\KK 162 0 [1,2]/\KK 162 1 [3]/\KK 163 0 [0]/\KK 163 1 [0,4]/\KK 163 2 [2]/\KK 163 3 [2]/\KK 164 0 [1,2,3,4]/\KK 164 1 [5]/\KK 166 0 [0,1]/\KK 166 1 [4]/\KK 167 0 [0,2,4]:=by and_intros <;> decide +kernel
@[simp] theorem kpS780:KK 167 1 [0,2,10,11,12]/\KK 167 2 [0,2,10,11,12,13]/\KK 167 3 [0,2,7,8,10,11,12]/\KK 167 4 [0,2,10,11,12,27]/\KK 167 5 [6]/\KK 167 6 [0,2,10,11,12]/\KK 167 7 [6]/\KK 168 0 [0]/\KK 168 1 [0,4]/\KK 168 3 [2]/\KK 169 0 [1,2]/\KK 169 1 [2,8,9,10]/\KK 169 2 [2,8,9,10,11]/\KK 169 3 [2,7,8,9,10]/\KK 169 4 [2,7,8,9,10,23]/\KK 169 5 [4,5]/\KK 169 6 [2,8,9,10]/\KK 169 7 [2,8,9,10]/\KK 169 8 [4,5]/\KK 172 0 [0]/\KK 172 1 [0,3]/\KK 172 2 [0,3,9,10,11]/\KK 172 3 [0,3,9,10,11,12]/\KK 172 4 [0,3,5,9,10,11]/\KK 172 5 [0,3,9,10,11]/\KK 172 6 [0,3,9,10,11,20]/\KK 172 8 [0,3,9,10,11]/\KK 172 9 [0,6]/\KK 172 10 [6,25,26,27]/\KK 172 11 [6,25,26,27,28]/\KK 172 12 [6,8,25,26,27]/\KK 172 13 [6,25,26,27]/\KK 172 14 [6,25,26,27]/\KK 172 15 [2]/\KK 174 0 [0,3,5]/\KK 174 1 [0,3,5,7]/\KK 174 2 [3,5,7,9]/\KK 174 3 [3,5,7,9,22]/\KK 174 4 [4,5,6]/\KK 174 5 [3,5,7,10]/\KK 174 6 [3,5,7,10,29]/\KK 174 7 [4,5,6]/\KK 174 8 [3,5,7,11]/\KK 174 9 [5,7,12,13]/\KK 174 10 [5,7,12,13,45]/\KK 174 11 [5,7,12,13]/\KK 174 12 [4,5,6]/\KK 175 0 [0,1]/\KK 175 1 [0,1,7,8]/\KK 175 2 [0,1,7,8,9]/\KK 175 3 [0,1,5,7,8]/\KK 175 4 [0,1,5,7,8,16]/\KK 175 5 [4]/\KK 175 6 [0,1,7,8]/\KK 175 7 [4]/\KK 176 0 [1,2]/\KK 176 1 [3]/\KK 177 0 [1,2]/\KK 177 1 [1,2,7]/\KK 177 2 [4]:=by and_intros <;> decide +kernel
@[simp] theorem kpS840:KK 177 3 [4]/\KK 178 0 [0,1,2,3]/\KK 178 1 [4]/\KK 179 0 [0,1,3,6]/\KK 179 1 [0,1,3,6,8]/\KK 179 2 []/\KK 179 3 [0,1,3,6,15]/\KK 179 4 []/\KK 180 0 [0]/\KK 180 1 [0,7,8,9]/\KK 180 2 [0,7,8,9,10]/\KK 180 3 [0,3,4,7,8,9]/\KK 180 4 [0,3,4,5,7,8,9]/\KK 180 5 [0,7,8,9,45]/\KK 180 6 [2]/\KK 180 7 [0,7,8,9]/\KK 180 8 [2]/\KK 181 0 [0,1,2]/\KK 181 1 [6]/\KK 182 0 [0,3]/\KK 182 1 [4]/\KK 185 0 [1,2]/\KK 185 1 [1,2,12]/\KK 185 2 [4]/\KK 185 3 [1,2,32]/\KK 185 4 [4]/\KK 185 5 [1,2,42]/\KK 185 6 [4]/\KK 185 7 [1,2,46]/\KK 185 8 [4]/\KK 185 9 [1,2,5]/\KK 185 10 [1,2,5,51]/\KK 185 11 [1,2,5]/\KK 185 12 [1,2,5,60]/\KK 185 13 [4]/\KK 185 14 [1,2,5,70]/\KK 185 15 [4]/\KK 185 16 [1,2,6]/\KK 185 17 [1,2,6,75]/\KK 185 18 [1,2,6]/\KK 185 19 [1,2,6,7]/\KK 185 20 [1,2,6,7,86]/\KK 185 21 [4]/\KK 185 22 [1,2,6,7,111]/\KK 185 23 [4]/\KK 185 24 [1,2,6,8]/\KK 185 25 [1,2,6,8,117]/\KK 185 26 [4]/\KK 185 27 [4]/\KK 186 0 [0,1,5]/\KK 186 1 [0,1,5,14]/\KK 186 2 [6]/\KK 186 3 [0,1,5,7]/\KK 186 4 [0,1,5,7,24]/\KK 186 5 [6]/\KK 186 6 [0,1,5,7,27]/\KK 186 7 [0,1,5,7,8]/\KK 186 8 [6]/\KK 186 9 [0,1,5,7,8,32]/\KK 186 10 [0,1,5,7]:=by and_intros <;> decide +kernel
@[simp] theorem kpS900:KK 186 11 [0,1,5,7,8,36]/\KK 186 12 [0,1,5,8,40]/\KK 186 13 [0,1,5,7]/\KK 186 14 [0,1,5,53]/\KK 186 15 [6]/\KK 186 16 [0,1,5,62]/\KK 186 17 [6]/\KK 186 18 [0,1,5,9]/\KK 186 19 [0,1,5,9,67]/\KK 186 20 [0,1,5,9]/\KK 186 21 [0,1,5,9,10]/\KK 186 22 [0,1,5,9,10,79]/\KK 186 23 [6]/\KK 186 24 [6]/\KK 187 0 [2,3]/\KK 187 1 [2,3,5]/\KK 187 2 [2,3,5,6]/\KK 187 3 [2,6]/\KK 187 4 [4]/\KK 188 0 [1]/\KK 188 1 [2]/\KK 189 0 [0,3]/\KK 189 1 [0,3,11]/\KK 189 2 [4]/\KK 189 3 [0,3,5]/\KK 189 4 [0,3,5,39]/\KK 189 5 [4]/\KK 189 6 [3,6]/\KK 189 7 [3,6,7]/\KK 189 8 [3,6,7,62]/\KK 189 9 [4]/\KK 189 10 [9]/\KK 189 11 [4]/\KK 190 0 [0,1]/\KK 190 1 [0,1,7,8]/\KK 190 2 [0,1,7,8,9]/\KK 190 3 [0,1,5,7,8]/\KK 190 4 [0,1,5,7,8,16]/\KK 190 5 [4]/\KK 190 6 [0,1,7,8]/\KK 190 7 [4]/\KK 192 0 [0,1]/\KK 192 1 [0,1,6]/\KK 192 3 [0,1]/\KK 192 4 [0,1,16]/\KK 192 5 [0]/\KK 192 6 [4]/\KK 193 0 [1]/\KK 193 1 [1,8]/\KK 193 2 [2,3]/\KK 193 3 [1,4,5]/\KK 193 4 [2,3]/\KK 194 0 [2,3]/\KK 194 1 [2,3,5]/\KK 194 2 [2,3,5,9]/\KK 194 3 [4]/\KK 194 4 [4]/\KK 195 0 [2,3,4,5]/\KK 195 1 [2,3,4,5,10]/\KK 195 2 [2,3,4,5,10,23]:=by and_intros <;> decide +kernel
@[simp] theorem kpS960:KK 195 3 [8,9]/\KK 195 4 [2,3,4,5]/\KK 195 5 [2,3,4,5,11]/\KK 195 6 [2,3,4,5,11,41]/\KK 195 7 [8,9]/\KK 195 8 [2,3,4,5,11,44]/\KK 195 9 [11,12]/\KK 195 10 [8,9]/\KK 195 11 [2,3,4,5,11,65]/\KK 195 12 [8,9]/\KK 195 13 [2,3,4,13]/\KK 195 14 [2,3,4,13,76,77]/\KK 195 15 [2,3,4,13,76,77,78]/\KK 195 16 [2,3,4,13,14,76,77]/\KK 195 17 [2,3,4,13,15,76,77]/\KK 195 18 [2,3,4,13,15,76,77,89,90,91]/\KK 195 19 [2,3,4,13,15,76,77,89,90,91,92]/\KK 195 20 [2,3,4,13,15,17,76,77,89,90,91]/\KK 195 21 [2,3,4,13,15,18,19,76,77,89,90,91]/\KK 195 22 [2,3,4,13,15,18,19,76,77,89,90,91,106]/\KK 195 23 [8,9]/\KK 195 24 [2,3,4,13,15,76,77,89,90,91]/\KK 195 25 [2,3,4,13,15,76,77,89,90,91]/\KK 195 26 [2,3,4,13,76,77]/\KK 195 27 [8,9]/\KK 196 0 [0,1,2]/\KK 196 1 [6]/\KK 197 0 [0]/\KK 197 1 [0,4]/\KK 197 2 [2]/\KK 197 3 [2]/\KK 198 0 [0]/\KK 198 1 [1]/\KK 199 0 [0,1]/\KK 199 1 [0,1,7,8]/\KK 199 2 [0,1,7,8,9]/\KK 199 3 [0,1,5,7,8]/\KK 199 4 [0,1,5,7,8,16]/\KK 199 5 [4]/\KK 199 6 [0,1,7,8]/\KK 199 7 [4]/\KK 200 0 [1,2]/\KK 200 1 [3]/\KK 212 0 [0,1]/\KK 212 1 [0,1,5]/\KK 212 2 [0,1,5,10]/\KK 212 3 [0,1,5]/\KK 212 4 [0,1,5,6]/\KK 212 5 [0,1,5,6,20]/\KK 212 6 [0,1,5,6]/\KK 212 7 [0,1,5,6,33]/\KK 212 8 [4]/\KK 212 9 [4]/\KK 213 0 [2,3,4]/\KK 213 1 [2,3,4,14]/\KK 213 2 [6]/\KK 213 3 [2,3,4,7]/\KK 213 4 [2,3,4,7,19]/\KK 213 5 [2,3,4,7]/\KK 213 6 [2,3,4,7,8]:=by and_intros <;> decide +kernel
@[simp] theorem kpS1020:KK 213 7 [2,3,4,7,8,30]/\KK 213 8 [6]/\KK 213 9 [2,3,4,7,8,9]/\KK 213 10 [2,3,4,7,8,9,33]/\KK 213 11 [2,3,4,7,8,9]/\KK 213 12 [2,3,4,7,8,9,44]/\KK 213 13 [6]/\KK 213 14 [2,3,4,7,10]/\KK 213 15 [2,3,4,7,10,52]/\KK 213 16 [6]/\KK 213 17 [6]/\KK 214 0 [1,2,3,4,5]/\KK 214 1 [1,2,3,4,5]/\KK 214 2 [1,3,4,5,17]/\KK 214 3 [7]/\KK 214 4 [1,4,20,21,22]/\KK 214 5 [1,4,20,21,22,23]/\KK 214 6 [1,4,9,20,21,22]/\KK 214 7 [1,4,20,21,22,31]/\KK 214 8 [7]/\KK 214 9 [1,4,20,21,22]/\KK 214 10 [7]/\KK 215 0 [0,1]/\KK 215 1 [1,5]/\KK 215 2 [4]/\KK 215 3 [4]/\KK 216 0 [0]/\KK 216 1 [2]/\KK 217 0 [0]/\KK 217 1 [5,6,7]/\KK 217 2 [5,6,7,8]/\KK 217 3 [4,5,6,7]/\KK 217 4 [4,5,6,7,12]/\KK 217 5 [2]/\KK 217 6 [5,6,7]/\KK 217 7 [2]/\KK 218 0 [0,3]/\KK 218 1 [4]/\KK 219 0 [0,1]/\KK 219 1 [1,9,10,11]/\KK 219 2 [1,9,10,11,12]/\KK 219 3 [1,6,7,9,10,11]/\KK 219 4 [1,6,8,9,10,11]/\KK 219 5 [1,6,8,9,10,11,21]/\KK 219 6 [4,5]/\KK 219 7 [1,9,10,11]/\KK 219 8 [4,5]/\KK 220 0 [0,2,4]/\KK 220 1 [5]/\KK 230 0 [0,1]/\KK 230 1 [1,9,10,11]/\KK 230 2 [1,9,10,11,12]/\KK 230 3 [1,6,7,9,10,11]/\KK 230 4 [1,6,8,9,10,11]/\KK 230 5 [1,6,8,9,10,11,21]/\KK 230 6 [4,5]/\KK 230 7 [1,9,10,11]/\KK 230 8 [4,5]/\KK 231 0 [0,2,3,4,6]/\KK 231 1 [3,4,6,8]:=by and_intros <;> decide +kernel
@[simp] theorem kpS1080:KK 231 2 [4,6,8]/\KK 231 3 [4,8,27,28,29]/\KK 231 4 [4,8,27,28,29,30]/\KK 231 5 [4,8,10,27,28,29]/\KK 231 6 [4,8,27,28,29]/\KK 231 7 [4,8,27,28,29]/\KK 231 8 [7]/\KK 232 0 [2,3,4,5]/\KK 232 1 [3,4,5,9]/\KK 232 2 [3,4,5,9,38]/\KK 232 3 [8]/\KK 232 4 [3,4,5,11]/\KK 232 5 [3,4,5,11,48]/\KK 232 6 [8]/\KK 232 7 [3,4,5]/\KK 232 8 [4,5,12]/\KK 232 9 [9]/\KK 232 10 [8]/\KK 234 0 [2,3]/\KK 234 1 [2,3,5]/\KK 234 2 [2,3,5,6]/\KK 234 3 [2,6]/\KK 234 4 [4]/\KK 235 0 [1]/\KK 235 1 [2]/\KK 236 0 [2,3]/\KK 236 1 [2,3,5]/\KK 236 2 [2,3,5,11]/\KK 236 3 [4]/\KK 236 4 [2,3,5,11,12]/\KK 236 5 [2,3,5,19]/\KK 236 6 [4]/\KK 236 7 [2,3,5,11,20]/\KK 236 8 [2,3,5,6,7]/\KK 236 9 [2,3,5,6,29]/\KK 236 10 [2,3,5]/\KK 236 11 [2,3,5,34]/\KK 236 12 [2,3,5]/\KK 236 13 [2,3,5,38]/\KK 236 14 [4]/\KK 236 15 [2,3,5,42]/\KK 236 16 [2,3,48]/\KK 236 17 [4]/\KK 236 18 [2,3,57]/\KK 236 19 [4]/\KK 236 20 [9]/\KK 236 21 [4]/\KK 237 0 [2,3]/\KK 237 1 [3,5,6]/\KK 237 2 [3,5,21]/\KK 237 3 [4]/\KK 237 4 [3,5,7]/\KK 237 5 [3,5,7,26,27,28]/\KK 237 6 [3,5,7,26,27,28,29]/\KK 237 7 [3,5,7,9,26,27,28]/\KK 237 8 [3,5,7,9,10,26,27,28]/\KK 237 9 [3,5,7,10,26,27,28,36,37,38]/\KK 237 10 [3,5,7,10,26,27,28,36,37,38,39]/\KK 237 11 [3,5,7,10,12,26,27,28,36,37,38]/\KK 237 12 [3,5,7,10,26,27,28,36,37,38]:=by and_intros <;> decide +kernel
@[simp] theorem kpS1140:KK 237 13 [3,5,7,10,26,27,28,36,37,38]/\KK 237 14 [3,5,7,26,27,28]/\KK 237 15 [3,5,7,26,27,28]/\KK 237 16 [4]/\KK 238 0 [0]/\KK 238 1 [2]/\KK 239 0 [0]/\KK 239 1 [0,3]/\KK 239 2 [3,9,10,11]/\KK 239 3 [3,9,10,11,12]/\KK 239 4 [3,5,9,10,11]/\KK 239 5 [3,9,10,11]/\KK 239 6 [3,9,10,11]/\KK 239 7 [2]/\KK 246 0 [0,1]/\KK 246 1 [0,1,7,8]/\KK 246 2 [0,1,7,8,9]/\KK 246 3 [0,1,5,7,8]/\KK 246 4 [0,1,5,7,8,16]/\KK 246 5 [4]/\KK 246 6 [0,1,7,8]/\KK 246 7 [4]/\KK 247 0 [1,2]/\KK 247 1 [3]/\KK 252 0 [0,1]/\KK 252 1 [4]/\KK 253 0 [0,1]/\KK 253 1 [1,9,10,11]/\KK 253 2 [1,9,10,11,12]/\KK 253 3 [1,6,7,9,10,11]/\KK 253 4 [1,6,8,9,10,11]/\KK 253 5 [1,6,8,9,10,11,21]/\KK 253 6 [4,5]/\KK 253 7 [1,9,10,11]/\KK 253 8 [4,5]/\KK 254 0 [0,1,2]/\KK 254 1 [5]/\KK 255 0 [0,1]/\KK 255 1 [1,9,10,11]/\KK 255 2 [1,9,10,11,12]/\KK 255 3 [1,6,7,9,10,11]/\KK 255 4 [1,6,8,9,10,11]/\KK 255 5 [1,6,8,9,10,11,21]/\KK 255 6 [4,5]/\KK 255 7 [1,9,10,11]/\KK 255 8 [4,5]/\KK 256 0 [2,3,5]/\KK 256 1 [2,3,5,7]/\KK 256 2 [2,3,5,7,23]/\KK 256 3 [6]/\KK 256 4 [3,5]/\KK 256 5 [3,5,8]/\KK 256 6 [10]/\KK 256 7 [6]/\KK 257 0 [0,1]/\KK 257 1 [1,9,10,11]/\KK 257 2 [1,9,10,11,12]/\KK 257 3 [1,6,7,9,10,11]/\KK 257 4 [1,6,8,9,10,11]/\KK 257 5 [1,6,8,9,10,11,21]:=by and_intros <;> decide +kernel
@[simp] theorem kpS1200:KK 257 6 [4,5]/\KK 257 7 [1,9,10,11]/\KK 257 8 [4,5]/\KK 258 0 [2,3,5]/\KK 258 1 [2,3,5,7]/\KK 258 2 [2,3,5,7,13]/\KK 258 3 [6]/\KK 258 4 [3,5]/\KK 258 5 [6]/\KK 259 0 [1,2,3,4,5]/\KK 259 1 [1,2,3,4,5]/\KK 259 2 [1,3,4,5,17]/\KK 259 3 [7]/\KK 259 4 [1,4,20,21,22]/\KK 259 5 [1,4,20,21,22,23]/\KK 259 6 [1,4,9,20,21,22]/\KK 259 7 [1,4,20,21,22,31]/\KK 259 8 [7]/\KK 259 9 [1,4,20,21,22]/\KK 259 10 [7]/\KK 260 0 [0,1]/\KK 260 1 [4]/\KK 261 0 [2,3,4]/\KK 261 1 [2,4,6]/\KK 261 2 [2,4,6,12]/\KK 261 3 [4,5]/\KK 261 4 [4,5]/\KK 262 0 [0,1]/\KK 262 1 [1,9,10,11]/\KK 262 2 [1,9,10,11,12]/\KK 262 3 [1,6,7,9,10,11]/\KK 262 4 [1,6,8,9,10,11]/\KK 262 5 [1,6,8,9,10,11,21]/\KK 262 6 [4,5]/\KK 262 7 [1,9,10,11]/\KK 262 8 [4,5]/\KK 263 0 [2,4]/\KK 263 1 [5]/\KK 264 0 [1,2,3,6]/\KK 264 1 [1,2,3,6,7]/\KK 264 2 [1,2,3,6,7,21]/\KK 264 3 [6]/\KK 264 4 [1,2,3,6,8]/\KK 264 5 [1,2,3,6,8]/\KK 264 6 [1,2,6,8,30,31,32]/\KK 264 7 [1,2,6,8,30,31,32,33]/\KK 264 8 [1,2,6,8,10,30,31,32]/\KK 264 9 [1,2,6,8,30,31,32]/\KK 264 10 [1,2,6,8,30,31,32]/\KK 264 11 [6]/\KK 265 0 [1]/\KK 265 1 [1,3]/\KK 265 2 [3,7,8,9]/\KK 265 3 [3,7,8,9,10]/\KK 265 4 [3,5,7,8,9]/\KK 265 5 [3,7,8,9]/\KK 265 6 [3,7,8,9]/\KK 265 7 [2]/\KK 268 0 [0]/\KK 268 1 [0,7,8,9]:=by and_intros <;> decide +kernel
@[simp] theorem kpS1260:KK 268 2 [0,7,8,9,10]/\KK 268 3 [0,3,4,7,8,9]/\KK 268 4 [0,3,4,5,7,8,9]/\KK 268 5 [0,7,8,9,45]/\KK 268 6 [2]/\KK 268 7 [0,7,8,9]/\KK 268 8 [2]/\KK 269 0 [0,1]/\KK 269 1 [0,1,7,8]/\KK 269 2 [0,1,7,8,9]/\KK 269 3 [0,1,5,7,8]/\KK 269 4 [0,1,5,7,8,16]/\KK 269 5 [4]/\KK 269 6 [0,1,7,8]/\KK 269 7 [4]/\KK 270 0 [1,2]/\KK 270 1 [3]:=by and_intros <;> decide +kernel
@[simp] theorem fnS0:fnN 11 f11/\fnN 12 Tryz.f12/\fnN 13 f13/\fnN 15 f15/\fnN 21 f21/\fnN 25 f25/\fnN 26 f26/\fnN 27 f27/\fnN 31 f31/\fnN 32 f32/\fnN 34 f34/\fnN 35 f35/\fnN 38 f38/\fnN 43 f43/\fnN 49 f49/\fnN 50 f50/\fnN 51 f51/\fnN 52 f52/\fnN 59 f59/\fnN 62 f62/\fnN 63 f63/\fnN 64 f64/\fnN 66 f66/\fnN 67 f67/\fnN 68 f68:=by and_intros <;> unfold fnN <;> kernel_rfl
@[simp] theorem fnS25:fnN 69 f69/\fnN 72 f72/\fnN 74 f74/\fnN 76 f76/\fnN 79 f79/\fnN 80 f80/\fnN 81 f81/\fnN 82 f82/\fnN 83 f83/\fnN 84 f84/\fnN 85 f85/\fnN 86 f86/\fnN 87 f87/\fnN 88 f88/\fnN 89 f89/\fnN 91 f91/\fnN 93 f93/\fnN 95 f95/\fnN 97 f97/\fnN 98 f98/\fnN 99 f99/\fnN 100 f100/\fnN 101 f101/\fnN 102 f102/\fnN 103 f103:=by and_intros <;> unfold fnN <;> kernel_rfl
@[simp] theorem fnS50:fnN 104 f104/\fnN 110 f110/\fnN 111 f111/\fnN 114 f114/\fnN 115 f115/\fnN 116 f116/\fnN 117 f117/\fnN 118 f118/\fnN 119 f119/\fnN 121 f121/\fnN 122 f122/\fnN 123 f123/\fnN 124 f124/\fnN 125 Tryz.f125/\fnN 126 f126/\fnN 127 f127/\fnN 128 Tryz.f128/\fnN 129 Tryz.f129/\fnN 130 f130/\fnN 131 f131/\fnN 132 f132/\fnN 133 f133/\fnN 142 f142/\fnN 143 f143/\fnN 144 f144:=by and_intros <;> unfold fnN <;> kernel_rfl
@[simp] theorem fnS75:fnN 145 f145/\fnN 146 f146/\fnN 147 f147/\fnN 148 f148/\fnN 151 f151/\fnN 152 f152/\fnN 153 f153/\fnN 154 f154/\fnN 155 f155/\fnN 156 f156/\fnN 157 f157/\fnN 158 f158/\fnN 159 f159/\fnN 160 f160/\fnN 161 f161/\fnN 162 f162/\fnN 163 f163/\fnN 164 f164/\fnN 166 f166/\fnN 167 f167/\fnN 168 f168/\fnN 169 f169/\fnN 172 f172/\fnN 174 f174/\fnN 175 f175:=by and_intros <;> unfold fnN <;> kernel_rfl
@[simp] theorem fnS100:fnN 176 f176/\fnN 177 f177/\fnN 178 f178/\fnN 179 f179/\fnN 180 f180/\fnN 181 f181/\fnN 182 f182/\fnN 185 f185/\fnN 186 f186/\fnN 187 f187/\fnN 188 f188/\fnN 189 Tryz.f189/\fnN 190 Tryz.f190/\fnN 192 f192/\fnN 193 f193/\fnN 194 Tryz.f194/\fnN 195 f195/\fnN 196 f196/\fnN 197 f197/\fnN 198 f198/\fnN 199 f199/\fnN 200 f200/\fnN 212 f212/\fnN 213 f213/\fnN 214 f214:=by and_intros <;> unfold fnN <;> kernel_rfl
@[simp] theorem fnS125:fnN 215 Tryz.f215/\fnN 216 Tryz.f216/\fnN 217 f217/\fnN 218 f218/\fnN 219 f219/\fnN 220 f220/\fnN 230 f230/\fnN 231 f231/\fnN 232 f232/\fnN 234 f234/\fnN 235 f235/\fnN 236 f236/\fnN 237 f237/\fnN 238 f238/\fnN 239 f239/\fnN 246 f246/\fnN 247 f247/\fnN 252 f252/\fnN 253 f253/\fnN 254 f254/\fnN 255 f255/\fnN 256 f256/\fnN 257 Tryz.f257/\fnN 258 Tryz.f258/\fnN 259 f259:=by and_intros <;> unfold fnN <;> kernel_rfl
@[simp] theorem fnS150:fnN 260 f260/\fnN 261 f261/\fnN 262 f262/\fnN 263 f263/\fnN 264 f264/\fnN 265 f265/\fnN 268 f268/\fnN 269 f269/\fnN 270 f270:=by and_intros <;> unfold fnN <;> kernel_rfl
@[simp] theorem gj:Ao 11:=rfl
@[simp] theorem primS0:AP 11/\AP 12/\AP 13/\AP 15/\AP 21/\AP 25/\AP 26/\AP 27/\AP 31/\AP 32/\AP 34/\AP 35/\AP 38/\AP 43/\AP 49/\AP 50/\AP 51/\AP 52/\AP 59/\AP 62/\AP 63/\AP 64/\AP 66/\AP 67/\AP 68:=by and_intros <;> unfold AP <;> kernel_rfl
@[simp] theorem primS25:AP 69/\AP 72/\AP 73/\AP 74/\AP 75/\AP 76/\AP 79/\AP 80/\AP 81/\AP 82/\AP 83/\AP 84/\AP 85/\AP 86/\AP 87/\AP 88/\AP 89/\AP 91/\AP 93/\AP 95/\AP 97/\AP 98/\AP 100/\AP 101/\AP 102:=by and_intros <;> unfold AP <;> kernel_rfl
@[simp] theorem primS50:AP 103/\AP 104/\AP 110/\AP 111/\AP 114/\AP 115/\AP 116/\AP 117/\AP 118/\AP 119/\AP 121/\AP 122/\AP 123/\AP 124/\AP 125/\AP 126/\AP 127/\AP 128/\AP 129/\AP 130/\AP 131/\AP 132/\AP 133/\AP 142/\AP 143:=by and_intros <;> unfold AP <;> kernel_rfl
@[simp] theorem primS75:AP 144/\AP 145/\AP 146/\AP 147/\AP 148/\AP 149/\AP 150/\AP 151/\AP 152/\AP 153/\AP 154/\AP 155/\AP 156/\AP 157/\AP 158/\AP 159/\AP 160/\AP 161/\AP 162/\AP 163/\AP 166/\AP 167/\AP 168/\AP 169/\AP 170:=by and_intros <;> unfold AP <;> kernel_rfl
@[simp] theorem primS100:AP 171/\AP 172/\AP 174/\AP 175/\AP 176/\AP 177/\AP 178/\AP 179/\AP 180/\AP 181/\AP 182/\AP 184/\AP 185/\AP 186/\AP 187/\AP 188/\AP 189/\AP 190/\AP 192/\AP 193/\AP 194/\AP 195/\AP 196/\AP 197/\AP 198:=by and_intros <;> unfold AP <;> kernel_rfl
@[simp] theorem primS125:AP 199/\AP 200/\AP 212/\AP 213/\AP 214/\AP 215/\AP 216/\AP 217/\AP 218/\AP 219/\AP 230/\AP 232/\AP 234/\AP 235/\AP 236/\AP 237/\AP 238/\AP 239/\AP 246/\AP 247/\AP 252/\AP 253/\AP 255/\AP 257/\AP 259:=by and_intros <;> unfold AP <;> kernel_rfl
@[simp] theorem primS150:AP 260/\AP 261/\AP 262/\AP 264/\AP 265/\AP 268/\AP 269/\AP 270:=by and_intros <;> unfold AP <;> kernel_rfl
@[simp] theorem bm:MF 11:=rfl
@[simp] theorem gk:Ao 12:=rfl
@[simp] theorem U3:MF 12:=rfl
@[simp] theorem gl:Ao 13:=rfl
@[simp] theorem bn:MF 13:=rfl
@[simp] theorem YR:Ao 15:=rfl
@[simp] theorem U4:MX.mode 15 = { fresh:=true,keepTop:=true }:=rfl
@[simp] theorem YS:Ao 21:=rfl
@[simp] theorem U5:MF 21:=rfl
@[simp] theorem YT:Ao 25:=rfl
@[simp] theorem U6:MF 25:=rfl
@[simp] theorem T0:Ao 26:=rfl
@[simp] theorem Qn:MF 26:=rfl
@[simp] theorem YU:Ao 27:=rfl
@[simp] theorem NU:MF 27:=rfl
@[simp] theorem T3:Ao 31:=rfl
@[simp] theorem Qo:MF 31:=rfl
@[simp] theorem gm:Ao 32:=rfl
@[simp] theorem bp:MF 32:=rfl
@[simp] theorem gn:Ao 34:=rfl
@[simp] theorem br:MF 34:=rfl
@[simp] theorem gr:Ao 35:=rfl
@[simp] theorem bt:MF 35:=rfl
@[simp] theorem gv:Ao 38:=rfl
@[simp] theorem bu:MF 38:=rfl
@[simp] theorem YV:Ao 43:=rfl
@[simp] theorem NV:MF 43:=rfl
@[simp] theorem YW:Ao 49:=rfl
@[simp] theorem U7:MF 49:=rfl
@[simp] theorem T4:Ao 50:=rfl
@[simp] theorem NW:MF 50:=rfl
@[simp] theorem T5:Ao 51:=rfl
@[simp] theorem Qp:MF 51:=rfl
@[simp] theorem Qq:Ao 52:=rfl
@[simp] theorem NX:MF 52:=rfl
@[simp] theorem gw:Ao 59:=rfl
@[simp] theorem bw:MF 59:=rfl
@[simp] theorem gy:Ao 62:=rfl
@[simp] theorem U8:MF 62:=rfl
@[simp] theorem gz:Ao 63:=rfl
@[simp] theorem bx:MX.mode 63 = { }:=rfl
@[simp] theorem YX:Ao 64:=rfl
@[simp] theorem U9:MX.mode 64 = { fresh:=false,keepTop:=false }:=rfl
@[simp] theorem YY:Ao 66:=rfl
@[simp] theorem VA:MF 66:=rfl
@[simp] theorem hZ:Ao 67:=rfl
@[simp] theorem bz:MF 67:=rfl
@[simp] theorem YZ:Ao 68:=rfl
@[simp] theorem VB:MF 68:=rfl
@[simp] theorem iA:Ao 69:=rfl
@[simp] theorem b7:MF 69:=rfl
@[simp] theorem iB:Ao 72:=rfl
@[simp] theorem b8:MF 72:=rfl
@[simp] theorem b9:MF 73:=rfl
@[simp] theorem iC:Ao 74:=rfl
@[simp] theorem cA:MF 74:=rfl
@[simp] theorem fn_75:fnN 75 f75:=by unfold fnN;kernel_rfl
@[simp] theorem Mo:Ao 75:=rfl
@[simp] theorem Kn:MX.mode 75 = { fresh:=false,keepTop:=false }:=rfl
@[simp] theorem T6:Ao 76:=rfl
@[simp] theorem NY:MF 76:=rfl
@[simp] theorem OL:Ao 79:=rfl
@[simp] theorem L4:MX.mode 79 = { }:=rfl
@[simp] theorem Ya:Ao 80:=rfl
@[simp] theorem VC:MF 80:=rfl
@[simp] theorem iD:Ao 81:=rfl
@[simp] theorem cB:MF 81:=rfl
@[simp] theorem Yb:Ao 82:=rfl
@[simp] theorem VD:MX.mode 82 = { }:=rfl
@[simp] theorem OM:Ao 83:=rfl
@[simp] theorem L5:MX.mode 83 = { }:=rfl
@[simp] theorem iE:Ao 84:=rfl
@[simp] theorem cC:MF 84:=rfl
@[simp] theorem iG:Ao 85:=rfl
@[simp] theorem cD:MF 85:=rfl
@[simp] theorem iH:Ao 86:=rfl
@[simp] theorem cE:MF 86:=rfl
@[simp] theorem iI:Ao 87:=rfl
@[simp] theorem cF:MF 87:=rfl
@[simp] theorem Yc:Ao 88:=rfl
@[simp] theorem VE:MF 88:=rfl
@[simp] theorem iJ:Ao 89:=rfl
@[simp] theorem cG:MF 89:=rfl
@[simp] theorem iK:Ao 91:=rfl
@[simp] theorem cH:MF 91:=rfl
@[simp] theorem Yd:Ao 93:=rfl
@[simp] theorem VF:MF 93:=rfl
@[simp] theorem iL:Ao 95:=rfl
@[simp] theorem cI:MF 95:=rfl
@[simp] theorem iM:Ao 97:=rfl
@[simp] theorem cJ:MF 97:=rfl
@[simp] theorem T7:Ao 98:=rfl
@[simp] theorem Qr:MF 98:=rfl
@[simp] theorem T8:Ao 99:=rfl
@[simp] theorem NZ:MX.mode 99 = { fresh:=false,keepTop:=false }:=rfl
@[simp] theorem cK:Ao 100:=rfl
@[simp] theorem R1:MF 100:=rfl
@[simp] theorem VG:Ao 101:=rfl
@[simp] theorem R3:MX.mode 101 = { fresh:=false,keepTop:=false }:=rfl
@[simp] theorem cL:Ao 102:=rfl
@[simp] theorem Ye:MF 102:=rfl
@[simp] theorem mut_102:MX.mutLit 102=true:=by kernel_rfl
@[simp] theorem cM:Ao 103:=rfl
@[simp] theorem Yf:MX.mode 103 = { fresh:=false,keepTop:=false }:=rfl
@[simp] theorem cN:Ao 104:=rfl
@[simp] theorem Yg:MF 104:=rfl
@[simp] theorem cO:Ao 110:=rfl
@[simp] theorem Yh:MF 110:=rfl
@[simp] theorem cP:Ao 111:=rfl
@[simp] theorem Yi:MF 111:=rfl
@[simp] theorem VH:Ao 114:=rfl
@[simp] theorem ON:MF 114:=rfl
@[simp] theorem cQ:Ao 115:=rfl
@[simp] theorem Yj:MX.mode 115 = { fresh:=false,keepTop:=false }:=rfl
@[simp] theorem Qs:Ao 116:=rfl
@[simp] theorem OO:MX.mode 116 = { }:=rfl
@[simp] theorem VI:Ao 117:=rfl
@[simp] theorem R4:MX.mode 117 = { fresh:=false,keepTop:=false }:=rfl
@[simp] theorem cR:Ao 118:=rfl
@[simp] theorem Yk:MF 118:=rfl
@[simp] theorem Qt:Ao 119:=rfl
@[simp] theorem OP:MF 119:=rfl
@[simp] theorem cS:Ao 121:=rfl
@[simp] theorem Yl:MF 121:=rfl
@[simp] theorem cT:Ao 122:=rfl
@[simp] theorem Ym:MF 122:=rfl
@[simp] theorem cU:Ao 123:=rfl
@[simp] theorem R5:MF 123:=rfl
@[simp] theorem cV:Ao 124:=rfl
@[simp] theorem R6:MF 124:=rfl
@[simp] theorem cW:Ao 125:=rfl
@[simp] theorem Yn:MX.mode 125 = { fresh:=false,keepTop:=false }:=rfl
@[simp] theorem Qu:Ao 126:=rfl
@[simp] theorem OQ:MF 126:=rfl
@[simp] theorem cX:Ao 127:=rfl
@[simp] theorem Yo:MF 127:=rfl
@[simp] theorem VJ:Ao 128:=rfl
@[simp] theorem R7:MF 128:=rfl
@[simp] theorem cY:Ao 129:=rfl
@[simp] theorem R8:MF 129:=rfl
@[simp] theorem VK:Ao 130:=rfl
@[simp] theorem R9:MX.mode 130 = { fresh:=false,keepTop:=false }:=rfl
@[simp] theorem cZ:Ao 131:=rfl
@[simp] theorem Yp:MF 131:=rfl
@[simp] theorem cg:Ao 132:=rfl
@[simp] theorem Yq:MF 132:=rfl
@[simp] theorem cj:Ao 133:=rfl
@[simp] theorem SB:MF 133:=rfl
@[simp] theorem VL:Ao 142:=rfl
@[simp] theorem SC:MF 142:=rfl
@[simp] theorem ck:Ao 143:=rfl
@[simp] theorem Yr:MF 143:=rfl
@[simp] theorem Na:Ao 144:=rfl
@[simp] theorem L6:MX.mode 144 = { fresh:=false,keepTop:=false }:=rfl
@[simp] theorem cm:Ao 145:=rfl
@[simp] theorem Ys:MF 145:=rfl
@[simp] theorem mut_145:MX.mutLit 145=true:=by kernel_rfl
@[simp] theorem cp:Ao 146:=rfl
@[simp] theorem Yt:MX.mode 146 = { fresh:=false,keepTop:=false }:=rfl
@[simp] theorem Hr:Ao 147:=rfl
@[simp] theorem Gg:MX.mode 147 = { }:=rfl
@[simp] theorem VM:Ao 148:=rfl
@[simp] theorem SD:MX.mode 148 = { fresh:=true,keepTop:=true }:=rfl
@[simp] theorem mut_148:MX.mutLit 148=true:=by kernel_rfl
@[simp] theorem VN:MX.eff 149=some Rt:=by kernel_rfl
@[simp] theorem SE:MX.mode 149 = { fresh:=false,keepTop:=false }:=rfl
@[simp] theorem VO:MX.eff 150=some KB:=by kernel_rfl
@[simp] theorem SF:MX.mode 150 = { fresh:=false,keepTop:=false }:=rfl
@[simp] theorem VP:Ao 151:=rfl
@[simp] theorem OS:MX.mode 151 = { fresh:=true,keepTop:=true }:=rfl
@[simp] theorem cq:Ao 152:=rfl
@[simp] theorem Yu:MF 152:=rfl
@[simp] theorem VQ:Ao 153:=rfl
@[simp] theorem SG:MF 153:=rfl
@[simp] theorem VR:Ao 154:=rfl
@[simp] theorem SH:MF 154:=rfl
@[simp] theorem cr:Ao 155:=rfl
@[simp] theorem Yv:MF 155:=rfl
@[simp] theorem cu:Ao 156:=rfl
@[simp] theorem Yw:MF 156:=rfl
@[simp] theorem cw:Ao 157:=rfl
@[simp] theorem Yx:MF 157:=rfl
@[simp] theorem VU:Ao 158:=rfl
@[simp] theorem SJ:MF 158:=rfl
@[simp] theorem Qv:Ao 159:=rfl
@[simp] theorem OT:MX.mode 159 = { }:=rfl
@[simp] theorem VV:Ao 160:=rfl
@[simp] theorem SK:MF 160:=rfl
@[simp] theorem cy:Ao 161:=rfl
@[simp] theorem SL:MF 161:=rfl
@[simp] theorem cz:Ao 162:=rfl
@[simp] theorem Yy:MX.mode 162 = { fresh:=false,keepTop:=false }:=rfl
@[simp] theorem Qw:Ao 163:=rfl
@[simp] theorem L7:MX.mode 163 = { fresh:=true,keepTop:=true }:=rfl
@[simp] theorem VW:Ao 164:=rfl
@[simp] theorem OU:MX.mode 164 = { fresh:=false,keepTop:=false }:=rfl
@[simp] theorem c8:Ao 166:=rfl
@[simp] theorem Yz:MF 166:=rfl
@[simp] theorem c9:Ao 167:=rfl
@[simp] theorem Y0:MF 167:=rfl
@[simp] theorem dA:Ao 168:=rfl
@[simp] theorem Y4:MX.mode 168 = { fresh:=false,keepTop:=false }:=rfl
@[simp] theorem VX:Ao 169:=rfl
@[simp] theorem SM:MF 169:=rfl
@[simp] theorem VY:MX.eff 170=some Rv:=rfl
@[simp] theorem SN:MX.mode 170 = { fresh:=false,keepTop:=false }:=rfl
@[simp] theorem VZ:MX.eff 171=some KG:=rfl
@[simp] theorem SO:MX.mode 171 = { fresh:=false,keepTop:=false }:=rfl
@[simp] theorem Va:Ao 172:=rfl
@[simp] theorem SP:MF 172:=rfl
@[simp] theorem L8:Ao 174:=rfl
@[simp] theorem KI:MX.mode 174 = { }:=rfl
@[simp] theorem Vb:Ao 175:=rfl
@[simp] theorem L9:MF 175:=rfl
@[simp] theorem dB:Ao 176:=rfl
@[simp] theorem Y5:MX.mode 176 = { fresh:=false,keepTop:=false }:=rfl
@[simp] theorem Vc:Ao 177:=rfl
@[simp] theorem SQ:MX.mode 177 = { fresh:=false,keepTop:=false }:=rfl
@[simp] theorem dC:Ao 178:=rfl
@[simp] theorem Y6:MX.mode 178 = { fresh:=false,keepTop:=false }:=rfl
@[simp] theorem Qx:Ao 179:=rfl
@[simp] theorem OV:MX.mode 179 = { fresh:=false,keepTop:=false }:=rfl
@[simp] theorem dD:Ao 180:=rfl
@[simp] theorem Y7:MF 180:=rfl
@[simp] theorem dE:Ao 181:=rfl
@[simp] theorem Y8:MF 181:=rfl
@[simp] theorem dF:Ao 182:=rfl
@[simp] theorem Y9:MX.mode 182 = { }:=rfl
@[simp] theorem dG:MX.eff 184=some L3:=by kernel_rfl
@[simp] theorem ZA:MF 184:=rfl
@[simp] theorem dH:Ao 185:=rfl
@[simp] theorem ZB:MF 185:=rfl
@[simp] theorem dI:Ao 186:=rfl
@[simp] theorem ZC:MF 186:=rfl
@[simp] theorem dJ:Ao 187:=rfl
@[simp] theorem ZD:MF 187:=rfl
@[simp] theorem dK:Ao 188:=rfl
@[simp] theorem ZE:MF 188:=rfl
@[simp] theorem JN:Ao 189:=rfl
@[simp] theorem IE:MX.mode 189 = { }:=rfl
@[simp] theorem dL:Ao 190:=rfl
@[simp] theorem ZF:MF 190:=rfl
@[simp] theorem Vd:Ao 192:=rfl
@[simp] theorem SR:MX.mode 192 = { fresh:=false,keepTop:=false }:=rfl
@[simp] theorem dM:Ao 193:=rfl
@[simp] theorem ZG:MF 193:=rfl
@[simp] theorem Ve:Ao 194:=rfl
@[simp] theorem SS:MF 194:=rfl
@[simp] theorem JO:Ao 195:=rfl
@[simp] theorem IG:MX.mode 195 = { fresh:=false,keepTop:=false }:=rfl
@[simp] theorem dN:Ao 196:=rfl
@[simp] theorem ZH:MF 196:=rfl
@[simp] theorem Vf:Ao 197:=rfl
@[simp] theorem SU:MX.mode 197 = { }:=rfl
@[simp] theorem dP:Ao 198:=rfl
@[simp] theorem ZI:MX.mode 198 = { fresh:=false,keepTop:=false }:=rfl
@[simp] theorem dQ:Ao 199:=rfl
@[simp] theorem ZJ:MX.mode 199 = { }:=rfl
@[simp] theorem dR:Ao 200:=rfl
@[simp] theorem ZK:MX.mode 200 = { fresh:=false,keepTop:=false }:=rfl
@[simp] theorem dS:Ao 212:=rfl
@[simp] theorem ZL:MF 212:=rfl
@[simp] theorem dT:Ao 213:=rfl
@[simp] theorem ZM:MF 213:=rfl
@[simp] theorem dU:Ao 214:=rfl
@[simp] theorem ZN:MX.mode 214 = { fresh:=false,keepTop:=false }:=rfl
@[simp] theorem dV:Ao 215:=rfl
@[simp] theorem ZO:MF 215:=rfl
@[simp] theorem Qy:Ao 216:=rfl
@[simp] theorem OW:MX.mode 216 = { }:=rfl
@[simp] theorem dW:Ao 217:=rfl
@[simp] theorem ZP:MF 217:=rfl
@[simp] theorem dX:Ao 218:=rfl
@[simp] theorem ZQ:MX.mode 218 = { }:=rfl
@[simp] theorem Vg:Ao 219:=rfl
@[simp] theorem SV:MX.mode 219 = { fresh:=false,keepTop:=false }:=rfl
@[simp] theorem dY:Ao 220:=rfl
@[simp] theorem ZR:AP 220:=by unfold AP;kernel_rfl
@[simp] theorem ZS:MX.mode 220 = { fresh:=false,keepTop:=false }:=rfl
@[simp] theorem Vh:Ao 230:=rfl
@[simp] theorem SW:MX.mode 230 = { fresh:=false,keepTop:=false }:=rfl
@[simp] theorem dZ:Ao 231:=rfl
@[simp] theorem ZT:AP 231:=by unfold AP;kernel_rfl
@[simp] theorem ZU:MX.mode 231 = { fresh:=false,keepTop:=false }:=rfl
@[simp] theorem da:Ao 232:=rfl
@[simp] theorem SX:MF 232:=rfl
@[simp] theorem db:Ao 234:=rfl
@[simp] theorem ZV:MF 234:=rfl
@[simp] theorem dc:Ao 235:=rfl
@[simp] theorem ZW:MF 235:=rfl
@[simp] theorem dd:Ao 236:=rfl
@[simp] theorem ZX:MF 236:=rfl
@[simp] theorem Vi:Ao 237:=rfl
@[simp] theorem SY:MX.mode 237 = { fresh:=true,keepTop:=true }:=rfl
@[simp] theorem dg:Ao 238:=rfl
@[simp] theorem ZY:MX.mode 238 = { }:=rfl
@[simp] theorem dh:Ao 239:=rfl
@[simp] theorem ZZ:MX.mode 239 = { }:=rfl
@[simp] theorem di:Ao 246:=rfl
@[simp] theorem Za:MX.mode 246 = { }:=rfl
@[simp] theorem dj:Ao 247:=rfl
@[simp] theorem Zb:MX.mode 247 = { fresh:=false,keepTop:=false }:=rfl
@[simp] theorem dk:Ao 252:=rfl
@[simp] theorem OX:MF 252:=rfl
@[simp] theorem Vj:Ao 253:=rfl
@[simp] theorem SZ:MX.mode 253 = { fresh:=false,keepTop:=false }:=rfl
@[simp] theorem dm:Ao 254:=rfl
@[simp] theorem Zc:AP 254:=by unfold AP;kernel_rfl
@[simp] theorem Zd:MX.mode 254 = { fresh:=false,keepTop:=false }:=rfl
@[simp] theorem Vk:Ao 255:=rfl
@[simp] theorem Sa:MX.mode 255 = { fresh:=false,keepTop:=false }:=rfl
@[simp] theorem Vl:Ao 256:=rfl
@[simp] theorem Ze:AP 256:=by unfold AP;kernel_rfl
@[simp] theorem Sb:MX.mode 256 = { fresh:=false,keepTop:=false }:=rfl
@[simp] theorem Vm:Ao 257:=rfl
@[simp] theorem Sc:MX.mode 257 = { fresh:=false,keepTop:=false }:=rfl
@[simp] theorem Vn:Ao 258:=rfl
@[simp] theorem Zf:AP 258:=by unfold AP;kernel_rfl
@[simp] theorem Sd:MX.mode 258 = { fresh:=false,keepTop:=false }:=rfl
@[simp] theorem dq:Ao 259:=rfl
@[simp] theorem Zg:MX.mode 259 = { fresh:=false,keepTop:=false }:=rfl
@[simp] theorem dr:Ao 260:=rfl
@[simp] theorem Zh:MF 260:=rfl
@[simp] theorem Vo:Ao 261:=rfl
@[simp] theorem Se:MF 261:=rfl
@[simp] theorem Vp:Ao 262:=rfl
@[simp] theorem Sf:MX.mode 262 = { fresh:=false,keepTop:=false }:=rfl
@[simp] theorem dt:Ao 263:=rfl
@[simp] theorem Zi:AP 263:=by unfold AP;kernel_rfl
@[simp] theorem Zj:MX.mode 263 = { fresh:=false,keepTop:=false }:=rfl
@[simp] theorem Qz:Ao 264:=rfl
@[simp] theorem OY:MF 264:=rfl
@[simp] theorem du:Ao 265:=rfl
@[simp] theorem Zk:MX.mode 265 = { }:=rfl
@[simp] theorem dw:Ao 268:=rfl
@[simp] theorem Zl:MF 268:=rfl
@[simp] theorem dy:Ao 269:=rfl
@[simp] theorem Zm:MF 269:=rfl
@[simp] theorem dz:Ao 270:=rfl
@[simp] theorem Zn:MX.mode 270 = { fresh:=false,keepTop:=false }:=rfl
theorem Zo:BO (Ab f8 18)=[[],[0],[],[],[2,3],[2,3,4],[0,1,2,3,4,5],[0,1,2,3,4,5,6],[0,1,2,3,4,5,6,7],[0,1,2,3,4,5,6,7,8],[0,1,2,3,4,5,6,7,8],[0,1,2,3,4,5,6,7,8,9],[0,1,2,3,4,5,6,7,8,9,10,11]]:=by kernel_rfl
theorem Zp:BO (Ab f8 22)=[[],[],[],[1,2],[1,2,3],[1,2,3,4],[0,1,2,3,4,5],[0,1,2,3,4,5,6],[0,1,2,3,4,5,6,7],[0,1,2,3,4,5,6,7],[0,1,2,3,4,5,6,7,8],[0,1,2,3,4,5,6,7,8,9,10]]:=by kernel_rfl
theorem Zq:BO (Ab f15 1)=[[],[0],[0,1],[],[3],[],[],[6],[0,1,2,5,6,7],[0,1,2,3,4,5,6,7,8],[0,1,2,3,4,5,6,7,8,9]]:=by kernel_rfl
theorem WY:BO (Ab f25 14)=[[],[],[],[],[],[],[4,5],[2,3,4,5,6],[0,1,2,3,4,5,6,7],[0,1,2,3,4,5,6,7,8]]:=by kernel_rfl
theorem Zr:BO (Ab f31 5)=[[],[],[0,1],[0,1,2],[0,1,2,3],[],[],[5,6],[5,6,7],[5,6,7,8],[5,6,7,8,9],[0,1,2,3,4,5,6,7,8,9,10],[],[0,1,2,3,4,5,6,7,8,9,10,11,12]]:=by kernel_rfl
theorem WZ:BO (Ab f31 10)=[[],[0],[],[2],[],[4],[4,5],[2,3,4,5,6],[2,3,4,5,6,7],[0,1,2,3,4,5,6,7,8],[0,1,2,3,4,5,6,7,8,9],[0,1,2,3,4,5,6,7,8,9,10]]:=by kernel_rfl
theorem Wa:BO (Ab f32 11)=[[],[0],[],[2],[],[4],[],[4,5,6],[4,5,6,7],[0,1,2,3,4,5,6,7,8],[0,1,2,3,4,5,6,7,8,9]]:=by kernel_rfl
theorem Wb:BO (Ab f35 10)=[[],[],[0,1],[],[],[3,4],[3,4,5],[0,1,2,3,4,5,6]]:=by kernel_rfl
theorem Zs:BO (Ab f49 6)=[[],[0],[],[2],[],[2,3,4],[2,3,4,5],[2,3,4,5,6],[2,3,4,5,6,7],[0,1,2,3,4,5,6,7,8],[0,1,2,3,4,5,6,7,8,9],[0,1,2,3,4,5,6,7,8,9,10]]:=by kernel_rfl
theorem Zt:BO (Ab f52 1)=[[],[0],[],[0,1,2],[0,1,2,3],[0,1,2,3,4],[0,1,2,3,4,5]]:=by kernel_rfl
theorem Wc:BO (Ab f68 13)=[[],[0],[],[2],[],[4],[],[6],[],[8],[4,5,6,7,8,9],[2,3,4,5,6,7,8,9,10],[2,3,4,5,6,7,8,9,10,11],[0,1,2,3,4,5,6,7,8,9,10,11,12],[0,1,2,3,4,5,6,7,8,9,10,11,12,13],[0,1,2,3,4,5,6,7,8,9,10,11,12,13,14]]:=by kernel_rfl
theorem Wd:BO (Ab f75 14)=[[],[0],[0,1],[0,1,2],[],[],[5],[5,6],[5,6,7],[],[5,6,7,8,9],[5,6,7,8,9,10],[5,6,7,8,9,10,11],[],[13],[],[13,14,15],[13,14,15,16],[5,6,7,8,9,10,11,12,13,14,15,16,17],[0,1,2,3,4,5,6,7,8,9,10,11,12,13,14,15,16,17,18],[0,1,2,3,4,5,6,7,8,9,10,11,12,13,14,15,16,17,18,19],[0,1,2,3,4,5,6,7,8,9,10,11,12,13,14,15,16,17,18,19,20]]:=by kernel_rfl
theorem We:BO (Ab f75 22)=[[],[0],[0,1],[0,1,2],[],[],[5],[5,6],[5,6,7],[],[5,6,7,8,9],[5,6,7,8,9,10],[5,6,7,8,9,10,11],[],[],[13,14],[13,14,15],[5,6,7,8,9,10,11,12,13,14,15,16],[0,1,2,3,4,5,6,7,8,9,10,11,12,13,14,15,16,17],[0,1,2,3,4,5,6,7,8,9,10,11,12,13,14,15,16,17,18],[0,1,2,3,4,5,6,7,8,9,10,11,12,13,14,15,16,17,18,19]]:=by kernel_rfl
theorem Zu:BO (Ab f81 5)=[[],[],[],[1,2],[1,2,3],[1,2,3,4],[],[],[6,7],[6,7,8],[6,7,8,9],[6,7,8,9,10],[1,2,3,4,5,6,7,8,9,10,11],[1,2,3,4,5,6,7,8,9,10,11,12],[0,1,2,3,4,5,6,7,8,9,10,11,12,13],[0,1,2,3,4,5,6,7,8,9,10,11,12,13,14]]:=by kernel_rfl
theorem Wf:BO (Ab f87 16)=[[],[0],[],[2],[2,3],[2,3,4],[2,3,4,5],[0,1,2,3,4,5,6],[0,1,2,3,4,5,6,7]]:=by kernel_rfl
theorem Zv:BO (Ab f91 8)=[[],[0],[],[2],[0,1,2,3],[0,1,2,3,4],[0,1,2,3,4,5],[0,1,2,3,4,5,6],[0,1,2,3,4,5],[0,1,2,3,4,5,6,7,8],[0,1,2,3,4,5,6,7,8,9],[0,1,2,3,4,5],[0,1,2,3,4,5,11],[0,1,2,3,4,5],[0,1,2,3,4,5,11,12,13],[0,1,2,3,4,5,11,12,13,14],[0,1,2,3,4,5,6,7,8,9,10,11,12,13,14,15],[0,1,2,3,4,5,6,7,8,9,10,11,12,13,14,15,16],[0,1,2,3,4,5,6,7,8,9,10,11,12,13,14,15,16,17]]:=by kernel_rfl
theorem Wg:BO (Ab f117 2)=[[],[],[1],[],[3],[1,2,3,4],[0,1,2,3,4,5],[0,1,2,3,4,5,6]]:=by kernel_rfl
theorem Wh:BO (Ab f119 5)=[[],[],[0,1],[0,1,2],[],[4],[0,1,2,3,4,5]]:=by kernel_rfl
theorem T9:BO (Ab f119 12)=[[],[0],[],[2],[],[2,3,4],[2,3,4,5],[],[],[2,3,4,5,6,7,8],[2,3,4,5,6,7,8,9],[0,1,2,3,4,5,6,7,8,9,10],[0,1,2,3,4,5,6,7,8,9,10,11],[0,1,2,3,4,5,6,7,8,9,10,11,12]]:=by kernel_rfl
theorem Wi:BO (Ab f123 3)=[[],[0],[0,1],[0,1,2],[],[4],[0,1,2,3,4,5],[0,1,2,3,4,5,6],[0,1,2,3,4,5,6,7],[0,1,2,3,4,5,6,7,8],[0,1,2,3,4,5,6,7,8,9],[0,1,2,3,4,5,6,7,8,9,10],[0,1,2,3,4,5,6,7,8,9,10,11],[0,1,2,3,4,5,6,7,8,9,10,11,12],[0,1,2,3,4,5,6,7,8,9,10,11,12,13],[0,1,2,3,4,5,6,7,8,9,10,11,12,13,14],[0,1,2,3,4,5,6,7,8,9,10,11,12,13,14,15],[0,1,2,3,4,5,6,7,8,9,10,11,12,13,14,15,16],[0,1,2,3,4,5,6,7,8,9,10,11,12,13],[0,1,2,3,4,5,6,7,8,9,10,11,12,13,18],[0,1,2,3,4,5,6,7,8,9,10,11,12,13,14,15,16,17,18,19],[0,1,2,3,4,5,6,7,8,9,10,11,12,13,14,15,16,17,18,19,20],[0,1,2,3,4,5,6,7,8,9,10,11,12,13,14,15,16,17,18,19,20,21],[0,1,2,3,4,5,6,7,8,9,10,11,12,13,14,15,16,17,18,19,20,21,22],[0,1,2,3,4,5,6,7,8,9,10,11,12,13,14,15,16,17,18,19,20,21,22,23]]:=by kernel_rfl
theorem Wj:BO (Ab f123 5)=[[],[0],[0,1],[0,1,2],[0,1,2,3],[0,1,2,3,4],[0,1,2,3,4,5],[0,1,2,3,4,5,6],[0,1,2,3,4,5,6,7],[0,1,2,3,4,5,6,7,8],[0,1,2,3,4,5,6,7,8,9],[0,1,2,3,4,5,6,7,8,9,10],[0,1,2,3,4,5,6,7,8,9,10,11],[0,1,2,3,4,5],[0,1,2,3,4,5,13],[0,1,2,3,4,5,13,14],[0,1,2,3,4,5,13,14,15],[0,1,2,3,4,5,6,7,8,9,10,11,12,13,14,15,16],[0,1,2,3,4,5,6,7,8,9,10,11,12,13,14,15,16,17],[0,1,2,3,4,5,6,7,8,9,10,11,12,13,14,15,16,17,18],[0,1,2,3,4,5],[0,1,2,3,4,5,20],[0,1,2,3,4,5,6,7,8,9,10,11,12,13,14,15,16,17,18,19,20,21],[0,1,2,3,4,5,6,7,8,9,10,11,12,13,14,15,16,17,18,19,20,21,22],[0,1,2,3,4,5,6,7,8,9,10,11,12,13,14,15,16,17,18,19,20,21,22,23],[0,1,2,3,4,5,6,7,8,9,10,11,12,13,14,15,16,17,18,19,20,21,22,23],[0,1,2,3,4,5,6,7,8,9,10,11,12,13,14,15,16,17,18,19,20,21,22,23,24,25],[0,1,2,3,4,5,6,7,8,9,10,11,12,13,14,15,16,17,18,19,20,21,22,23,24,25,26],[0,1,2,3,4,5,6,7,8,9,10,11,12,13,14,15,16,17,18,19,20,21,22,23,24,25,26,27],[0,1,2,3,4,5,6,7,8,9,10,11,12,13,14,15,16,17,18,19,20,21,22,23,24,25,26,27,28]]:=by kernel_rfl
theorem Wl:BO (Ab f124 3)=[[],[0],[0,1],[0,1,2],[],[4],[0,1,2,3,4,5],[0,1,2,3,4,5,6],[0,1,2,3,4,5,6,7],[0,1,2,3,4,5,6,7,8],[0,1,2,3,4,5,6,7,8,9],[0,1,2,3,4,5,6,7,8,9,10],[0,1,2,3,4,5,6,7,8,9,10,11],[0,1,2,3,4,5,6,7,8,9,10,11,12],[0,1,2,3,4,5,6,7,8,9,10,11,12,13],[0,1,2,3,4,5,6,7,8,9,10,11,12,13,14],[0,1,2,3,4,5,6,7,8,9,10,11,12,13,14,15],[0,1,2,3,4,5,6,7,8,9,10,11,12,13,14,15,16],[0,1,2,3,4,5,6,7,8,9,10,11,12,13,14,15,16,17],[0,1,2,3,4,5,6,7,8,9,10,11,12,13,14,15,16,17,18],[0,1,2,3,4,5,6,7,8,9,10,11,12,13,14,15,16,17,18,19],[0,1,2,3,4,5,6,7,8,9,10,11,12,13,14,15,16,17,18,19,20],[0,1,2,3,4,5,6,7,8,9,10,11,12,13,14,15,16,17,18,19,20,21],[0,1,2,3,4,5,6,7,8,9,10,11,12,13,14,15,16,17,18],[0,1,2,3,4,5,6,7,8,9,10,11,12,13,14,15,16,17,18,23],[0,1,2,3,4,5,6,7,8,9,10,11,12,13,14,15,16,17,18,19,20,21,22,23,24],[0,1,2,3,4,5,6,7,8,9,10,11,12,13,14,15,16,17,18,19,20,21,22,23,24,25],[0,1,2,3,4,5,6,7,8,9,10,11,12,13,14,15,16,17,18,19,20,21,22,23,24,25,26],[0,1,2,3,4,5,6,7,8,9,10,11,12,13,14,15,16,17,18,19,20,21,22,23,24,25,26,27],[0,1,2,3,4,5,6,7,8,9,10,11,12,13,14,15,16,17,18,19,20,21,22,23,24,25,26,27,28]]:=by kernel_rfl
theorem Wm:BO (Ab f124 5)=[[],[0],[0,1],[0,1,2],[0,1,2,3],[0,1,2,3,4],[0,1,2,3,4,5],[0,1,2,3,4,5,6],[0,1,2,3,4,5,6,7],[0,1,2,3,4,5,6,7,8],[0,1,2,3,4,5,6,7,8,9],[0,1,2,3,4,5,6,7,8,9,10],[0,1,2,3,4,5,6,7,8,9,10,11],[0,1,2,3,4,5],[0,1,2,3,4,5,13],[0,1,2,3,4,5,13,14],[0,1,2,3,4,5,13,14,15],[0,1,2,3,4,5,6,7,8,9,10,11,12,13,14,15,16],[0,1,2,3,4,5,6,7,8,9,10,11,12,13,14,15,16,17],[0,1,2,3,4,5,6,7,8,9,10,11,12,13,14,15,16,17,18],[0,1,2,3,4,5],[0,1,2,3,4,5,20],[0,1,2,3,4,5,6,7,8,9,10,11,12,13,14,15,16,17,18,19,20,21],[0,1,2,3,4,5,6,7,8,9,10,11,12,13,14,15,16,17,18,19,20,21,22],[0,1,2,3,4,5,6,7,8,9,10,11,12,13,14,15,16,17,18,19,20,21,22,23],[0,1,2,3,4,5,6,7,8,9,10,11,12,13,14,15,16,17,18,19,20,21,22,23,24],[0,1,2,3,4,5,6,7,8,9,10,11,12,13,14,15,16,17,18,19,20,21,22,23,24],[0,1,2,3,4,5,6,7,8,9,10,11,12,13,14,15,16,17,18,19,20,21,22,23,24,25,26],[0,1,2,3,4,5,6,7,8,9,10,11,12,13,14,15,16,17,18,19,20,21,22,23,24,25,26,27],[0,1,2,3,4,5,6,7,8,9,10,11,12,13,14,15,16,17,18,19,20,21,22,23,24,25,26,27,28]]:=by kernel_rfl
theorem Wn:BO (Ab Tryz.f125 2)=[[],[],[1],[1,2],[1,2,3],[],[5],[1,2,3,4,5,6],[0,1,2,3,4,5,6,7],[0,1,2,3,4,5,6,7,8],[0,1,2,3,4,5,6,7,8,9]]:=by kernel_rfl
theorem Wo:BO (Ab f126 3)=[[],[0],[0,1],[0,1,2],[0,1,2,3],[],[0,1,2,3,4,5]]:=by kernel_rfl
theorem UA:BO (Ab f126 10)=[[],[0],[0,1],[0,1,2],[],[0,1,2,3,4],[0,1,2,3,4,5],[],[0,1,2,3,4,5,6,7],[0,1,2,3,4,5,6,7,8],[0,1,2,3,4,5,6,7,8,9],[0,1,2,3,4,5,6,7,8,9],[0,1,2,3,4,5,6,7,8,9,10],[0,1,2,3,4,5,6,7,8,9,10,11,12]]:=by kernel_rfl
theorem Wp:BO (Ab Tryz.f128 5)=[[],[0],[],[2],[2,3],[],[5],[5,6],[5,6,7],[],[9],[9,10],[5,6,7,8,9,10,11],[5,6,7,8,9,10,11,12],[],[14],[],[5,6,7,8,9,10,11,12,13,14,15,16],[0,1,2,3,4,5,6,7,8,9,10,11,12,13,14,15,16,17],[0,1,2,3,4,5,6,7,8,9,10,11,12,13,14,15,16,17,18]]:=by kernel_rfl
theorem Wq:BO (Ab Tryz.f129 5)=[[],[],[1],[1,2],[1,2,3],[],[5],[5,6],[1,2,3,4,5,6,7],[0,1,2,3,4,5,6,7,8],[0,1,2,3,4,5,6,7,8,9],[0,1,2,3,4,5,6,7,8,9,10]]:=by kernel_rfl
theorem Wr:BO (Ab f132 1)=[[],[0],[0,1],[0,1,2],[0,1,2,3],[0,1,2,3,4],[0,1,2,3,4,5],[0,1,2,3,4,5,6],[],[8],[8,9],[8,9,10],[8,9,10,11],[0,1,2,3,4,5,6,7,8,9,10,11,12],[0,1,2,3,4,5,6,7,8,9,10,11,12,13]]:=by kernel_rfl
theorem Ws:BO (Ab f133 1)=[[],[0],[0,1],[0,1,2],[],[4],[4,5],[4,5,6],[],[4,5,6,7,8],[4,5,6,7,8,9],[0,1,2,3,4,5,6,7,8,9,10],[0,1,2,3,4,5,6,7,8,9,10,11],[0,1,2,3,4,5,6,7,8,9,10,11,12]]:=by kernel_rfl
theorem Wt:BO (Ab f142 6)=[[],[0],[],[2],[],[2,3,4],[2,3,4,5],[2,3,4,5,6],[2,3,4,5,6,7],[0,1,2,3,4,5,6,7,8],[0,1,2,3,4,5,6,7,8,9],[0,1,2,3,4,5,6,7,8,9,10]]:=by kernel_rfl
theorem Wu:BO (Ab f144 5)=[[],[0],[0,1],[0,1,2],[],[0,1,2,3,4],[0,1,2,3,4,5],[0,1,2,3,4,5,6],[0,1,2,3,4,5,6,7]]:=by kernel_rfl
theorem UB:BO (Ab f144 13)=[[],[],[],[2],[],[2,3,4],[2,3,4,5],[],[0,1,2,3,4,5,6,7]]:=by kernel_rfl
theorem UC:BO (Ab f144 23)=[[],[0],[],[],[3],[],[2,3,4,5],[2,3,4,5,6],[0,1,2,3,4,5,6,7],[0,1,2,3,4,5,6,7,8],[0,1,2,3,4,5,6,7,8,9]]:=by kernel_rfl
theorem UD:BO (Ab f144 25)=[[],[],[1],[1,2],[1,2,3],[],[5],[1,2,3,4,5,6],[0,1,2,3,4,5,6,7],[0,1,2,3,4,5,6,7,8],[0,1,2,3,4,5,6,7,8,9]]:=by kernel_rfl
theorem Wv:BO (Ab f147 8)=[[],[0],[0,1],[],[],[0,1,2,4],[0,1,2,4,5],[0,1,2,4,5,6],[0,1,2,4,5,6,7],[0,1,2,4,5,6,7,8],[0,1,2,4,5,6,7],[0,1,2,4,5,6,7,10],[0,1,2,4,5,6,7,10,11],[0,1,2,4,5,6,7,10,11,12],[0,1,2,4,5,6,7,10,11,12,13],[0,1,2,4,5,6,7,10,11,12,13,14],[0,1,2,4,5,6,7,8,9,10,11,12,13,14,15],[0,1,2,4,5,6,7,8,9,10,11,12,13,14,15,16],[0,1,2,4,5,6,7,8,9,10,11,12,13,14,15,16,17],[0,1,2,3,4,5,6,7,8,9,10,11,12,13,14,15,16,17,18],[0,1,2,3,4,5,6,7,8,9,10,11,12,13,14,15,16,17,18,19],[0,1,2,3,4,5,6,7,8,9,10,11,12,13,14,15,16,17,18,19,20]]:=by kernel_rfl
theorem UE:BO (Ab f147 13)=[[],[0],[0,1],[],[3],[3,4],[3,4,5],[],[3,4,5,6,7],[3,4,5,6,7,8],[3,4,5,6,7,8,9],[3,4,5,6,7,8,9,10],[0,1,2,3,4,5,6,7,8,9,10,11]]:=by kernel_rfl
theorem UF:BO (Ab f147 18)=[[],[0],[0,1],[0,1,2],[],[0,1,2,3,4],[0,1,2,3,4,5],[0,1,2,3,4,5,6],[],[0,1,2,3,4,5,6,7,8],[0,1,2,3,4,5,6,7,8,9],[],[0,1,2,3,4,5,6,7,8,9,10,11],[0,1,2,3,4,5,6,7,8,9,10,11,12]]:=by kernel_rfl
theorem UG:BO (Ab f154 23)=[[],[],[],[1,2],[1,2,3],[1,2,3,4],[],[1,2,3,4,5,6],[1,2,3,4,5,6,7],[1,2,3,4,5,6,7,8],[],[10],[],[12],[12,13],[10,11,12,13,14],[0,1,2,3,4,5,6,7,8,9,10,11,12,13,14,15],[],[0,1,2,3,4,5,6,7,8,9,10,11,12,13,14,15,16,17]]:=by kernel_rfl
theorem UH:BO (Ab f154 24)=[[],[0],[],[2],[0,1],[0,1,4],[0,1,2,3,4,5],[0,1,2,3,4,5,6]]:=by kernel_rfl
theorem Ww:BO (Ab f158 7)=[[],[0],[0,1],[],[],[3,4],[3,4,5],[3,4,5,6],[3,4,5,6,7],[0,1,2,3,4,5,6,7,8]]:=by kernel_rfl
theorem UI:BO (Ab f158 12)=[[],[],[],[1,2],[1,2,3],[1,2,3,4],[],[1,2,3,4,5,6],[1,2,3,4,5,6,7],[1,2,3,4,5,6,7,8],[],[10],[],[10,11,12],[10,11,12,13],[0,1,2,3,4,5,6,7,8,9,10,11,12,13,14],[0,1,2,3,4,5,6,7,8,9,10,11,12,13,14,15]]:=by kernel_rfl
theorem Wx:BO (Ab f164 1)=[[],[],[1],[],[3],[1,2,3,4],[],[0,1,2,3,4,5,6],[0,1,2,3,4,5,6,7]]:=by kernel_rfl
theorem Wy:BO (Ab f167 4)=[[],[],[1],[1,2],[1,2,3],[],[1,2,3,4,5],[1,2,3,4,5,6],[],[0,1,2,3,4,5,6,7,8],[0,1,2,3,4,5,6,7,8,9]]:=by kernel_rfl
theorem Wz:BO (Ab f169 8)=[[],[0],[],[2],[2,3],[0,1],[0,1,2,3,4,5]]:=by kernel_rfl
theorem W0:BO (Ab f174 4)=[[],[],[],[0,2],[0,1,2,3]]:=by kernel_rfl
theorem W1:BO (Ab f174 7)=[[],[],[],[0,2],[0,1,2,3]]:=by kernel_rfl
theorem OZ:BO (Ab f174 12)=[[],[],[],[0],[0,1,3],[0,1,2,3,4]]:=by kernel_rfl
theorem W2:BO (Ab f178 1)=[[],[],[1],[],[1,2,3],[1,2,3,4],[],[0,1,2,3,4,5,6],[0,1,2,3,4,5,6,7]]:=by kernel_rfl
theorem W3:BO (Ab Tryz.f189 2)=[[],[0],[0,1],[0,1,2],[0,1,2,3],[0,1,2,3,4],[0,1,2,3,4,5],[0,1,2,3,4,5,6],[0,1,2,3,4,5,6,7],[0,1,2,3,4,5,6,7,8],[],[10],[],[12],[12,13],[12,13,14],[12,13,14,15],[12,13,14,15,16],[0,1,2,3,4,5,6,7,8,9,10,11,12,13,14,15,16,17],[0,1,2,3,4,5,6,7,8,9,10,11,12,13,14,15,16,17,18],[0,1,2,3,4,5,6,7,8,9,10,11,12,13,14,15,16,17,18,19],[0,1,2,3,4,5,6,7,8,9,10,11,12,13,14,15,16,17,18,19,20],[0,1,2,3,4,5,6,7,8,9,10,11,12,13,14,15,16,17,18,19,20,21]]:=by kernel_rfl
theorem W4:BO (Ab Tryz.f189 7)=[[],[0],[0,1],[0,1,2],[],[4],[4,5],[],[7],[7,8],[4,5,6,7,8,9],[0,1,2,3,4,5,6,7,8,9,10],[0,1,2,3,4,5,6,7,8,9,10,11],[0,1,2,3,4,5,6,7,8,9,10,11,12],[0,1,2,3,4,5,6,7,8,9,10,11,12,13]]:=by kernel_rfl
theorem UJ:BO (Ab f195 10)=[[],[0],[0,1],[0,1,2],[],[4],[4,5],[4,5,6],[],[8],[4,5,6,7,8,9],[4,5,6,7,8,9,10],[],[4,5,6,7,8,9,10,11,12],[4,5,6,7,8,9,10,11,12,13],[0,1,2,3,4,5,6,7,8,9,10,11,12,13,14],[0,1,2,3,4,5,6,7,8,9,10,11,12,13,14,15]]:=by kernel_rfl
theorem W5:BO (Ab f220 1)=[[],[0],[],[0,1,2],[0,1,2,3],[],[0,1,2,3,4,5],[0,1,2,3,4,5,6]]:=by kernel_rfl
theorem W6:BO (Ab f231 1)=[[],[],[0,1],[0,1,2],[],[],[5],[],[5,6,7],[0,1,2,3,4,5,6,7,8],[0,1,2,3,4,5,6,7,8,9]]:=by kernel_rfl
theorem W7:BO (Ab f232 1)=[[],[0],[],[],[2,3],[0,1,2,3,4],[],[6],[6,7],[6,7,8],[0,1,2,3,4,5,6,7,8,9],[0,1,2,3,4,5,6,7,8,9,10],[0,1,2,3,4,5,6,7,8,9,10,11],[0,1,2,3,4,5,6,7,8,9,10,11,12],[0,1,2,3,4,5,6,7,8,9,10,11,12,13],[0,1,2,3,4,5,6,7,8,9,10,11,12,13,14],[0,1,2,3,4,5,6,7,8,9,10,11,12,13,14,15],[],[17],[17,18],[17,18,19],[0,1,2,3,4,5,6,7,8,9,10,11,12,13,14,15,16,17,18,19,20],[0,1,2,3,4,5,6,7,8,9,10,11,12,13,14,15,16,17,18,19,20,21],[0,1,2,3,4,5,6,7,8,9,10,11,12,13,14,15,16,17,18,19,20,21,22],[0,1,2,3,4,5,6,7,8,9,10,11,12,13,14,15,16,17,18,19,20,21,22,23]]:=by kernel_rfl
theorem UK:BO (Ab f237 12)=[[],[0],[],[2],[],[4],[],[6],[],[8],[4,5,6,7,8,9],[2,3,4,5,6,7,8,9,10],[2,3,4,5,6,7,8,9,10,11],[0,1,2,3,4,5,6,7,8,9,10,11,12],[0,1,2,3,4,5,6,7,8,9,10,11,12,13],[0,1,2,3,4,5,6,7,8,9,10,11,12,13,14]]:=by kernel_rfl
theorem W8:BO (Ab f256 1)=[[],[0],[],[0,1,2],[],[4],[4,5],[4,5,6],[0,1,2,3,4,5,6,7],[0,1,2,3,4,5,6,7,8],[0,1,2,3,4,5,6,7,8,9],[0,1,2,3,4,5,6,7,8,9,10]]:=by kernel_rfl
theorem W9:BO (Ab f264 9)=[[],[0],[],[],[],[2,3,4],[2,3,4,5],[0,1,2,3,4,5,6],[0,1,2,3,4,5,6,7],[0,1,2,3,4,5,6,7,8]]:=by kernel_rfl
@[simp] theorem alS0:EL MX.ty 100=some [.AI]/\EL MX.ty 103=some [(.str []),.AI,.AI]/\EL MX.ty 106=some [(.str []),.AI]/\EL MX.ty 109=some [(.str []),(.int .i64 (0)),(.int .i64 (0)),(.str []),.AI]/\EL MX.ty 162=some [(.str []),.AI]/\EL MX.ty 174=some [.Ea,(.int .i64 (0)),(.int .i64 (0)),.AI,.AI]/\EL MX.ty 196=some [(.int .i64 (0)),(.int .i64 (0)),(.int .i64 (0))]/\EL MX.ty 210=some [(.str []),(.int .i64 (0)),.AI,(.int .i64 (0))]/\EL MX.ty 221=some [.AI,.AI]/\EL MX.ty 231=some [(.int .i64 (0)),(.int .i64 (0)),(.str []),.AI,(.int .i64 (0))]/\EL MX.ty 25=some [(.int .i64 (0)),(.int .i64 (0)),(.str []),.AI]/\EL MX.ty 264=some [.Gn]/\EL MX.ty 270=some [(.str []),.AI,.AI]/\EL MX.ty 28=some [.AI,(.int .i64 (0)),(.int .i64 (0)),(.str []),.AI,.AI]/\EL MX.ty 3=some [(.int .i64 (0))]/\EL MX.ty 301=some [.Gn]/\EL MX.ty 34=some [(.str []),(.int .i64 (0)),.AI]/\EL MX.ty 62=some [(.int .i64 (0)),(.int .i64 (0)),(.str []),.AI]/\EL MX.ty 90=some [(.int .i64 (0)),.AI,.AI,(.int .i64 (0))]:=by and_intros <;> kernel_rfl
@[simp] theorem iO:∀ s x h,Ad MX.ty .append [100,100] [s,x] h=OR.D4 (apA 1 16 s x h):=fun s x h=>by cases x <;> kernel_rfl
@[simp] theorem iP:∀ s x h,Ad MX.ty .append [101,101] [s,x] h=OR.D4 (apA 2 40 s x h):=fun s x h=>by cases x <;> kernel_rfl
@[simp] theorem iQ:∀ s x h,Ad MX.ty .append [104,104] [s,x] h=OR.D4 (apA 5 72 s x h):=fun s x h=>by cases x <;> kernel_rfl
@[simp] theorem iR:∀ s x h,Ad MX.ty .append [157,157] [s,x] h=OR.D4 (apA 2 40 s x h):=fun s x h=>by cases x <;> kernel_rfl
@[simp] theorem iT:∀ s x h,Ad MX.ty .append [160,160] [s,x] h=OR.D4 (apA 1 8 s x h):=fun s x h=>by cases x <;> kernel_rfl
@[simp] theorem iU:∀ s x h,Ad MX.ty .append [172,172] [s,x] h=OR.D4 (apA 1 8 s x h):=fun s x h=>by cases x <;> kernel_rfl
@[simp] theorem iV:∀ s x h,Ad MX.ty .append [211,211] [s,x] h=OR.D4 (apA 4 56 s x h):=fun s x h=>by cases x <;> kernel_rfl
@[simp] theorem ap_22_22:∀ s x h,Ad MX.ty .append [22,22] [s,x] h=OR.D4 (apA 3 64 s x h):=fun s x h=>by cases x <;> kernel_rfl
@[simp] theorem ap_23_23:∀ s x h,Ad MX.ty .append [23,23] [s,x] h=OR.D4 (apA 4 56 s x h):=fun s x h=>by cases x <;> kernel_rfl
@[simp] theorem iW:∀ s x h,Ad MX.ty .append [232,232] [s,x] h=OR.D4 (apA 5 64 s x h):=fun s x h=>by cases x <;> kernel_rfl
@[simp] theorem ap_26_26:∀ s x h,Ad MX.ty .append [26,26] [s,x] h=OR.D4 (apA 4 56 s x h):=fun s x h=>by cases x <;> kernel_rfl
@[simp] theorem iX:∀ s x h,Ad MX.ty .append [265,265] [s,x] h=OR.D4 (apA 3 64 s x h):=fun s x h=>by cases x <;> kernel_rfl
@[simp] theorem iY:∀ s x h,Ad MX.ty .append [268,268] [s,x] h=OR.D4 (apA 1 8 s x h):=fun s x h=>by cases x <;> kernel_rfl
@[simp] theorem ap_32_32:∀ s x h,Ad MX.ty .append [32,32] [s,x] h=OR.D4 (apA 3 48 s x h):=fun s x h=>by cases x <;> kernel_rfl
@[simp] theorem ap_39_39:∀ s x h,Ad MX.ty .append [39,39] [s,x] h=OR.D4 (apA 1 8 s x h):=fun s x h=>by cases x <;> kernel_rfl
@[simp] theorem ap_49_49:∀ s x h,Ad MX.ty .append [49,49] [s,x] h=OR.D4 (apA 4 64 s x h):=fun s x h=>by cases x <;> kernel_rfl
@[simp] theorem ap_88_88:∀ s x h,Ad MX.ty .append [88,88] [s,x] h=OR.D4 (apA 3 32 s x h):=fun s x h=>by cases x <;> kernel_rfl
@[simp] theorem bd_103_:Cx MX.ty 103 []=(Bo [(.str []),.AI,.AI] []).map .agg:=FE [] [] (by kernel_rfl) (by kernel_rfl) (by kernel_rfl)
@[simp] theorem iZ:∀ v0 v1,Cx MX.ty 103 [(0,v0),(1,v1)]=(Bo [(.str []),.AI,.AI] [(0,1,v0),(1,1,v1)]).map .agg:=fun v0 v1=>FE [(0,0,1),(1,1,1)] [v0,v1] (by kernel_rfl) (by kernel_rfl) (by kernel_rfl)
@[simp] theorem bd_103_2:∀ v2,Cx MX.ty 103 [(2,v2)]=(Bo [(.str []),.AI,.AI] [(2,1,v2)]).map .agg:=fun v2=>FE [(2,2,1)] [v2] (by kernel_rfl) (by kernel_rfl) (by kernel_rfl)
@[simp] theorem ia:∀ v0 v1,Cx MX.ty 106 [(0,v0),(1,v1)]=(Bo [(.str []),.AI] [(0,1,v0),(1,1,v1)]).map .agg:=fun v0 v1=>FE [(0,0,1),(1,1,1)] [v0,v1] (by kernel_rfl) (by kernel_rfl) (by kernel_rfl)
@[simp] theorem bd_106_0:∀ v0,Cx MX.ty 106 [(0,v0)]=(Bo [(.str []),.AI] [(0,1,v0)]).map .agg:=fun v0=>FE [(0,0,1)] [v0] (by kernel_rfl) (by kernel_rfl) (by kernel_rfl)
@[simp] theorem ib:∀ v0 v1,Cx MX.ty 109 [(0,v0),(1,v1)]=(Bo [(.str []),(.int .i64 (0)),(.int .i64 (0)),(.str []),.AI] [(0,1,v0),(1,4,v1)]).map .agg:=fun v0 v1=>FE [(0,0,1),(1,1,4)] [v0,v1] (by kernel_rfl) (by kernel_rfl) (by kernel_rfl)
@[simp] theorem bd_122_0:∀ v0,Cx MX.ty 122 [(0,v0)]=(Bo [.AI,.AI,(.bool false)] [(0,1,v0)]).map .agg:=fun v0=>FE [(0,0,1)] [v0] (by kernel_rfl) (by kernel_rfl) (by kernel_rfl)
@[simp] theorem bd_159_:Cx MX.ty 159 []=(Bo [(.int .i64 (0)),.AI] []).map .agg:=FE [] [] (by kernel_rfl) (by kernel_rfl) (by kernel_rfl)
@[simp] theorem bd_159_0:∀ v0,Cx MX.ty 159 [(0,v0)]=(Bo [(.int .i64 (0)),.AI] [(0,1,v0)]).map .agg:=fun v0=>FE [(0,0,1)] [v0] (by kernel_rfl) (by kernel_rfl) (by kernel_rfl)
@[simp] theorem bd_159_1:∀ v1,Cx MX.ty 159 [(1,v1)]=(Bo [(.int .i64 (0)),.AI] [(1,1,v1)]).map .agg:=fun v1=>FE [(1,1,1)] [v1] (by kernel_rfl) (by kernel_rfl) (by kernel_rfl)
@[simp] theorem bd_162_0:∀ v0,Cx MX.ty 162 [(0,v0)]=(Bo [(.str []),.AI] [(0,1,v0)]).map .agg:=fun v0=>FE [(0,0,1)] [v0] (by kernel_rfl) (by kernel_rfl) (by kernel_rfl)
@[simp] theorem eA:∀ v0 v1 v2,Cx MX.ty 174 [(0,v0),(1,v1),(2,v2)]=(Bo [.Ea,(.int .i64 (0)),(.int .i64 (0)),.AI,.AI] [(0,1,v0),(1,1,v1),(2,1,v2)]).map .agg:=fun v0 v1 v2=>FE [(0,0,1),(1,1,1),(2,2,1)] [v0,v1,v2] (by kernel_rfl) (by kernel_rfl) (by kernel_rfl)
@[simp] theorem Zw:∀ v0 v1 v2 v3,Cx MX.ty 174 [(0,v0),(1,v1),(2,v2),(3,v3)]=(Bo [.Ea,(.int .i64 (0)),(.int .i64 (0)),.AI,.AI] [(0,1,v0),(1,1,v1),(2,1,v2),(3,1,v3)]).map .agg:=fun v0 v1 v2 v3=>FE [(0,0,1),(1,1,1),(2,2,1),(3,3,1)] [v0,v1,v2,v3] (by kernel_rfl) (by kernel_rfl) (by kernel_rfl)
@[simp] theorem bd_196_:Cx MX.ty 196 []=(Bo [(.int .i64 (0)),(.int .i64 (0)),(.int .i64 (0))] []).map .agg:=FE [] [] (by kernel_rfl) (by kernel_rfl) (by kernel_rfl)
@[simp] theorem ic:∀ v0 v2,Cx MX.ty 196 [(0,v0),(2,v2)]=(Bo [(.int .i64 (0)),(.int .i64 (0)),(.int .i64 (0))] [(0,1,v0),(2,1,v2)]).map .agg:=fun v0 v2=>FE [(0,0,1),(2,2,1)] [v0,v2] (by kernel_rfl) (by kernel_rfl) (by kernel_rfl)
@[simp] theorem ie:∀ v0 v1,Cx MX.ty 210 [(0,v0),(1,v1)]=(Bo [(.str []),(.int .i64 (0)),.AI,(.int .i64 (0))] [(0,3,v0),(3,1,v1)]).map .agg:=fun v0 v1=>FE [(0,0,3),(1,3,1)] [v0,v1] (by kernel_rfl) (by kernel_rfl) (by kernel_rfl)
@[simp] theorem bd_221_0:∀ v0,Cx MX.ty 221 [(0,v0)]=(Bo [.AI,.AI] [(0,1,v0)]).map .agg:=fun v0=>FE [(0,0,1)] [v0] (by kernel_rfl) (by kernel_rfl) (by kernel_rfl)
@[simp] theorem ig:∀ v0 v1,Cx MX.ty 231 [(0,v0),(1,v1)]=(Bo [(.int .i64 (0)),(.int .i64 (0)),(.str []),.AI,(.int .i64 (0))] [(0,4,v0),(4,1,v1)]).map .agg:=fun v0 v1=>FE [(0,0,4),(1,4,1)] [v0,v1] (by kernel_rfl) (by kernel_rfl) (by kernel_rfl)
@[simp] theorem bd_267_0:∀ v0,Cx MX.ty 267 [(0,v0)]=(Bo [(.int .i64 (0)),.AI] [(0,1,v0)]).map .agg:=fun v0=>FE [(0,0,1)] [v0] (by kernel_rfl) (by kernel_rfl) (by kernel_rfl)
@[simp] theorem bd_267_1:∀ v1,Cx MX.ty 267 [(1,v1)]=(Bo [(.int .i64 (0)),.AI] [(1,1,v1)]).map .agg:=fun v1=>FE [(1,1,1)] [v1] (by kernel_rfl) (by kernel_rfl) (by kernel_rfl)
@[simp] theorem bd_270_0:∀ v0,Cx MX.ty 270 [(0,v0)]=(Bo [(.str []),.AI,.AI] [(0,1,v0)]).map .agg:=fun v0=>FE [(0,0,1)] [v0] (by kernel_rfl) (by kernel_rfl) (by kernel_rfl)
@[simp] theorem fu:∀ v0 v1 v2,Cx MX.ty 28 [(0,v0),(1,v1),(2,v2)]=(Bo [.AI,(.int .i64 (0)),(.int .i64 (0)),(.str []),.AI,.AI] [(0,1,v0),(1,4,v1),(5,1,v2)]).map .agg:=fun v0 v1 v2=>FE [(0,0,1),(1,1,4),(2,5,1)] [v0,v1,v2] (by kernel_rfl) (by kernel_rfl) (by kernel_rfl)
@[simp] theorem jj:∀ v0 v2,Cx MX.ty 34 [(0,v0),(2,v2)]=(Bo [(.str []),(.int .i64 (0)),.AI] [(0,1,v0),(2,1,v2)]).map .agg:=fun v0 v2=>FE [(0,0,1),(2,2,1)] [v0,v2] (by kernel_rfl) (by kernel_rfl) (by kernel_rfl)
@[simp] theorem bd_34_1:∀ v1,Cx MX.ty 34 [(1,v1)]=(Bo [(.str []),(.int .i64 (0)),.AI] [(1,1,v1)]).map .agg:=fun v1=>FE [(1,1,1)] [v1] (by kernel_rfl) (by kernel_rfl) (by kernel_rfl)
@[simp] theorem fy:∀ v0 v1 v3,Cx MX.ty 90 [(0,v0),(1,v1),(3,v3)]=(Bo [(.int .i64 (0)),.AI,.AI,(.int .i64 (0))] [(0,1,v0),(1,1,v1),(3,1,v3)]).map .agg:=fun v0 v1 v3=>FE [(0,0,1),(1,1,1),(3,3,1)] [v0,v1,v3] (by kernel_rfl) (by kernel_rfl) (by kernel_rfl)
@[simp] theorem jk:∀ v0 v3,Cx MX.ty 90 [(0,v0),(3,v3)]=(Bo [(.int .i64 (0)),.AI,.AI,(.int .i64 (0))] [(0,1,v0),(3,1,v3)]).map .agg:=fun v0 v3=>FE [(0,0,1),(3,3,1)] [v0,v3] (by kernel_rfl) (by kernel_rfl) (by kernel_rfl)
@[simp] theorem jl:∀ v0 v2,Cx MX.ty 99 [(0,v0),(2,v2)]=(Bo [(.str []),(.int .i64 (0)),(.int .i64 (0))] [(0,1,v0),(2,1,v2)]).map .agg:=fun v0 v2=>FE [(0,0,1),(2,2,1)] [v0,v2] (by kernel_rfl) (by kernel_rfl) (by kernel_rfl)
@[simp] theorem jm:∀ v1 v2,Cx MX.ty 99 [(1,v1),(2,v2)]=(Bo [(.str []),(.int .i64 (0)),(.int .i64 (0))] [(1,1,v1),(2,1,v2)]).map .agg:=fun v1 v2=>FE [(1,1,1),(2,2,1)] [v1,v2] (by kernel_rfl) (by kernel_rfl) (by kernel_rfl)
@[simp] theorem bsS0:(∀ ml ps h,Aj MX.ty ml 100 0 ps h=bsA 1 [(.str [])] ml 0 ps h)/\(∀ ml ps h,Aj MX.ty ml 100 1 ps h=bsA 1 [(.str [])] ml 1 ps h)/\(∀ ml ps h,Aj MX.ty ml 100 2 ps h=bsA 1 [(.str [])] ml 2 ps h)/\(∀ ml ps h,Aj MX.ty ml 100 3 ps h=bsA 1 [(.str [])] ml 3 ps h)/\(∀ ml ps h,Aj MX.ty ml 101 1 ps h=bsA 2 [(.str []),.AI] ml 1 ps h)/\(∀ ml ps h,Aj MX.ty ml 101 2 ps h=bsA 2 [(.str []),.AI] ml 2 ps h)/\(∀ ml ps h,Aj MX.ty ml 104 1 ps h=bsA 5 [(.str []),(.int .i64 (0)),(.int .i64 (0)),(.str []),.AI] ml 1 ps h)/\(∀ ml ps h,Aj MX.ty ml 157 1 ps h=bsA 2 [(.str []),.AI] ml 1 ps h)/\(∀ ml ps h,Aj MX.ty ml 157 2 ps h=bsA 2 [(.str []),.AI] ml 2 ps h)/\(∀ ml ps h,Aj MX.ty ml 160 1 ps h=bsA 1 [.Ea] ml 1 ps h)/\(∀ ml ps h,Aj MX.ty ml 172 0 ps h=bsA 1 [.Ea] ml 0 ps h)/\(∀ ml ps h,Aj MX.ty ml 172 1 ps h=bsA 1 [.Ea] ml 1 ps h)/\(∀ ml ps h,Aj MX.ty ml 204 2 ps h=bsA 1 [(.int .i64 (0))] ml 2 ps h)/\(∀ ml ps h,Aj MX.ty ml 204 3 ps h=bsA 1 [(.int .i64 (0))] ml 3 ps h)/\(∀ ml ps h,Aj MX.ty ml 211 1 ps h=bsA 4 [(.str []),(.int .i64 (0)),.AI,(.int .i64 (0))] ml 1 ps h)/\(∀ ml ps h,Aj MX.ty ml 22 1 ps h=bsA 3 [(.str []),.AI,.AI] ml 1 ps h)/\(∀ ml ps h,Aj MX.ty ml 23 1 ps h=bsA 4 [(.int .i64 (0)),(.int .i64 (0)),(.str []),.AI] ml 1 ps h)/\(∀ ml ps h,Aj MX.ty ml 232 1 ps h=bsA 5 [(.int .i64 (0)),(.int .i64 (0)),(.str []),.AI,(.int .i64 (0))] ml 1 ps h)/\(∀ ml ps h,Aj MX.ty ml 241 2 ps h=bsA 1 [.AI] ml 2 ps h)/\(∀ ml ps h,Aj MX.ty ml 26 0 ps h=bsA 4 [(.int .i64 (0)),(.int .i64 (0)),(.str []),.AI] ml 0 ps h)/\(∀ ml ps h,Aj MX.ty ml 26 1 ps h=bsA 4 [(.int .i64 (0)),(.int .i64 (0)),(.str []),.AI] ml 1 ps h)/\(∀ ml ps h,Aj MX.ty ml 265 1 ps h=bsA 3 [(.str []),.AI,.AI] ml 1 ps h)/\(∀ ml ps h,Aj MX.ty ml 265 2 ps h=bsA 3 [(.str []),.AI,.AI] ml 2 ps h)/\(∀ ml ps h,Aj MX.ty ml 268 1 ps h=bsA 1 [.Ea] ml 1 ps h)/\(∀ ml ps h,Aj MX.ty ml 32 0 ps h=bsA 3 [(.str []),(.int .i64 (0)),.AI] ml 0 ps h):=by and_intros <;> intros <;> kernel_rfl
@[simp] theorem bsS25:(∀ ml ps h,Aj MX.ty ml 32 1 ps h=bsA 3 [(.str []),(.int .i64 (0)),.AI] ml 1 ps h)/\(∀ ml ps h,Aj MX.ty ml 39 0 ps h=bsA 1 [(.int .i64 (0))] ml 0 ps h)/\(∀ ml ps h,Aj MX.ty ml 39 1 ps h=bsA 1 [(.int .i64 (0))] ml 1 ps h)/\(∀ ml ps h,Aj MX.ty ml 49 1 ps h=bsA 4 [(.int .i64 (0)),.AI,.AI,(.int .i64 (0))] ml 1 ps h)/\(∀ ml ps h,Aj MX.ty ml 88 0 ps h=bsA 3 [(.str []),(.int .i64 (0)),(.int .i64 (0))] ml 0 ps h)/\(∀ ml ps h,Aj MX.ty ml 88 1 ps h=bsA 3 [(.str []),(.int .i64 (0)),(.int .i64 (0))] ml 1 ps h):=by and_intros <;> intros <;> kernel_rfl
@[simp] theorem cap_39:∀ x h,Ad MX.ty .cap [39] [x] h=fq x h:=fun x h=>by cases x <;> kernel_rfl
@[simp] theorem cv_3_236:∀ x h,HM MX.ty 3 236 x h=cvI .u64 x h:=fun x h=>by cases x <;> kernel_rfl
@[simp] theorem cv_9_247:∀ x h,HM MX.ty 9 247 x h=cvB x h:=fun x h=>by cases x <;> kernel_rfl
@[simp] theorem faS0:(∀ p,AR MX.ty 103 p 0=faA 0 p)/\(∀ p,AR MX.ty 103 p 1=faA 1 p)/\(∀ p,AR MX.ty 103 p 2=faA 2 p)/\(∀ p,AR MX.ty 106 p 0=faA 0 p)/\(∀ p,AR MX.ty 106 p 1=faA 1 p)/\(∀ p,AR MX.ty 109 p 0=faA 0 p)/\(∀ p,AR MX.ty 109 p 1=faA 1 p)/\(∀ p,AR MX.ty 122 p 0=faA 0 p)/\(∀ p,AR MX.ty 122 p 1=faA 1 p)/\(∀ p,AR MX.ty 122 p 2=faA 2 p)/\(∀ p,AR MX.ty 159 p 0=faA 0 p)/\(∀ p,AR MX.ty 159 p 1=faA 1 p)/\(∀ p,AR MX.ty 162 p 0=faA 0 p)/\(∀ p,AR MX.ty 162 p 1=faA 1 p)/\(∀ p,AR MX.ty 174 p 0=faA 0 p)/\(∀ p,AR MX.ty 174 p 1=faA 1 p)/\(∀ p,AR MX.ty 174 p 2=faA 2 p)/\(∀ p,AR MX.ty 174 p 3=faA 3 p)/\(∀ p,AR MX.ty 174 p 4=faA 4 p)/\(∀ p,AR MX.ty 196 p 0=faA 0 p)/\(∀ p,AR MX.ty 196 p 1=faA 1 p)/\(∀ p,AR MX.ty 196 p 2=faA 2 p)/\(∀ p,AR MX.ty 210 p 0=faA 0 p)/\(∀ p,AR MX.ty 210 p 1=faA 3 p)/\(∀ p,AR MX.ty 221 p 0=faA 0 p):=by and_intros <;> intro p <;> cases p <;> kernel_rfl
@[simp] theorem faS25:(∀ p,AR MX.ty 221 p 1=faA 1 p)/\(∀ p,AR MX.ty 231 p 0=faA 0 p)/\(∀ p,AR MX.ty 231 p 1=faA 4 p)/\(∀ p,AR MX.ty 25 p 0=faA 0 p)/\(∀ p,AR MX.ty 25 p 1=faA 1 p)/\(∀ p,AR MX.ty 25 p 2=faA 2 p)/\(∀ p,AR MX.ty 25 p 3=faA 3 p)/\(∀ p,AR MX.ty 267 p 0=faA 0 p)/\(∀ p,AR MX.ty 267 p 1=faA 1 p)/\(∀ p,AR MX.ty 270 p 0=faA 0 p)/\(∀ p,AR MX.ty 270 p 1=faA 1 p)/\(∀ p,AR MX.ty 270 p 2=faA 2 p)/\(∀ p,AR MX.ty 28 p 0=faA 0 p)/\(∀ p,AR MX.ty 28 p 1=faA 1 p)/\(∀ p,AR MX.ty 28 p 2=faA 5 p)/\(∀ p,AR MX.ty 34 p 0=faA 0 p)/\(∀ p,AR MX.ty 34 p 1=faA 1 p)/\(∀ p,AR MX.ty 34 p 2=faA 2 p)/\(∀ p,AR MX.ty 62 p 0=faA 0 p)/\(∀ p,AR MX.ty 62 p 1=faA 1 p)/\(∀ p,AR MX.ty 62 p 2=faA 2 p)/\(∀ p,AR MX.ty 62 p 3=faA 3 p)/\(∀ p,AR MX.ty 90 p 0=faA 0 p)/\(∀ p,AR MX.ty 90 p 1=faA 1 p)/\(∀ p,AR MX.ty 90 p 2=faA 2 p):=by and_intros <;> intro p <;> cases p <;> kernel_rfl
@[simp] theorem faS50:(∀ p,AR MX.ty 90 p 3=faA 3 p)/\(∀ p,AR MX.ty 99 p 0=faA 0 p)/\(∀ p,AR MX.ty 99 p 1=faA 1 p)/\(∀ p,AR MX.ty 99 p 2=faA 2 p):=by and_intros <;> intro p <;> cases p <;> kernel_rfl
@[simp] theorem ixs_9:∀ x i,QU MX.ty 9 x i=ixS x i:=fun x i=>by cases x <;> cases i <;> kernel_rfl
@[simp] theorem ix_100:∀ x i,BW MX.ty 100 x i=ixA 1 x i:=fun x i=>by cases x <;> cases i <;> kernel_rfl
@[simp] theorem ix_101:∀ x i,BW MX.ty 101 x i=ixA 2 x i:=fun x i=>by cases x <;> cases i <;> kernel_rfl
@[simp] theorem ix_104:∀ x i,BW MX.ty 104 x i=ixA 5 x i:=fun x i=>by cases x <;> cases i <;> kernel_rfl
@[simp] theorem ix_157:∀ x i,BW MX.ty 157 x i=ixA 2 x i:=fun x i=>by cases x <;> cases i <;> kernel_rfl
@[simp] theorem ix_160:∀ x i,BW MX.ty 160 x i=ixA 1 x i:=fun x i=>by cases x <;> cases i <;> kernel_rfl
@[simp] theorem ix_172:∀ x i,BW MX.ty 172 x i=ixA 1 x i:=fun x i=>by cases x <;> cases i <;> kernel_rfl
@[simp] theorem ix_204:∀ x i,BW MX.ty 204 x i=ixA 1 x i:=fun x i=>by cases x <;> cases i <;> kernel_rfl
@[simp] theorem ix_211:∀ x i,BW MX.ty 211 x i=ixA 4 x i:=fun x i=>by cases x <;> cases i <;> kernel_rfl
@[simp] theorem ix_22:∀ x i,BW MX.ty 22 x i=ixA 3 x i:=fun x i=>by cases x <;> cases i <;> kernel_rfl
@[simp] theorem ix_23:∀ x i,BW MX.ty 23 x i=ixA 4 x i:=fun x i=>by cases x <;> cases i <;> kernel_rfl
@[simp] theorem ix_232:∀ x i,BW MX.ty 232 x i=ixA 5 x i:=fun x i=>by cases x <;> cases i <;> kernel_rfl
@[simp] theorem ix_241:∀ x i,BW MX.ty 241 x i=ixA 1 x i:=fun x i=>by cases x <;> cases i <;> kernel_rfl
@[simp] theorem ix_247:∀ x i,BW MX.ty 247 x i=ixA 1 x i:=fun x i=>by cases x <;> cases i <;> kernel_rfl
@[simp] theorem ix_26:∀ x i,BW MX.ty 26 x i=ixA 4 x i:=fun x i=>by cases x <;> cases i <;> kernel_rfl
@[simp] theorem ix_265:∀ x i,BW MX.ty 265 x i=ixA 3 x i:=fun x i=>by cases x <;> cases i <;> kernel_rfl
@[simp] theorem ix_268:∀ x i,BW MX.ty 268 x i=ixA 1 x i:=fun x i=>by cases x <;> cases i <;> kernel_rfl
@[simp] theorem ix_32:∀ x i,BW MX.ty 32 x i=ixA 3 x i:=fun x i=>by cases x <;> cases i <;> kernel_rfl
@[simp] theorem ix_39:∀ x i,BW MX.ty 39 x i=ixA 1 x i:=fun x i=>by cases x <;> cases i <;> kernel_rfl
@[simp] theorem ix_49:∀ x i,BW MX.ty 49 x i=ixA 4 x i:=fun x i=>by cases x <;> cases i <;> kernel_rfl
@[simp] theorem ix_88:∀ x i,BW MX.ty 88 x i=ixA 3 x i:=fun x i=>by cases x <;> cases i <;> kernel_rfl
@[simp] theorem len_100:∀ x h,Ad MX.ty .len [100] [x] h=Bi x h:=fun x h=>by cases x <;> kernel_rfl
@[simp] theorem len_101:∀ x h,Ad MX.ty .len [101] [x] h=Bi x h:=fun x h=>by cases x <;> kernel_rfl
@[simp] theorem len_104:∀ x h,Ad MX.ty .len [104] [x] h=Bi x h:=fun x h=>by cases x <;> kernel_rfl
@[simp] theorem len_157:∀ x h,Ad MX.ty .len [157] [x] h=Bi x h:=fun x h=>by cases x <;> kernel_rfl
@[simp] theorem len_160:∀ x h,Ad MX.ty .len [160] [x] h=Bi x h:=fun x h=>by cases x <;> kernel_rfl
@[simp] theorem len_204:∀ x h,Ad MX.ty .len [204] [x] h=Bi x h:=fun x h=>by cases x <;> kernel_rfl
@[simp] theorem len_211:∀ x h,Ad MX.ty .len [211] [x] h=Bi x h:=fun x h=>by cases x <;> kernel_rfl
@[simp] theorem len_22:∀ x h,Ad MX.ty .len [22] [x] h=Bi x h:=fun x h=>by cases x <;> kernel_rfl
@[simp] theorem len_23:∀ x h,Ad MX.ty .len [23] [x] h=Bi x h:=fun x h=>by cases x <;> kernel_rfl
@[simp] theorem len_232:∀ x h,Ad MX.ty .len [232] [x] h=Bi x h:=fun x h=>by cases x <;> kernel_rfl
@[simp] theorem len_241:∀ x h,Ad MX.ty .len [241] [x] h=Bi x h:=fun x h=>by cases x <;> kernel_rfl
@[simp] theorem len_247:∀ x h,Ad MX.ty .len [247] [x] h=Bi x h:=fun x h=>by cases x <;> kernel_rfl
@[simp] theorem len_26:∀ x h,Ad MX.ty .len [26] [x] h=Bi x h:=fun x h=>by cases x <;> kernel_rfl
@[simp] theorem len_265:∀ x h,Ad MX.ty .len [265] [x] h=Bi x h:=fun x h=>by cases x <;> kernel_rfl
@[simp] theorem len_268:∀ x h,Ad MX.ty .len [268] [x] h=Bi x h:=fun x h=>by cases x <;> kernel_rfl
@[simp] theorem len_32:∀ x h,Ad MX.ty .len [32] [x] h=Bi x h:=fun x h=>by cases x <;> kernel_rfl
@[simp] theorem len_39:∀ x h,Ad MX.ty .len [39] [x] h=Bi x h:=fun x h=>by cases x <;> kernel_rfl
@[simp] theorem len_49:∀ x h,Ad MX.ty .len [49] [x] h=Bi x h:=fun x h=>by cases x <;> kernel_rfl
@[simp] theorem len_88:∀ x h,Ad MX.ty .len [88] [x] h=Bi x h:=fun x h=>by cases x <;> kernel_rfl
@[simp] theorem len_9:∀ x h,Ad MX.ty .len [9] [x] h=fp x h:=fun x h=>by cases x <;> kernel_rfl
@[simp] theorem ldS0:(∀ h p,CC MX.ty h 100 p=ld1 h p)/\(∀ h p,CC MX.ty h 101 p=ld1 h p)/\(∀ h p,CC MX.ty h 103 p=ldN 3 h p)/\(∀ h p,CC MX.ty h 104 p=ld1 h p)/\(∀ h p,CC MX.ty h 106 p=ldN 2 h p)/\(∀ h p,CC MX.ty h 109 p=ldN 5 h p)/\(∀ h p,CC MX.ty h 111 p=ld1 h p)/\(∀ h p,CC MX.ty h 112 p=ld1 h p)/\(∀ h p,CC MX.ty h 124 p=ld1 h p)/\(∀ h p,CC MX.ty h 147 p=ld1 h p)/\(∀ h p,CC MX.ty h 157 p=ld1 h p)/\(∀ h p,CC MX.ty h 160 p=ld1 h p)/\(∀ h p,CC MX.ty h 162 p=ldN 2 h p)/\(∀ h p,CC MX.ty h 172 p=ld1 h p)/\(∀ h p,CC MX.ty h 174 p=ldN 5 h p)/\(∀ h p,CC MX.ty h 196 p=ldN 3 h p)/\(∀ h p,CC MX.ty h 201 p=ld1 h p)/\(∀ h p,CC MX.ty h 210 p=ldN 4 h p)/\(∀ h p,CC MX.ty h 22 p=ld1 h p)/\(∀ h p,CC MX.ty h 221 p=ldN 2 h p)/\(∀ h p,CC MX.ty h 224 p=ld1 h p)/\(∀ h p,CC MX.ty h 23 p=ld1 h p)/\(∀ h p,CC MX.ty h 231 p=ldN 5 h p)/\(∀ h p,CC MX.ty h 25 p=ldN 4 h p)/\(∀ h p,CC MX.ty h 26 p=ld1 h p):=by and_intros <;> intros <;> kernel_rfl
@[simp] theorem ldS25:(∀ h p,CC MX.ty h 264 p=ld1 h p)/\(∀ h p,CC MX.ty h 265 p=ld1 h p)/\(∀ h p,CC MX.ty h 268 p=ld1 h p)/\(∀ h p,CC MX.ty h 270 p=ldN 3 h p)/\(∀ h p,CC MX.ty h 28 p=ldN 6 h p)/\(∀ h p,CC MX.ty h 282 p=ld1 h p)/\(∀ h p,CC MX.ty h 3 p=ld1 h p)/\(∀ h p,CC MX.ty h 301 p=ld1 h p)/\(∀ h p,CC MX.ty h 32 p=ld1 h p)/\(∀ h p,CC MX.ty h 34 p=ldN 3 h p)/\(∀ h p,CC MX.ty h 35 p=ld1 h p)/\(∀ h p,CC MX.ty h 39 p=ld1 h p)/\(∀ h p,CC MX.ty h 4 p=ld1 h p)/\(∀ h p,CC MX.ty h 49 p=ld1 h p)/\(∀ h p,CC MX.ty h 5 p=ld1 h p)/\(∀ h p,CC MX.ty h 62 p=ldN 4 h p)/\(∀ h p,CC MX.ty h 88 p=ld1 h p)/\(∀ h p,CC MX.ty h 9 p=ld1 h p)/\(∀ h p,CC MX.ty h 90 p=ldN 4 h p)/\(∀ h p,CC MX.ty h 99 p=ldN 3 h p):=by and_intros <;> intros <;> kernel_rfl
@[simp] theorem lk_224:∀ m k ok h,Hn MX.ty 224 m k ok h=lkA (some .string) .Gn m k ok h:=lk_of (kt:=9) (e:=225) (by kernel_rfl) (by kernel_rfl) (by kernel_rfl)
@[simp] theorem up_224:∀ m k v h,NN MX.ty 224 m k v h=upA (some .string) m k v h:=fun m k v h=>by cases m <;> kernel_rfl
@[simp] theorem sl_100:∀ x lo hi mx,Gy MX.ty 100 x lo hi mx=slA 1 x lo hi mx:=fun x lo hi mx=>by cases x <;> cases mx <;> cases hi <;> kernel_rfl
@[simp] theorem sl_101:∀ x lo hi mx,Gy MX.ty 101 x lo hi mx=slA 2 x lo hi mx:=fun x lo hi mx=>by cases x <;> cases mx <;> cases hi <;> kernel_rfl
@[simp] theorem sl_211:∀ x lo hi mx,Gy MX.ty 211 x lo hi mx=slA 4 x lo hi mx:=fun x lo hi mx=>by cases x <;> cases mx <;> cases hi <;> kernel_rfl
@[simp] theorem sl_22:∀ x lo hi mx,Gy MX.ty 22 x lo hi mx=slA 3 x lo hi mx:=fun x lo hi mx=>by cases x <;> cases mx <;> cases hi <;> kernel_rfl
@[simp] theorem sl_232:∀ x lo hi mx,Gy MX.ty 232 x lo hi mx=slA 5 x lo hi mx:=fun x lo hi mx=>by cases x <;> cases mx <;> cases hi <;> kernel_rfl
@[simp] theorem sl_39:∀ x lo hi mx,Gy MX.ty 39 x lo hi mx=slA 1 x lo hi mx:=fun x lo hi mx=>by cases x <;> cases mx <;> cases hi <;> kernel_rfl
@[simp] theorem st_100:∀ h p v,CG MX.ty h 100 p v=stA 1 h p v:=ET (by kernel_rfl) (by kernel_rfl)
@[simp] theorem st_101:∀ h p v,CG MX.ty h 101 p v=stA 1 h p v:=ET (by kernel_rfl) (by kernel_rfl)
@[simp] theorem st_103:∀ h p v,CG MX.ty h 103 p v=stA 3 h p v:=ET (by kernel_rfl) (by kernel_rfl)
@[simp] theorem st_104:∀ h p v,CG MX.ty h 104 p v=stA 1 h p v:=ET (by kernel_rfl) (by kernel_rfl)
@[simp] theorem st_106:∀ h p v,CG MX.ty h 106 p v=stA 2 h p v:=ET (by kernel_rfl) (by kernel_rfl)
@[simp] theorem st_109:∀ h p v,CG MX.ty h 109 p v=stA 5 h p v:=ET (by kernel_rfl) (by kernel_rfl)
@[simp] theorem st_124:∀ h p v,CG MX.ty h 124 p v=stA 1 h p v:=ET (by kernel_rfl) (by kernel_rfl)
@[simp] theorem st_157:∀ h p v,CG MX.ty h 157 p v=stA 1 h p v:=ET (by kernel_rfl) (by kernel_rfl)
@[simp] theorem st_160:∀ h p v,CG MX.ty h 160 p v=stA 1 h p v:=ET (by kernel_rfl) (by kernel_rfl)
@[simp] theorem st_162:∀ h p v,CG MX.ty h 162 p v=stA 2 h p v:=ET (by kernel_rfl) (by kernel_rfl)
@[simp] theorem st_172:∀ h p v,CG MX.ty h 172 p v=stA 1 h p v:=ET (by kernel_rfl) (by kernel_rfl)
@[simp] theorem st_174:∀ h p v,CG MX.ty h 174 p v=stA 5 h p v:=ET (by kernel_rfl) (by kernel_rfl)
@[simp] theorem st_196:∀ h p v,CG MX.ty h 196 p v=stA 3 h p v:=ET (by kernel_rfl) (by kernel_rfl)
@[simp] theorem st_210:∀ h p v,CG MX.ty h 210 p v=stA 4 h p v:=ET (by kernel_rfl) (by kernel_rfl)
@[simp] theorem st_221:∀ h p v,CG MX.ty h 221 p v=stA 2 h p v:=ET (by kernel_rfl) (by kernel_rfl)
@[simp] theorem st_23:∀ h p v,CG MX.ty h 23 p v=stA 1 h p v:=ET (by kernel_rfl) (by kernel_rfl)
@[simp] theorem st_231:∀ h p v,CG MX.ty h 231 p v=stA 5 h p v:=ET (by kernel_rfl) (by kernel_rfl)
@[simp] theorem st_25:∀ h p v,CG MX.ty h 25 p v=stA 4 h p v:=ET (by kernel_rfl) (by kernel_rfl)
@[simp] theorem st_26:∀ h p v,CG MX.ty h 26 p v=stA 1 h p v:=ET (by kernel_rfl) (by kernel_rfl)
@[simp] theorem st_264:∀ h p v,CG MX.ty h 264 p v=stA 1 h p v:=ET (by kernel_rfl) (by kernel_rfl)
@[simp] theorem st_268:∀ h p v,CG MX.ty h 268 p v=stA 1 h p v:=ET (by kernel_rfl) (by kernel_rfl)
@[simp] theorem st_270:∀ h p v,CG MX.ty h 270 p v=stA 3 h p v:=ET (by kernel_rfl) (by kernel_rfl)
@[simp] theorem st_28:∀ h p v,CG MX.ty h 28 p v=stA 6 h p v:=ET (by kernel_rfl) (by kernel_rfl)
@[simp] theorem st_3:∀ h p v,CG MX.ty h 3 p v=stA 1 h p v:=ET (by kernel_rfl) (by kernel_rfl)
@[simp] theorem st_301:∀ h p v,CG MX.ty h 301 p v=stA 1 h p v:=ET (by kernel_rfl) (by kernel_rfl)
@[simp] theorem st_32:∀ h p v,CG MX.ty h 32 p v=stA 1 h p v:=ET (by kernel_rfl) (by kernel_rfl)
@[simp] theorem st_34:∀ h p v,CG MX.ty h 34 p v=stA 3 h p v:=ET (by kernel_rfl) (by kernel_rfl)
@[simp] theorem st_39:∀ h p v,CG MX.ty h 39 p v=stA 1 h p v:=ET (by kernel_rfl) (by kernel_rfl)
@[simp] theorem st_4:∀ h p v,CG MX.ty h 4 p v=stA 1 h p v:=ET (by kernel_rfl) (by kernel_rfl)
@[simp] theorem st_49:∀ h p v,CG MX.ty h 49 p v=stA 1 h p v:=ET (by kernel_rfl) (by kernel_rfl)
@[simp] theorem st_62:∀ h p v,CG MX.ty h 62 p v=stA 4 h p v:=ET (by kernel_rfl) (by kernel_rfl)
@[simp] theorem st_88:∀ h p v,CG MX.ty h 88 p v=stA 1 h p v:=ET (by kernel_rfl) (by kernel_rfl)
@[simp] theorem st_90:∀ h p v,CG MX.ty h 90 p v=stA 4 h p v:=ET (by kernel_rfl) (by kernel_rfl)
end Go.Proofs.Am12
