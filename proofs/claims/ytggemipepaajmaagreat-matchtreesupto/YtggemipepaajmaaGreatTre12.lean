/- Part 12. -/
import Derived.Test.YtggemipepaajmaaGreatTre11
import Derived.Shelf.Sort.Plain
import Derived.Shelf.Slices.In.SortNone
import Derived.Shelf.Slices.CompactS
import Derived.Shelf.Slices.CompactI
set_option linter.all false
namespace Go.Am
open Go Go.Proofs Go.Sort Go.Shelf
def strs(l:List (List UInt8)):List (List AV):=l.map fun s=>[AV.str s]
def Iv:List (List AV)->Option (List (List UInt8))
 | []=>some []
 | [.str s]::r=>(Iv r).map (s :: ·)
 | _=>none
theorem MD:∀ l,Iv (strs l)=some l
 | []=>rfl
 | s::r=>by
  have:=MD r;simp only[strs,Hk,Iv]at this ⊢;rw[this];rfl
theorem Pg:∀{es:List (List AV)} {l:List (List UInt8)},Iv es=some l->es=strs l
 | [],l,h=>by simp only[Iv,AN]at h;subst h;rfl
 | e::r,l,h=>by
  unfold Iv at h;split at h
  .rename_i heq;cases heq
  .rename_i s r' heq;cases heq;rw[Dx]at h;obtain⟨l',h1,rfl⟩:=h;rw[Pg h1];rfl
  .cases h
theorem Hq(l:List (List UInt8)):(strs l).length=l.length:=by simp[strs]
theorem Qa{l:List (List UInt8)}{i:Nat}{e:List AV}(h:(strs l)[i]? = some e):∃ s,l[i]? = some s/\e=[.str s]:=by
 simp only[strs,Fx,Dx]at h;obtain⟨s,h1,h2⟩:=h;exact⟨s,h1,h2.symm⟩
theorem OZ{g:G}{h:AF}{fr:Fr}{w:World}(s:Sim g h fr w){id B c:Nat}{lk:Bool}{ss:List (List UInt8)}(hk:h[id]? = some (.arr 1 lk (strs ss)))(hp:g.pl id ss.length=some (B,c)) :
 Holds encStr w B 0 ss.toArray/\B<w.heap.size/\ss.length<=c:=by
 obtain⟨B',c',vs,T,fz,h1,h2,h3,h4,h5,h6,h7,h8,h9,h10⟩:=s.blk id _ hk;rw[Hq]at h1 h4;rw[hp]at h1;simp only[AN,Bk]at h1;obtain⟨rfl,rfl⟩:=h1;refine⟨fun j hj => ?_,s.lt _ _ _ _ hp,h4⟩;simp only[OH]at hj;have hjv:j<vs.size:=by omega
 have he:(strs ss)[j]? = some [.str ss[j]]:=by simp[strs,hj]
 have hr:=h8 j _ he 0 _ vs[j] rfl (by simp[hjv]);have e0:ss.toArray[j]! = ss[j]:=by simp[hj]
 rw[D1,e0];constructor
 .rw[cell_of h2,E6 hjv];generalize vs[j]=v at hr;cases hr;rfl
 .unfold World.frozen?;simp only[h2];have:=h5 j hjv;by_cases ha:fz.1<=j
  .simp[ha];omega
  .simp[ha]
theorem Oa{g:G}{h:AF}{fr:Fr}{w:World}(s:Sim g h fr w){id B c:Nat}{ss ss':List (List UInt8)}(hk:h[id]? = some (.arr 1 false (strs ss)))(hp:g.pl id ss.length=some (B,c))(hl:ss'.length=ss.length)(n:Nat)(os:Array Obj) :
 Sim g (h.set id (.arr 1 false (strs ss'))) fr (grow (putRow encStr (Sort.ahead w n) B 0 ss'.toArray) os):=by
 obtain⟨B',c',vs,T,fz,h1,h2,h3,h4,h5,h6,h7,h8,h9,h10⟩:=s.blk id _ hk;rw[Hq]at h1 h4 h10;rw[hp]at h1;simp only[AN,Bk]at h1;obtain⟨rfl,rfl⟩:=h1;have hB:B<w.heap.size:=s.lt _ _ _ _ hp;have hid:id<h.length:=(Ae.1 hk).1;have hheap:∀ b,b<w.heap.size->(grow (putRow encStr (Sort.ahead w n) B 0 ss'.toArray) os).heap[b]? = if B=b then w.heap[b]?.map (onCells (putCells encStr 0 ss'.toArray))else w.heap[b]? := by
  intro b hb;simp only[grow,putRow,mapBlock,Sort.ahead];rw[Km (by simpa using hb),OD]
 refine s.upd id _ hid g rfl (fun _ _ _=>rfl) (Le.refl g) (by simp[grow]) (fun b hb hne => ?_) (fun b o u hm => ?_) (fun gen b c hp=> .inl ⟨gen,c,hp⟩) ?_ rfl rfl rfl
 .rw[hheap b hb,if_neg (fun e=>hne ss.length c (by rw[hp,e]))]
 .have hbB:B≠b:=fun e=>by
   have:=h9 o (fun hh=>by cases hh);rw[e,hm]at this;cases this
  have h0:=s.mem b o u hm;have hb:=s.Kz hm;unfold World.cell? at h0 ⊢;rw[hheap b hb,if_neg hbB];exact h0
 .refine⟨B,c,putCells encStr 0 ss'.toArray vs,T,fz,by rw[Hq,hl];exact hp,?_,by simpa[putCells]using h3,by rw[Hq,hl];exact h4,by simpa[putCells]using h5,fun i e he => ?_,fun i v hv => ?_,fun i e he k x v hx hv => ?_,fun o _=>h9 o (fun hh=>by cases hh),fun gen hgen=>h10 gen (by rw[Hq,hl]at hgen;exact hgen)⟩
  .rw[hheap B hB,if_pos rfl,h2];rfl
  .obtain⟨t,_,rfl⟩:=Qa he;rfl
  .simp only[putCells,PG,Dx]at hv;obtain⟨a,ha,rfl⟩:=hv;split
   .rfl
   .exact h7 i a ha
  .obtain⟨t,ht,rfl⟩:=Qa he;cases k with
   | succ k=>simp at hx
   | zero=>
    simp only[HJ,AN]at hx;subst hx;have hi:i<ss'.length:=(Ae.1 ht).1;simp only[putCells,PG,Dx,Nat.mul_one,IZ]at hv;obtain⟨a,ha,rfl⟩:=hv;rw[if_pos ⟨HN _,by simpa using hi⟩];have:ss'.toArray[i - 0]! = t:=by
     rw[Nat.sub_zero];have:=(Ae.1 ht);simp[hi,this.2]
    rw[this];exact .str _ _
def Qb:List AV->AF->Option (CR×AF)
 | [.hs id gen 1 0 len _],h=>match h[id]? with
  | some (.arr 1 false es)=>match Iv es with
   | some ss=>match Nat.beq es.length gen&&Nat.beq len gen&&Nat.blt 0 len&&Nat.blt len 4611686018427387904 with
    | true=>some (.ret (.tup []),h.set id (.arr 1 false (strs (ss.mergeSort fun x y=>decide (x<=y)))))
    | false=>none
   | none=>none
  | _=>none
 | [.AH],h=>some (.ret (.tup []),h)
 | _,_=>none
def Jb:List AV->AF->Option (CR×AF)
 | [.hs id gen 1 0 len false],h=>match h[id]? with
  | some (.arr 1 false es)=>match Iv es with
   | some ss=>match Nat.beq es.length gen&&Nat.beq len gen&&Nat.blt 0 len&&Nat.blt len 4611686018427387904 with
    | true=>some (.ret (.hs id gen 1 0 (Lib.compact ss).length false),h.set id (.arr 1 false (strs (Lib.compact ss++List.replicate (ss.length - (Lib.compact ss).length) []))))
    | false=>none
   | none=>none
  | _=>none
 | [.AH],h=>some (.ret .AH,h)
 | _,_=>none
def K9:List AV->AF->Option (CR×AF)
 | [.int .u64 n],h=>match decide (0<=n/\n<=18446744073709551615)with
  | true=>some (.ret (.int .i64 (Lib.bitLen n.toNat)),h)
  | false=>none
 | _,_=>none
theorem MT{g:G}{id gen sz off len:Nat}{ex:Bool}{x:Value}(hr:Rel g true (.hs id gen sz off len ex) x)(h0:0<len) :
 ∃ B c c',g.pl id gen=some (B,c)/\off+len<=c/\x=.slice (some ⟨B,off * sz,none⟩) len c'/\c'=(if ex then len else c - off)/\len<=c':=by
 cases hr with
 | hs _ _ _ _ _ _ B c o c' h h1 hc ho=>
  have hle:len<=c':=by rw[hc];split <;> omega
  have:=ho (by omega);subst this;exact⟨B,c,c',h,h1,rfl,hc,hle⟩
theorem GX{g:G}{a:AV}{cargs:Array Value}(h:Au g true [a] cargs):∃ x,cargs = #[x]/\Rel g true a x:=by
 obtain⟨h1,h2⟩:=h
 match cargs,h1 with
 | ⟨[x]⟩,_=>exact⟨x,rfl,h2 0 a x rfl rfl⟩
section
variable{P:Program}{ρ:Ren}
theorem Y4(Ly:Lays.n190 P ρ){args:List AV}{h h':AF}{r:CR}(he:Qb args h=some (r,h')){g:G}{fr:Fr}{w:World}{cargs:Array Value}(sim:Sim g h fr w)(hr:Au g true args cargs) :
 Calls P (ρ.f 190) cargs w fun e w'=>∃ g',Le g g'/\Sim g' h' fr w'/\JW g' r e:=by
 unfold Qb at he;split at he
 .rename_i id gen len ex;split at he
  .rename_i es hk;split at he
   .rename_i ss hss;split at he
    .rename_i hc;simp only[BU,Bl,FQ]at hc;simp only[AN,Bk]at he;obtain⟨rfl,rfl⟩:=he;have hes:=Pg hss;subst hes;rw[Hq]at hc;obtain⟨⟨⟨hg,hl⟩,h0⟩,hb⟩:=hc;subst hg;subst hl;obtain⟨x,rfl,hx⟩:=GX hr;obtain⟨B,c,c',hp,h1,rfl,h2,h3⟩:=MT hx h0;obtain⟨hH,hB,hc⟩:=OZ sim hk hp;refine(Any.slices_Sort_string Ly B 0 c' ss w hH hB hb).mono fun e w' he => ?_
     obtain⟨rfl,n,os,rfl⟩:=he;exact⟨g,Le.refl g,Oa sim hk hp (by rw[List.length_mergeSort]) n os,.tup true [] #[] rfl (fun i c v h=>by simp at h)⟩
    .cases he
   .cases he
  .cases he
 .simp only[AN,Bk]at he;obtain⟨rfl,rfl⟩:=he;obtain⟨x,rfl,hx⟩:=GX hr;cases hx;refine(Any.slices_Sort_string_none Ly none 0 w).mono fun e w' he => ?_
  obtain⟨rfl,rfl⟩:=he;exact⟨g,Le.refl g,sim,.tup true [] #[] rfl (fun i c v h=>by simp at h)⟩
 .cases he
theorem Jc{α:Type}[Inhabited α][DecidableEq α](zs:List α):(Lib.compact zs).length<=zs.length:=by
 unfold Lib.compact Lib.compactUpTo;simp only[Fa];exact DD (List.length_filter_le _ _) (by simp)
theorem R6(Ly:Lays.n194 P ρ){args:List AV}{h h':AF}{r:CR}(he:Jb args h=some (r,h')){g:G}{fr:Fr}{w:World}{cargs:Array Value}(sim:Sim g h fr w)(hr:Au g true args cargs) :
 Calls P (ρ.f 194) cargs w fun e w'=>∃ g',Le g g'/\Sim g' h' fr w'/\JW g' r e:=by
 unfold Jb at he;split at he
 .rename_i id gen len;split at he
  .rename_i es hk;split at he
   .rename_i ss hss;split at he
    .rename_i hc;simp only[BU,Bl,FQ]at hc;simp only[AN,Bk]at he;obtain⟨rfl,rfl⟩:=he;have hes:=Pg hss;subst hes;rw[Hq]at hc;obtain⟨⟨⟨hg,hl⟩,h0⟩,hb⟩:=hc;subst hg;subst hl;obtain⟨x,rfl,hx⟩:=GX hr;obtain⟨B,c,c',hp,h1,rfl,h2,h3⟩:=MT hx h0;obtain⟨hH,hB,hc⟩:=OZ sim hk hp;refine(Any.slices_Compact_string Ly B 0 c' ss w hH (by omega) h3).mono fun e w' he => ?_
     obtain⟨rfl,q,rfl⟩:=he;have hcl:=Jc ss;have ht:=Oa sim hk hp (ss':=Lib.compact ss++List.replicate (ss.length - (Lib.compact ss).length) []) (by simp;omega) q #[];rw[grow_empty]at ht;refine⟨g,Le.refl g,ht,?_⟩;have:=Rel.hs (g:=g) id ss.length 1 0 (Lib.compact ss).length false B c 0 c' hp (by omega) (by simpa using h2) (fun _=>rfl);exact this
    .cases he
   .cases he
  .cases he
 .simp only[AN,Bk]at he;obtain⟨rfl,rfl⟩:=he;obtain⟨x,rfl,hx⟩:=GX hr;cases hx;refine(Any.slices_Compact_string_empty Ly none 0 w).mono fun e w' he => ?_
  obtain⟨rfl,rfl⟩:=he;exact⟨g,Le.refl g,sim,.AH _⟩
 .cases he
theorem Ub(Ly:Lays.n125 P ρ){args:List AV}{h h':AF}{r:CR}(he:K9 args h=some (r,h')){g:G}{fr:Fr}{w:World}{cargs:Array Value}(sim:Sim g h fr w)(hr:Au g true args cargs) :
 Calls P (ρ.f 125) cargs w fun e w'=>∃ g',Le g g'/\Sim g' h' fr w'/\JW g' r e:=by
 unfold K9 at he;split at he
 .split at he
  .rename_i hd;have hd:=of_decide_eq_true hd;simp only[AN,Bk]at he;obtain⟨rfl,rfl⟩:=he;obtain⟨x,rfl,hx⟩:=GX hr;cases hx;have hcall:=calls_of_every_depth fun D=>AnyS.bits_LenInS Ly D _ w hd.1 hd.2
   refine hcall.mono fun e w' he => ?_
   obtain⟨rfl,rfl⟩:=he;exact⟨g,Le.refl g,sim,.int _ _ _⟩
  .cases he
 .cases he
end
def A6(l:List Int):List (List AV):=l.map fun s=>[AV.int .i64 s]
def Jd:List (List AV)->Option (List Int)
 | []=>some []
 | [.int .i64 s]::r=>(Jd r).map (s :: ·)
 | _=>none
theorem Je:∀ l,Jd (A6 l)=some l
 | []=>rfl
 | s::r=>by
  have:=Je r;simp only[A6,Hk,Jd]at this ⊢;rw[this];rfl
theorem J2:∀{es:List (List AV)} {l:List Int},Jd es=some l->es=A6 l
 | [],l,h=>by simp only[Jd,AN]at h;subst h;rfl
 | e::r,l,h=>by
  unfold Jd at h;split at h
  .rename_i heq;cases heq
  .rename_i s r' heq;cases heq;rw[Dx]at h;obtain⟨l',h1,rfl⟩:=h;rw[J2 h1];rfl
  .cases h
theorem Bh(l:List Int):(A6 l).length=l.length:=by simp[A6]
theorem Qc{l:List Int}{i:Nat}{e:List AV}(h:(A6 l)[i]? = some e):∃ s,l[i]? = some s/\e=[.int .i64 s]:=by
 simp only[A6,Fx,Dx]at h;obtain⟨s,h1,h2⟩:=h;exact⟨s,h1,h2.symm⟩
theorem Ob{g:G}{h:AF}{fr:Fr}{w:World}(s:Sim g h fr w){id B c:Nat}{lk:Bool}{ss:List Int}(hk:h[id]? = some (.arr 1 lk (A6 ss)))(hp:g.pl id ss.length=some (B,c)) :
 Holds (Value.int .i64) w B 0 ss.toArray/\B<w.heap.size/\ss.length<=c:=by
 obtain⟨B',c',vs,T,fz,h1,h2,h3,h4,h5,h6,h7,h8,h9,h10⟩:=s.blk id _ hk;rw[Bh]at h1 h4;rw[hp]at h1;simp only[AN,Bk]at h1;obtain⟨rfl,rfl⟩:=h1;refine⟨fun j hj => ?_,s.lt _ _ _ _ hp,h4⟩;simp only[OH]at hj;have hjv:j<vs.size:=by omega
 have he:(A6 ss)[j]? = some [.int .i64 ss[j]]:=by simp[A6,hj]
 have hr:=h8 j _ he 0 _ vs[j] rfl (by simp[hjv]);have e0:ss.toArray[j]! = ss[j]:=by simp[hj]
 rw[D1,e0];constructor
 .rw[cell_of h2,E6 hjv];generalize vs[j]=v at hr;cases hr;rfl
 .unfold World.frozen?;simp only[h2];have:=h5 j hjv;by_cases ha:fz.1<=j
  .simp[ha];omega
  .simp[ha]
theorem Oc{g:G}{h:AF}{fr:Fr}{w:World}(s:Sim g h fr w){id B c:Nat}{ss ss':List Int}(hk:h[id]? = some (.arr 1 false (A6 ss)))(hp:g.pl id ss.length=some (B,c))(hl:ss'.length=ss.length)(n:Nat)(os:Array Obj) :
 Sim g (h.set id (.arr 1 false (A6 ss'))) fr (grow (putRow (Value.int .i64) (Sort.ahead w n) B 0 ss'.toArray) os):=by
 obtain⟨B',c',vs,T,fz,h1,h2,h3,h4,h5,h6,h7,h8,h9,h10⟩:=s.blk id _ hk;rw[Bh]at h1 h4 h10;rw[hp]at h1;simp only[AN,Bk]at h1;obtain⟨rfl,rfl⟩:=h1;have hB:B<w.heap.size:=s.lt _ _ _ _ hp;have hid:id<h.length:=(Ae.1 hk).1;have hheap:∀ b,b<w.heap.size->(grow (putRow (Value.int .i64) (Sort.ahead w n) B 0 ss'.toArray) os).heap[b]? = if B=b then w.heap[b]?.map (onCells (putCells (Value.int .i64) 0 ss'.toArray))else w.heap[b]? := by
  intro b hb;simp only[grow,putRow,mapBlock,Sort.ahead];rw[Km (by simpa using hb),OD]
 refine s.upd id _ hid g rfl (fun _ _ _=>rfl) (Le.refl g) (by simp[grow]) (fun b hb hne => ?_) (fun b o u hm => ?_) (fun gen b c hp=> .inl ⟨gen,c,hp⟩) ?_ rfl rfl rfl
 .rw[hheap b hb,if_neg (fun e=>hne ss.length c (by rw[hp,e]))]
 .have hbB:B≠b:=fun e=>by
   have:=h9 o (fun hh=>by cases hh);rw[e,hm]at this;cases this
  have h0:=s.mem b o u hm;have hb:=s.Kz hm;unfold World.cell? at h0 ⊢;rw[hheap b hb,if_neg hbB];exact h0
 .refine⟨B,c,putCells (Value.int .i64) 0 ss'.toArray vs,T,fz,by rw[Bh,hl];exact hp,?_,by simpa[putCells]using h3,by rw[Bh,hl];exact h4,by simpa[putCells]using h5,fun i e he => ?_,fun i v hv => ?_,fun i e he k x v hx hv => ?_,fun o _=>h9 o (fun hh=>by cases hh),fun gen hgen=>h10 gen (by rw[Bh,hl]at hgen;exact hgen)⟩
  .rw[hheap B hB,if_pos rfl,h2];rfl
  .obtain⟨t,_,rfl⟩:=Qc he;rfl
  .simp only[putCells,PG,Dx]at hv;obtain⟨a,ha,rfl⟩:=hv;split
   .rfl
   .exact h7 i a ha
  .obtain⟨t,ht,rfl⟩:=Qc he;cases k with
   | succ k=>simp at hx
   | zero=>
    simp only[HJ,AN]at hx;subst hx;have hi:i<ss'.length:=(Ae.1 ht).1;simp only[putCells,PG,Dx,Nat.mul_one,IZ]at hv;obtain⟨a,ha,rfl⟩:=hv;rw[if_pos ⟨HN _,by simpa using hi⟩];have:ss'.toArray[i - 0]! = t:=by
     rw[Nat.sub_zero];have:=(Ae.1 ht);simp[hi,this.2]
    rw[this];exact .int _ _ _
def Qd:List AV->AF->Option (CR×AF)
 | [.hs id gen 1 0 len _],h=>match h[id]? with
  | some (.arr 1 false es)=>match Jd es with
   | some ss=>match Nat.beq es.length gen&&Nat.beq len gen&&Nat.blt 0 len&&Nat.blt len 4611686018427387904 with
    | true=>some (.ret (.tup []),h.set id (.arr 1 false (A6 (ss.mergeSort fun x y=>decide (x<=y)))))
    | false=>none
   | none=>none
  | _=>none
 | [.AH],h=>some (.ret (.tup []),h)
 | _,_=>none
def Jf:List AV->AF->Option (CR×AF)
 | [.hs id gen 1 0 len false],h=>match h[id]? with
  | some (.arr 1 false es)=>match Jd es with
   | some ss=>match Nat.beq es.length gen&&Nat.beq len gen&&Nat.blt 0 len&&Nat.blt len 4611686018427387904 with
    | true=>some (.ret (.hs id gen 1 0 (Lib.compact ss).length false),h.set id (.arr 1 false (A6 (Lib.compact ss++List.replicate (ss.length - (Lib.compact ss).length) 0))))
    | false=>none
   | none=>none
  | _=>none
 | [.AH],h=>some (.ret .AH,h)
 | _,_=>none
section
variable{P:Program}{ρ:Ren}
theorem WQ(Ly:Lays.n189 P ρ){args:List AV}{h h':AF}{r:CR}(he:Qd args h=some (r,h')){g:G}{fr:Fr}{w:World}{cargs:Array Value}(sim:Sim g h fr w)(hr:Au g true args cargs) :
 Calls P (ρ.f 189) cargs w fun e w'=>∃ g',Le g g'/\Sim g' h' fr w'/\JW g' r e:=by
 unfold Qd at he;split at he
 .rename_i id gen len ex;split at he
  .rename_i es hk;split at he
   .rename_i ss hss;split at he
    .rename_i hc;simp only[BU,Bl,FQ]at hc;simp only[AN,Bk]at he;obtain⟨rfl,rfl⟩:=he;have hes:=J2 hss;subst hes;rw[Bh]at hc;obtain⟨⟨⟨hg,hl⟩,h0⟩,hb⟩:=hc;subst hg;subst hl;obtain⟨x,rfl,hx⟩:=GX hr;obtain⟨B,c,c',hp,h1,rfl,h2,h3⟩:=MT hx h0;obtain⟨hH,hB,hc⟩:=Ob sim hk hp;refine(Any.slices_Sort_int Ly B 0 c' ss w hH hB hb).mono fun e w' he => ?_
     obtain⟨rfl,n,os,rfl⟩:=he;exact⟨g,Le.refl g,Oc sim hk hp (by rw[List.length_mergeSort]) n os,.tup true [] #[] rfl (fun i c v h=>by simp at h)⟩
    .cases he
   .cases he
  .cases he
 .simp only[AN,Bk]at he;obtain⟨rfl,rfl⟩:=he;obtain⟨x,rfl,hx⟩:=GX hr;cases hx;refine(Any.slices_Sort_int_none Ly none 0 w).mono fun e w' he => ?_
  obtain⟨rfl,rfl⟩:=he;exact⟨g,Le.refl g,sim,.tup true [] #[] rfl (fun i c v h=>by simp at h)⟩
 .cases he
theorem Qe(Ly:Lays2.n20 P ρ){args:List AV}{h h':AF}{r:CR}(he:Jf args h=some (r,h')){g:G}{fr:Fr}{w:World}{cargs:Array Value}(sim:Sim g h fr w)(hr:Au g true args cargs) :
 Calls P (ρ.f 20) cargs w fun e w'=>∃ g',Le g g'/\Sim g' h' fr w'/\JW g' r e:=by
 unfold Jf at he;split at he
 .rename_i id gen len;split at he
  .rename_i es hk;split at he
   .rename_i ss hss;split at he
    .rename_i hc;simp only[BU,Bl,FQ]at hc;simp only[AN,Bk]at he;obtain⟨rfl,rfl⟩:=he;have hes:=J2 hss;subst hes;rw[Bh]at hc;obtain⟨⟨⟨hg,hl⟩,h0⟩,hb⟩:=hc;subst hg;subst hl;obtain⟨x,rfl,hx⟩:=GX hr;obtain⟨B,c,c',hp,h1,rfl,h2,h3⟩:=MT hx h0;obtain⟨hH,hB,hc⟩:=Ob sim hk hp;refine(Any.slices_Compact_int Ly B 0 c' ss w hH (by omega) h3).mono fun e w' he => ?_
     obtain⟨rfl,q,rfl⟩:=he;have hcl:=Jc ss;have ht:=Oc sim hk hp (ss':=Lib.compact ss++List.replicate (ss.length - (Lib.compact ss).length) 0) (by simp;omega) q #[];rw[grow_empty]at ht;refine⟨g,Le.refl g,ht,?_⟩;have:=Rel.hs (g:=g) id ss.length 1 0 (Lib.compact ss).length false B c 0 c' hp (by omega) (by simpa using h2) (fun _=>rfl);exact this
    .cases he
   .cases he
  .cases he
 .simp only[AN,Bk]at he;obtain⟨rfl,rfl⟩:=he;obtain⟨x,rfl,hx⟩:=GX hr;cases hx;refine(Any.slices_Compact_int_empty Ly none 0 w).mono fun e w' he => ?_
  obtain⟨rfl,rfl⟩:=he;exact⟨g,Le.refl g,sim,.AH _⟩
 .cases he
end
end Go.Am
namespace Go.Proofs.Am12
open Go Go.Am Tryz
def effX(f:FuncId):Option (List AV->AF->Option (CR×AF)):=match Nat.beq f 149 with
 | true=>some Qb
 | false=>match Nat.beq f 150 with
  | true=>some Jb
  | false=>match Nat.beq f 184 with
   | true=>some K9
   | false=>match Nat.beq f 170 with
    | true=>some Qd
    | false=>match Nat.beq f 171 with
     | true=>some Jf
     | false=>none
def Y5:FuncId->Bool:=fun f=>Nat.beq f 101||(Nat.beq f 174||(Nat.beq f 197||(Nat.beq f 216||(Nat.beq f 238||(Nat.beq f 239||(Nat.beq f 265||(Nat.beq f 79||(Nat.beq f 82||(Nat.beq f 83||(Nat.beq f 116||(Nat.beq f 147||(Nat.beq f 182||(Nat.beq f 199||(Nat.beq f 63||(Nat.beq f 159||(Nat.beq f 189||(Nat.beq f 218||(Nat.beq f 246))))))))))))))))))
def WR:FuncId->Bool:=fun f=>Nat.beq f 76||(Nat.ble 123 f&&Nat.ble f 133 && !Nat.beq f 125 && !Nat.beq f 130)||Nat.beq f 167||Nat.beq f 172||Nat.beq f 28
noncomputable def MX:Par := { MW with eff:=effX,eqs:=fun t=>Nat.beq t 99,mode:=fun f=>match Y5 f with
 | true => {}
 | false=>match WR f with
  | true => { fresh:=true }
  | false=>MW.mode f }
theorem cI:Fits MX Tryz.prog:=⟨QV.ty,QV.fn,QV.mixed,QV.fld,QV.elm,fun t h=>by
 have:=Bl.1 h;subst this;exact⟨by kernel_rfl,by kernel_rfl⟩⟩
theorem primX:Dc MX Tryz.prog:=fun f p hp=>primW f p hp
theorem dK:V1 MX Tryz.prog:=by
 intro f e he args h r h' hr;change effX f=some e at he;unfold effX at he;split at he
 .rename_i hf;have:=Bl.1 hf;subst this;simp only[AN]at he;subst he;exact⟨⟨f149,_,by kernel_rfl,rfl⟩,fun g fr w cargs sim ha=>Y4 Tryz.Y1 hr sim ha⟩
 .split at he
  .rename_i hf;have:=Bl.1 hf;subst this;simp only[AN]at he;subst he;exact⟨⟨f150,_,by kernel_rfl,rfl⟩,fun g fr w cargs sim ha=>R6 Tryz.Y2 hr sim ha⟩
  .split at he
   .rename_i hf;have:=Bl.1 hf;subst this;simp only[AN]at he;subst he;exact⟨⟨f184,_,by kernel_rfl,rfl⟩,fun g fr w cargs sim ha=>Ub Tryz.Yz hr sim ha⟩
   .split at he
    .rename_i hf;have:=Bl.1 hf;subst this;simp only[AN]at he;subst he;exact⟨⟨f170,_,by kernel_rfl,rfl⟩,fun g fr w cargs sim ha=>WQ Tryz.Y3 hr sim ha⟩
    .split at he
     .rename_i hf;have:=Bl.1 hf;subst this;simp only[AN]at he;subst he;exact⟨⟨f171,_,by kernel_rfl,rfl⟩,fun g fr w cargs sim ha=>Qe Tryz.Ua hr sim ha⟩
     .cases he
end Go.Proofs.Am12
namespace Go.Am
open Go
def CLe(C C':CH):Prop:=∀ f a h r,C f a h=some r->C' f a h=some r
section
variable{M:Par}{C C':CH}(hC:CLe C C')
include hC
theorem Qf:CLe (AI M C) (AI M C'):=by
 intro f a h r hr;unfold AI at hr ⊢;split at hr
 .exact hC _ _ _ _ hr
 .split at hr
  .cases hr
  .split at hr
   .cases hr
   .cases hc:C f _ []with
    | none=>rw[hc]at hr;cases hr
    | some x=>rw[hc]at hr;rw[hC _ _ _ _ hc];exact hr
theorem Od{fid:Nat}{t:Tm}{op:Op}{h:AF}{r:OR}(hr:Al M fid C t op h=some r):Al M fid C' t op h=some r:=by
 cases op with
 | makeFunc f _ _=>cases f <;> exact hr
 | makeMap _ r0=>cases r0 <;> exact hr
 | call c=>
  obtain⟨callee,args,ats⟩:=c;cases callee with
  | value f=>
   simp only[Al,Ej]at hr ⊢;split at hr
   .split at hr
    .exact hr
    .rename_i g fs cap vs _ _ _ _;cases hd:AI M C g (fs++vs++cap) h with
     | none=>rw[hd]at hr;cases hr
     | some x=>rw[hd]at hr;rw[Qf hC _ _ _ _ hd];exact hr
   .cases hr
  | builtin b=>exact hr
  | invoke=>exact hr
 | _=>exact hr
theorem IJ{fid N:Nat}{ops:Array Oper}:∀{l:List Oper} {t:Tm} {h:AF} {ks:List Kd} {r:RO},Ar M fid N C ops l t h ks=some r->Ar M fid N C' ops l t h ks=some r
 | [],_,_,_,_,hr=>hr
 | o::l,t,h,ks,r,hr=>by
  simp only[Ar]at hr ⊢;split at hr
  .cases hr
  .split at hr
   .rename_i hp;exact IJ hr
   .cases hr
  .cases ho:Al M fid C t o.op h with
   | none=>rw[ho]at hr;cases hr
   | some x=>
    rw[ho]at hr;rw[Od hC ho];cases x with
    | val v h'=>
     simp only at hr ⊢;split at hr
     .exact IJ hr
     .cases hr
    | pan v h'=>exact hr
theorem Ph{fid N id:Nat}{ops:Array Oper}{d:Bool}{s:St}{r:Ex×St}(hr:BZ M fid N C id ops d s=some r):BZ M fid N C' id ops d s=some r:=by
 unfold BZ at hr ⊢;cases ho:Ar M fid N C ops ops.toList s.1 s.2 []with
 | none=>rw[ho]at hr;cases hr
 | some x=>rw[ho]at hr;rw[IJ hC ho];exact hr
end
theorem J3{f g:St->Option (Ex×St)}(hf:∀ s r,f s=some r->g s=some r):∀{n m:Nat} {s:St} {r:Ex×St},n<=m->iter n f s=some r->iter m g s=some r
 | 0,_,_,_,_,h=>by cases h
 | n+1,0,_,_,hle,_=>by omega
 | n+1,m+1,s,r,hle,h=>by
  simp only[iter]at h ⊢;cases hs:f s with
  | none=>rw[hs]at h;cases h
  | some x=>
   rw[hs]at h;rw[hf _ _ hs];obtain⟨e,s'⟩:=x;cases e with
   | nrm=>exact J3 hf (by omega) h
   | ext=>exact h
   | ret=>exact h
   | pan=>exact h
theorem DK{M:Par}{C C':CH}(hC:CLe C C'){fid N L L':Nat}(hL:L<=L'):∀{c:Code} {s:St} {r:Ex×St},codeF M fid N C L c s=some r->codeF M fid N C' L' c s=some r
 | .skip,_,_,h=>h
 | .region id ops d,s,r,h=>by simp only[codeF]at h ⊢;exact Ph hC h
 | .seq a b,s,r,h=>by
  simp only[codeF]at h ⊢;cases ha:codeF M fid N C L a s with
  | none=>rw[ha]at h;cases h
  | some x=>
   rw[ha]at h;rw[DK hC hL ha];obtain⟨e,s'⟩:=x;cases e with
   | nrm=>exact DK hC hL h
   | ext=>exact h
   | ret=>exact h
   | pan=>exact h
 | .cond c a b,s,r,h=>by
  simp only[codeF]at h ⊢;split at h
  .exact DK hC hL h
  .exact DK hC hL h
  .cases h
 | .block id c,s,r,h=>by
  simp only[codeF]at h ⊢;cases ha:codeF M fid N C L c s with
  | none=>rw[ha]at h;cases h
  | some x=>rw[ha]at h;rw[DK hC hL ha];exact h
 | .loop c,s,r,h=>by
  simp only[codeF]at h ⊢;exact J3 (fun s r h=>DK hC hL h) hL h
 | .exit _,_,_,h=>h
 | .ret,_,_,h=>h
 | .scope _,_,_,h=>by simp[codeF]at h
 | .rangeFunc ..,_,_,h=>by simp[codeF]at h
 | .label _,_,_,h=>by simp[codeF]at h
 | .goto _,_,_,h=>by simp[codeF]at h
 | .refuse _,_,_,h=>by simp[codeF]at h
theorem Uc{M:Par}{C C':CH}(hC:CLe C C'){L L':Nat}(hL:L<=L'):CLe (MK M C L) (MK M C' L'):=by
 intro f a h r hr;unfold MK at hr ⊢;split at hr
 .cases hr
 .rename_i fn hfn;split at hr
  .cases hr
  .rename_i c hc;split at hr
   .rename_i hle;cases hx:codeF M f fn.ntmps C L c (Tm.init 0 a,h)with
    | none=>rw[hx]at hr;cases hr
    | some x=>rw[hx]at hr;rw[DK hC hL hx];exact hr
   .cases hr
theorem ND(M:Par):∀ n,CLe (EA M n) (EA M (n+1))
 | 0=>fun f a h r hr=>by cases hr
 | n+1=>fun f a h r hr=>by
  simp only[EA]at hr ⊢;split at hr
  .exact hr
  .exact Uc (ND M n) (Nat.le_succ n) f a h r hr
theorem Et(M:Par){n m:Nat}(h:n<=m):CLe (EA M n) (EA M m):=by
 induction m with
 | zero=>rw[Lk.1 h];exact fun _ _ _ _ h=>h
 | succ m ih=>
  by_cases he:n=m+1
  .rw[he];exact fun _ _ _ _ h=>h
  .exact fun f a hh r hr=>ND M m f a hh r (ih (by omega) f a hh r hr)
end Go.Am
namespace Go.Am
open Go
open Classical in
noncomputable def lim{α β:Type}(F:Nat->α->Option β)(x:α):Option β:=if h:∃ r,∃ n,F n x=some r then some (Classical.choose h)else none
theorem Qg{α β:Type}{F:Nat->α->Option β}(hm:∀ n m x r,n<=m->F n x=some r->F m x=some r){x:α}{r:β}:lim F x=some r↔∃ n,F n x=some r:=by
 unfold lim;constructor
 .intro h;split at h
  .rename_i hx;simp only[AN]at h;rw[<- h];exact Classical.choose_spec hx
  .cases h
 .rintro⟨n,hn⟩;have hx:∃ r,∃ n,F n x=some r:=⟨r,n,hn⟩;rw[dif_pos hx];obtain⟨m,hm'⟩:=Classical.choose_spec hx;have h1:=hm _ (max n m) _ _ (HM n m) hn;have h2:=hm _ (max n m) _ _ (Hj n m) hm';rw[h1]at h2;exact h2.symm
noncomputable def Oe(f:St->Option (Ex×St))(s:St):Option (Ex×St):=lim (fun n s=>iter n f s) s
theorem Iw{f:St->Option (Ex×St)}{s:St}{r:Ex×St}:Oe f s=some r↔∃ n,iter n f s=some r:=
 Qg (F:=fun n s=>iter n f s) fun n m x r h hr=>J3 (fun _ _ h=>h) h hr
theorem R7{f:St->Option (Ex×St)}{s s':St}{r:Ex×St}(h:f s=some (.nrm,s'))(hl:Oe f s'=some r):Oe f s=some r:=by
 obtain⟨n,hn⟩:=Iw.1 hl;exact Iw.2 ⟨n+1,by simp only[iter,h];exact hn⟩
theorem Ud{f:St->Option (Ex×St)}{s s':St}{e:Ex}(h:f s=some (e,s'))(he:e≠.nrm):Oe f s=some (e,s'):=by
 refine Iw.2 ⟨1,?_⟩;simp only[iter,h];cases e <;> first | rfl | exact absurd rfl he
noncomputable def AO(M:Par)(fid N:Nat)(C:CH):Code->St->Option (Ex×St)
 | .skip,s=>some (.nrm,s)
 | .region id ops d,s=>BZ M fid N C id ops d s
 | .seq a b,s=>match AO M fid N C a s with
  | some (.nrm,s')=>AO M fid N C b s'
  | r=>r
 | .cond c a b,s=>match ev s.1 c with
  | some (.bool true)=>AO M fid N C a s
  | some (.bool false)=>AO M fid N C b s
  | _=>none
 | .block id c,s=>match AO M fid N C c s with
  | some (.ext j,s')=>match Nat.beq j id with
   | true=>some (.nrm,s')
   | false=>some (.ext j,s')
  | r=>r
 | .loop c,s=>Oe (AO M fid N C c) s
 | .exit id,s=>some (.ext id,s)
 | .ret,s=>some (.ret,s)
 | _,_=>none
noncomputable def AE(M:Par):CH:=fun f a h=>lim (fun n (x:FuncId×List AV×AF)=>EA M n x.1 x.2.1 x.2.2) (f,a,h)
theorem Gr{M:Par}{f:FuncId}{a:List AV}{h:AF}{r:CR×AF}:AE M f a h=some r↔∃ n,EA M n f a h=some r:=
 Qg (F:=fun n (x:FuncId×List AV×AF)=>EA M n x.1 x.2.1 x.2.2) fun n m x r h hr=>Et M h _ _ _ _ hr
noncomputable def AJ(M:Par)(f:FuncId)(args:List AV)(h:AF):Option (CR×AF):=
 match M.fn f with
 | none=>none
 | some fn=>match fn.body with
  | none=>none
  | some c=>match Nat.ble args.length fn.ntmps with
   | true=>finish M.ty fn (AO M f fn.ntmps (AE M) c (Tm.init 0 args,h))
   | false=>none
section
variable{M:Par}
theorem R8{f:FuncId}{a:List AV}{h:AF}{r:CR×AF}(hr:AI M (AE M) f a h=some r):∃ n,AI M (EA M n) f a h=some r:=by
 unfold AI at hr;split at hr
 .rename_i hf;obtain⟨n,hn⟩:=Gr.1 hr;exact⟨n,by unfold AI;rw[hf];exact hn⟩
 .rename_i hf;split at hr
  .cases hr
  .rename_i args' h' hs;split at hr
   .cases hr
   .rename_i hn;cases hc:AE M f args' []with
    | none=>rw[hc]at hr;cases hr
    | some x=>
     obtain⟨n,hn'⟩:=Gr.1 hc;refine⟨n,?_⟩;rw[hc]at hr;unfold AI;simp only[hf,hs,hn,hn'];exact hr
theorem WS{fid:Nat}{t:Tm}{op:Op}{h:AF}{r:OR}(hr:Al M fid (AE M) t op h=some r):∃ n,Al M fid (EA M n) t op h=some r:=by
 cases op with
 | makeFunc f _ _=>cases f <;> exact⟨0,hr⟩
 | makeMap _ r0=>cases r0 <;> exact⟨0,hr⟩
 | call c=>
  obtain⟨callee,args,ats⟩:=c;cases callee with
  | value f=>
   simp only[Al,Ej]at hr ⊢;split at hr
   .split at hr
    .exact⟨0,hr⟩
    .rename_i g fs cap vs _ _ _ _;cases hd:AI M (AE M) g (fs++vs++cap) h with
     | none=>rw[hd]at hr;cases hr
     | some x=>
      rw[hd]at hr;obtain⟨n,hn⟩:=R8 hd;exact⟨n,by rw[hn];exact hr⟩
   .cases hr
  | builtin b=>exact⟨0,hr⟩
  | invoke=>exact⟨0,hr⟩
 | _=>exact⟨0,hr⟩
theorem Kb{fid N:Nat}{ops:Array Oper}:∀{l:List Oper} {t:Tm} {h:AF} {ks:List Kd} {r:RO},Ar M fid N (AE M) ops l t h ks=some r->∃ n,Ar M fid N (EA M n) ops l t h ks=some r
 | [],_,_,_,_,hr=>⟨0,hr⟩
 | o::l,t,h,ks,r,hr=>by
  simp only[Ar]at hr ⊢;split at hr
  .cases hr
  .split at hr
   .exact Kb hr
   .cases hr
  .cases ho:Al M fid (AE M) t o.op h with
   | none=>rw[ho]at hr;cases hr
   | some x=>
    obtain⟨n,hn⟩:=WS ho;rw[ho]at hr;cases x with
    | val v h'=>
     simp only at hr;split at hr
     .rename_i t' hp;obtain⟨m,hm⟩:=Kb hr;refine⟨max n m,?_⟩;rw[Od (Et M (HM n m)) hn];simp only[hp];exact IJ (Et M (Hj n m)) hm
     .cases hr
    | pan v h'=>exact⟨n,by rw[hn];exact hr⟩
theorem Gs{fid N:Nat}:∀{c:Code} {s:St} {r:Ex×St},AO M fid N (AE M) c s=some r->∃ n,codeF M fid N (EA M n) n c s=some r
 | .skip,_,_,h=>⟨0,h⟩
 | .region id ops d,s,r,h=>by
  simp only[AO]at h;simp only[codeF];unfold BZ at h ⊢;cases ho:Ar M fid N (AE M) ops ops.toList s.1 s.2 []with
  | none=>rw[ho]at h;cases h
  | some x=>
   obtain⟨n,hn⟩:=Kb ho;rw[ho]at h;exact⟨n,by rw[hn];exact h⟩
 | .seq a b,s,r,h=>by
  simp only[AO]at h;simp only[codeF];cases ha:AO M fid N (AE M) a s with
  | none=>rw[ha]at h;cases h
  | some x=>
   obtain⟨n,hn⟩:=Gs ha;rw[ha]at h;obtain⟨e,s'⟩:=x;cases e with
   | nrm=>
    obtain⟨m,hm⟩:=Gs (c:=b) h;refine⟨max n m,?_⟩;rw[DK (Et M (HM n m)) (HM n m) hn];exact DK (Et M (Hj n m)) (Hj n m) hm
   | ext=>exact⟨n,by rw[hn];exact h⟩
   | ret=>exact⟨n,by rw[hn];exact h⟩
   | pan=>exact⟨n,by rw[hn];exact h⟩
 | .cond c a b,s,r,h=>by
  simp only[AO]at h;simp only[codeF];split at h
  .rename_i hc;obtain⟨n,hn⟩:=Gs h;exact⟨n,by rw[hc];exact hn⟩
  .rename_i hc;obtain⟨n,hn⟩:=Gs h;exact⟨n,by rw[hc];exact hn⟩
  .cases h
 | .block id c,s,r,h=>by
  simp only[AO]at h;simp only[codeF];cases ha:AO M fid N (AE M) c s with
  | none=>rw[ha]at h;cases h
  | some x=>
   obtain⟨n,hn⟩:=Gs ha;rw[ha]at h;exact⟨n,by rw[hn];exact h⟩
 | .loop c,s,r,h=>by
  simp only[AO]at h;simp only[codeF];obtain⟨k,hk⟩:=Iw.1 h;have key:∀(k:Nat) (s:St),iter k (AO M fid N (AE M) c) s=some r->∃ n,iter n (codeF M fid N (EA M n) n c) s=some r:=by
   intro k;induction k with
   | zero=>intro s h;cases h
   | succ k ih=>
    intro s h;simp only[iter]at h;cases ha:AO M fid N (AE M) c s with
    | none=>rw[ha]at h;cases h
    | some x=>
     obtain⟨n,hn⟩:=Gs ha;rw[ha]at h;obtain⟨e,s'⟩:=x;cases e with
     | nrm=>
      obtain⟨m,hm⟩:=ih s' h;refine⟨max n m+1,?_⟩;simp only[iter];rw[DK (Et M (by omega)) (by omega:n<=max n m+1) hn];exact J3 (fun s r h=>DK (Et M (by omega)) (by omega:m<=max n m+1) h) (Hj n m) hm
     | ext=>exact⟨n+1,by simp only[iter];rw[DK (Et M (by omega)) (by omega:n<=n+1) hn];exact h⟩
     | ret=>exact⟨n+1,by simp only[iter];rw[DK (Et M (by omega)) (by omega:n<=n+1) hn];exact h⟩
     | pan=>exact⟨n+1,by simp only[iter];rw[DK (Et M (by omega)) (by omega:n<=n+1) hn];exact h⟩
  exact key k s hk
 | .exit _,_,_,h=>⟨0,h⟩
 | .ret,_,_,h=>⟨0,h⟩
 | .scope _,_,_,h=>by simp[AO]at h
 | .rangeFunc ..,_,_,h=>by simp[AO]at h
 | .label _,_,_,h=>by simp[AO]at h
 | .goto _,_,_,h=>by simp[AO]at h
 | .refuse _,_,_,h=>by simp[AO]at h
theorem Ie{f:FuncId}{a:List AV}{h:AF}{r:CR×AF}(he:M.eff f=none)(hr:AJ M f a h=some r):AE M f a h=some r:=by
 unfold AJ at hr;split at hr
 .cases hr
 .rename_i fn hfn;split at hr
  .cases hr
  .rename_i c hc;split at hr
   .rename_i hle;cases hx:AO M f fn.ntmps (AE M) c (Tm.init 0 a,h)with
    | none=>rw[hx]at hr;cases hr
    | some x=>
     obtain⟨n,hn⟩:=Gs hx;rw[hx]at hr;refine Gr.2 ⟨n+1,?_⟩;simp only[EA,he];unfold MK;simp only[hfn,hc,hle,hn];exact hr
   .cases hr
theorem Lr{f:FuncId}{a:List AV}{h:AF}{r:CR×AF}{e:List AV->AF->Option (CR×AF)}(he:M.eff f=some e)(hr:e a h=some r):AE M f a h=some r:=
 Gr.2 ⟨1,by simp only[EA,he];exact hr⟩
end
def CQ:Code->List Code
 | .seq a b=>CQ a++CQ b
 | .cond _ a b=>CQ a++CQ b
 | .block _ c=>CQ c
 | .loop c=>c::CQ c
 | _=>[]
def AL(fn:Func)(k:Nat):Code:=match fn.body with
 | some c=>(CQ c).getD k .skip
 | none=> .skip
theorem Jg{i n:Nat}(h:i<n):Fu (i:Int) n=some i:=by
 have h2:((i:Int)<(n:Int)):=by omega
 simp[Fu,h]
theorem Cl{n:Int}(h:0<=n)(h2:n<9223372036854775808):wr .i64 n=n:=by
 simp[wr,Ia,h,h2]
section
variable(M:Par)(fid N:Nat)(C:CH)
noncomputable def EV(c:Code)(s:St):Option (Ex×St):=Oe (AO M fid N C c) s
theorem C7(s:St):AO M fid N C .skip s=some (.nrm,s):=rfl
theorem Br(id:Nat)(ops:Array Oper)(d:Bool)(s:St):AO M fid N C (.region id ops d) s=BZ M fid N C id ops d s:=rfl
theorem EW(a b:Code)(s:St):AO M fid N C (.seq a b) s=(match AO M fid N C a s with
 | some (.nrm,s')=>AO M fid N C b s'
 | r=>r):=rfl
theorem DL(c:Operand)(a b:Code)(s:St):AO M fid N C (.cond c a b) s=(match ev s.1 c with
 | some (.bool true)=>AO M fid N C a s
 | some (.bool false)=>AO M fid N C b s
 | _=>none):=rfl
theorem CG(id:Nat)(c:Code)(s:St):AO M fid N C (.block id c) s=(match AO M fid N C c s with
 | some (.ext j,s')=>(match Nat.beq j id with
  | true=>some (.nrm,s')
  | false=>some (.ext j,s'))
 | r=>r):=rfl
theorem Dd(c:Code)(s:St):AO M fid N C (.loop c) s=EV M fid N C c s:=rfl
theorem Du(id:Nat)(s:St):AO M fid N C (.exit id) s=some (.ext id,s):=rfl
theorem Eu(s:St):AO M fid N C .ret s=some (.ret,s):=rfl
variable{M fid N C}
theorem NF{c:Code}{s s':St}{r:Ex×St}(h:AO M fid N C c s=some (.nrm,s'))(hl:EV M fid N C c s'=some r):EV M fid N C c s=some r:=R7 h hl
theorem Hd{c:Code}{s s':St}{e:Ex}(h:AO M fid N C c s=some (e,s'))(he:e≠.nrm):EV M fid N C c s=some (e,s'):=Ud h he
end
end Go.Am
namespace Go.Am
open Go
def ld1(h:AF)(p:AV):Option AV:=(D2 h p).bind List.head?
def Fl(n:Nat)(cs:List AV):Option AV:=match Nat.ble n cs.length with
 | true=>some (.agg (cs.take n))
 | false=>none
def ldN(n:Nat)(h:AF)(p:AV):Option AV:=(D2 h p).bind (Fl n)
def faA(off:Nat)(p:AV):Option AV:=match p with
 | .ro cs=>some (.ro (cs.drop off))
 | .hp id o=>some (.hp id (o+off))
 | .ep id gen sz i k=>some (.ep id gen sz i (k+off))
 | _=>none
def stA(n:Nat)(h:AF)(p v:AV):Option AF:=
 match v.cells with
 | some cs=>
  match Nat.beq cs.length n with
  | true=>match p with
   | .hp id off=>match h[id]? with
    | some (.var false old)=>match Nat.ble (off+cs.length) old.length with
     | true=>some (h.set id (.var false (Ay old off cs)))
     | false=>none
    | _=>none
   | .ep id gen sz' i k=>match h[id]? with
    | some (.arr sz false es)=>match Nat.beq es.length gen&&Nat.beq sz sz',es[i]? with
     | true,some e=>match Nat.ble (k+cs.length) e.length with
      | true=>some (h.set id (.arr sz false (es.set i (Ay e k cs))))
      | false=>none
     | _,_=>none
    | _=>none
   | _=>none
  | false=>none
 | none=>none
def ixA(sz:Nat)(x ix:AV):Option AV:=
 match x,intOf ix with
 | .sl s _ es,some i=>match Nat.beq s sz&&true,Fu i es.length with
  | true,some j=>(es[j]?).map .ro
  | _,_=>none
 | .hs id gen s off len _,some i=>match Nat.beq s sz&&true,Fu i len with
  | true,some j=>some (.ep id gen s (off+j) 0)
  | _,_=>none
 | _,_=>none
def ixS(x ix:AV):Option AV:=
 match x,intOf ix with
 | .str s,some i=>match Fu i s.length with
  | some j=>(s[j]?).map fun b=> .int .u8 b.toNat
  | none=>none
 | _,_=>none
def BI(x:AV)(h:AF):Option OR:=match x with
 | .AH=>some (.val (.int .i64 0) h)
 | .sl _ _ es=>some (.val (.int .i64 es.length) h)
 | .hs _ _ _ _ l _=>some (.val (.int .i64 l) h)
 | _=>none
def cJ(x:AV)(h:AF):Option OR:=match x with
 | .str s=>some (.val (.int .i64 s.length) h)
 | _=>none
def cK(x:AV)(h:AF):Option OR:=match x with
 | .AH=>some (.val (.int .i64 0) h)
 | .sl _ true es=>some (.val (.int .i64 es.length) h)
 | .hs _ _ _ _ l true=>some (.val (.int .i64 l) h)
 | _=>none
def apX(sz byt:Nat)(s:AV)(xs:List (List AV))(n:Nat)(h:AF):Option (AV×AF):=
 match CC sz s&&Nat.blt 0 sz&&Nat.ble ((n+xs.length) * byt) 17592186044416&&Nat.ble (n+xs.length) 17592186044416&&true with
 | false=>none
 | true=>match xs with
  | []=>match s with
   | .AH=>some (s,h)
   | .sl .. => some (s,h)
   | .hs .. => some (s,h)
   | _=>none
  | _::_=>match s with
   | .AH=>some (A3 h sz xs)
   | .sl _ true es=>some (A3 h sz (es++xs))
   | .hs id gen sz0 off len ex=>match h[id]? with
    | some (.arr sz' lk es)=>match Nat.beq es.length gen&&Nat.beq sz' sz0&&Nat.ble (off+len) es.length with
     | false=>none
     | true=>match ex with
      | true=>some (A3 h sz ((es.drop off).take len++xs))
      | false=>match Nat.beq off 0&&(Nat.beq len es.length||(!lk&&Nat.blt es.length (len+xs.length)))with
       | true=>some (.hs id (len+xs.length) sz0 0 (len+xs.length) false,h.set id (.arr sz0 lk (es.take len++xs)))
       | false=>match !lk&&Nat.ble (off+len+xs.length) es.length with
        | true=>some (.hs id gen sz0 off (len+xs.length) false,h.set id (.arr sz0 lk (es.take (off+len)++xs++es.drop (off+len+xs.length))))
        | false=>none
    | _=>none
   | _=>none
def apA(sz byt:Nat)(s x:AV)(h:AF):Option (AV×AF):=
 match(match x with
  | .str b=>match Nat.beq sz 1 with
   | true=>some (DF b)
   | false=>none
  | _=>match CC sz x with
   | true=>A7 h x
   | false=>none),F6 s with
 | some xs,some n=>apX sz byt s xs n h
 | _,_=>none
def Bn(cells:List AV):List (Nat×Nat×AV)->Option (List AV)
 | []=>some cells
 | (off,size,v)::rest=>match v.cells with
  | some cs=>match Nat.beq cs.length size&&Nat.ble (off+cs.length) cells.length with
   | true=>Bn (Ay cells off cs) rest
   | false=>none
  | none=>none
def R9(T:Ty)(t:TypeId)(i:Nat):Option (Nat×Nat):=match und T t with
 | some (.struct fs)=>(fs[i]?).map fun f=>(f.offset,siz T f.type)
 | _=>none
def isStr(d:Option TypeDesc):Bool:=match d with
 | some (.struct _)=>true
 | _=>false
theorem Eo{T:Ty}{t:TypeId}{zero:List AV}(tr:List (Nat×Nat×Nat))(vs:List AV)(hz:Ei T t=some zero)(hs:isStr (und T t)=true)(hp:tr.all (fun q=>match R9 T t q.1 with
 | some (a,b)=>Nat.beq a q.2.1&&Nat.beq b q.2.2
 | none=>false)=true):CW T t (List.zipWith (fun q v=>(q.1,v)) tr vs)=(Bn zero (List.zipWith (fun q v=>(q.2.1,q.2.2,v)) tr vs)).map .agg:=by
 unfold CW;cases hu:und T t with
 | none=>rw[hu]at hs;cases hs
 | some d=>
  cases d with
  | struct fs=>
   simp only[hz]
   congr 1
   have key:∀(tr:List (Nat×Nat×Nat)) (vs cells:List AV),tr.all (fun q=>match R9 T t q.1 with
    | some (a,b)=>Nat.beq a q.2.1&&Nat.beq b q.2.2
    | none=>false)=true->JN (fun i=>(fs[i]?).map fun f=>(f.offset,siz T f.type)) cells (List.zipWith (fun q v=>(q.1,v)) tr vs)=Bn cells (List.zipWith (fun q v=>(q.2.1,q.2.2,v)) tr vs):=by
    intro tr;induction tr with
    | nil=>intro vs cells _;rfl
    | cons q tr ih=>
     intro vs cells hp;cases vs with
     | nil=>rfl
     | cons v vs=>
      rw[JL,BU]at hp;obtain⟨h1,h2⟩:=hp;have hpl:(fs[q.1]?).map (fun f=>(f.offset,siz T f.type))=some (q.2.1,q.2.2):=by
       unfold R9 at h1;rw[hu]at h1;simp only at h1;cases hm:(fs[q.1]?).map (fun f=>(f.offset,siz T f.type))with
       | none=>rw[hm]at h1;cases h1
       | some x=>
        rw[hm]at h1;obtain⟨a,b⟩:=x;simp only[BU]at h1;rw[P8 h1.1,P8 h1.2]
      simp only[List.zipWith_cons_cons,JN,Bn,hpl];cases v.cells with
      | none=>rfl
      | some cs=>
       show(match cs.length.beq q.2.2&&(q.2.1+cs.length).ble cells.length with
        | true=>JN _ (Ay cells q.2.1 cs) _
        | false=>none)=(match cs.length.beq q.2.2&&(q.2.1+cs.length).ble cells.length with
        | true=>Bn (Ay cells q.2.1 cs) _
        | false=>none)
       cases cs.length.beq q.2.2&&(q.2.1+cs.length).ble cells.length with
       | true=>exact ih _ _ h2
       | false=>rfl
   exact key tr vs zero hp
  | _=>rw[hu]at hs;cases hs
def bsA(sz:Nat)(zero:List AV)(ml:Bool)(len:Nat)(parts:List (Nat×AV))(h:AF):Option (AV×AF):=
 match Aq sz (List.replicate len zero) parts with
 | some es=>match !ml&&es.all AG with
  | true=>some (.sl sz true es,h)
  | false=>some (A3 h sz es)
 | none=>none
def lkA(d:Option TypeDesc)(z m k:AV)(ok:Bool)(h:AF):Option AV:=
 match(match m with | .Ga=>some [] | .hm id=>(match h[id]? with | some (.mp es)=>some es | _=>none) | _=>none)with
 | none=>none
 | some es=>match(match En d k k with | some _=>G0 d k es | none=>none)with
  | some r=>match ok with
   | true=>some (.tup [r.getD z,.bool r.isSome])
   | false=>some (r.getD z)
  | none=>none
def upA(d:Option TypeDesc)(m k v:AV)(h:AF):Option AF:=
 match m with
 | .hm id=>match h[id]? with
  | some (.mp es)=>match(match En d k k with | some _=>G0 d k es | none=>none)with
   | some _=>some (h.set id (.mp (MJ d k v es)))
   | none=>none
  | _=>none
 | _=>none
def slA(sz:Nat)(x:AV)(lo hi mx:Option AV):Option AV:=
 match mx.isSome&&hi.isNone with
 | true=>none
 | false=>match x with
  | .AH=>match C9 0 lo,C9 0 hi,C9 0 mx with
   | some 0,some 0,some 0=>some .AH
   | _,_,_=>none
  | .sl s ex es=>match Nat.beq s sz&&true,(C9 es.length hi).bind (F7 · es.length),C9 0 lo with
   | true,some b,some l=>match F7 l b,KX b mx with
    | some a,true=>some (.sl s (mx.isSome||(ex&&Nat.beq b es.length)) ((es.drop a).take (b - a)))
    | _,_=>none
   | _,_,_=>none
  | .hs id gen s off len ex=>match Nat.beq s sz&&true,(C9 len hi).bind (F7 · len),C9 0 lo with
   | true,some b,some l=>match F7 l b,KX b mx&&(mx.isSome || !ex||Nat.beq b len)with
    | some a,true=>some (.hs id gen s (off+a) (b - a) (mx.isSome||ex))
    | _,_=>none
   | _,_,_=>none
  | _=>none
def cvI(k:IntKind)(x:AV)(h:AF):Option (AV×AF):=match x with
 | .int _ n=>some (.int k (wr k n),h)
 | _=>none
def cvB(x:AV)(h:AF):Option (AV×AF):=match x with
 | .str s=>some (A3 h 1 (DF s))
 | _=>none
theorem E1{T:Ty}{t:TypeId}{n:Nat}(h1:(T t).isSome=true)(h2:siz T t=n)(h:AF)(p v:AV):Cb T h t p v=stA n h p v:=by
 unfold Cb stA;unfold siz at h2;cases ht:T t with
 | none=>rw[ht]at h1;cases h1
 | some i=>
  rw[ht]at h2;subst h2;cases v.cells <;> rfl
theorem lk_of{T:Ty}{t kt e:TypeId}{z:AV}(hu:und T t=some (.map kt e))(hk:und T kt=some .string)(hz:zeroV T e=some z)(m k:AV)(ok:Bool)(h:AF):HS T t m k ok h=lkA (some .string) z m k ok h:=by
 have e:∀(x:Option (List (AV×AV))),(match x with
  | none=>none
  | some es=>match(match En (some .string) k k with | some _=>G0 (some .string) k es | none=>none),some z with
   | some r,some z=>(match ok with
    | true=>some (.tup [r.getD z,.bool r.isSome])
    | false=>some (r.getD z))
   | _,_=>none)=(match x with
  | none=>none
  | some es=>match(match En (some .string) k k with | some _=>G0 (some .string) k es | none=>none)with
   | some r=>(match ok with
    | true=>some (AV.tup [r.getD z,.bool r.isSome])
    | false=>some (r.getD z))
   | none=>none):=by
  intro x;cases x with
  | none=>rfl
  | some es=>
   show(match(match En (some .string) k k with | some _=>G0 (some .string) k es | none=>none),some z with
    | some r,some z=>(match ok with
     | true=>some (.tup [r.getD z,.bool r.isSome])
     | false=>some (r.getD z))
    | _,_=>none)=(match(match En (some .string) k k with | some _=>G0 (some .string) k es | none=>none)with
    | some r=>(match ok with
     | true=>some (AV.tup [r.getD z,.bool r.isSome])
     | false=>some (r.getD z))
    | none=>none)
   cases En (some .string) k k with
   | none=>rfl
   | some b=>cases hf:G0 (some .string) k es <;> simp only[hf]
 unfold HS lkA;simp only[hu,hk,hz];exact e _
section
variable(h:AF)(cs:List AV)(c:AV)(n i off id gen sz k len:Nat)(ex:Bool)(es:List (List AV))
theorem F8:D2 h (.ro cs)=some cs:=rfl
theorem F9:D2 h (.hp id off)=(match h[id]? with
 | some (.var _ cs)=>some (cs.drop off)
 | _=>none):=rfl
theorem Fm:D2 h (.ep id gen sz i k)=(match h[id]? with
 | some (.arr sz' _ es)=>(match Nat.beq es.length gen&&Nat.beq sz' sz with
  | true=>(es[i]?).map (·.drop k)
  | false=>none)
 | _=>none):=rfl
theorem Dv(p:AV):ld1 h p=(D2 h p).bind List.head? := rfl
theorem Dw(p:AV):ldN n h p=(D2 h p).bind (Fl n):=rfl
theorem Ev:faA off (.ro cs)=some (.ro (cs.drop off)):=rfl
theorem Ew:faA off (.hp id n)=some (.hp id (n+off)):=rfl
theorem Ey:faA off (.ep id gen sz i k)=some (.ep id gen sz i (k+off)):=rfl
theorem Ba:BI .AH h=some (.val (.int .i64 0) h):=rfl
theorem Cm:BI (.sl sz ex es) h=some (.val (.int .i64 es.length) h):=rfl
theorem Cn:BI (.hs id gen sz off len ex) h=some (.val (.int .i64 len) h):=rfl
theorem B6(s:List UInt8):cJ (.str s) h=some (.val (.int .i64 s.length) h):=rfl
theorem IQ(kd:IntKind)(hi:i<es.length):ixA sz (.sl sz ex es) (.int kd i)=some (.ro es[i]):=by
 simp[ixA,intOf,Jg hi,Bl.2 rfl,hi]
theorem EX(kd:IntKind)(hi:i<len):ixA sz (.hs id gen sz off len ex) (.int kd i)=some (.ep id gen sz (off+i) 0):=by
 simp[ixA,intOf,Jg hi,Bl.2 rfl]
theorem MU(kd:IntKind)(s:List UInt8)(hi:i<s.length):ixS (.str s) (.int kd i)=some (.int .u8 s[i].toNat):=by
 simp[ixS,intOf,Jg hi,hi]
end
section
variable(cs:List AV)(k:IntKind)(n:Int)(id off gen sz i j len f:Nat)(ex b:Bool)(es:List (List AV))(s:List UInt8)(fs:List AV)(v:AV)
theorem B7:AV.cells (.int k n)=some [.int k n]:=rfl
theorem Bb:AV.cells (.bool b)=some [.bool b]:=rfl
theorem B8:AV.cells (.str s)=some [.str s]:=rfl
theorem Bc:AV.cells .ED=some [.ED]:=rfl
theorem Co:AV.cells (.ro cs)=some [.ro cs]:=rfl
theorem Cp:AV.cells (.hp id off)=some [.hp id off]:=rfl
theorem Cq:AV.cells (.ep id gen sz i j)=some [.ep id gen sz i j]:=rfl
theorem Bd:AV.cells .AH=some [.AH]:=rfl
theorem Cr:AV.cells (.sl sz ex es)=some [.sl sz ex es]:=rfl
theorem Cs:AV.cells (.hs id gen sz off len ex)=some [.hs id gen sz off len ex]:=rfl
theorem Be:AV.cells .Ga=some [.Ga]:=rfl
theorem Ct:AV.cells (.hm id)=some [.hm id]:=rfl
theorem Cu:AV.cells (.fn f fs cs)=some [.fn f fs cs]:=rfl
theorem Bf:AV.cells .Gc=some [.Gc]:=rfl
theorem B9:AV.cells (.agg cs)=some cs:=rfl
end
def Gt:Kd->Bool
 | .ch _=>false
 | _=>true
theorem Bs{ops:Array Oper}{ks:List Kd}(h:ks.all Gt=true):Hm ops ks=true:=by
 unfold Hm;have h1:∀(ks:List Kd) (k:Nat),ks.all Gt=true->∀ p∈Bt k ks,Gt p.2=true:=by
  intro ks;induction ks with
  | nil=>intro k _ p hp;cases hp
  | cons a r ih=>
   intro k h p hp;simp only[JL,BU]at h;cases a with
   | st=>exact ih (k+1) h.2 p hp
   | ld id=>
    rcases Cd.1 hp with rfl | hp
    .rfl
    .exact ih (k+1) h.2 p hp
   | ch m=>cases h.1
 have h2:∀(l:List (Nat×Kd)) (bef:Array Nat),(∀ p∈l,Gt p.2=true)->GB bef l=true:=by
  intro l;induction l with
  | nil=>intro _ _;rfl
  | cons a r ih=>
   intro bef h;obtain⟨i,x⟩:=a;simp only[GB,BU,D0];refine⟨fun p hp => ?_,ih bef fun p hp=>h p (Mh _ hp)⟩;have hx:=h (i,x) (List.mem_cons_self ..);have hy:=h p (Mh _ hp);obtain⟨j,y⟩:=p;cases x <;> cases y <;> first | rfl | (simp[Gt]at hx;done) | (simp[Gt]at hy;done)
 exact h2 _ _ (h1 ks 0 h)
section
variable{M:Par}{fid N:Nat}{C:CH}{c:Code}
theorem AU{β:Type}{n:Nat}(S:Nat->β->St)(I:Nat->β->Prop)(Q:Ex×St->Prop)
 (step:∀ i b,i<n->I i b->(∃ b',AO M fid N C c (S i b)=some (.nrm,S (i+1) b')/\I (i+1) b')\/(∃ e s,AO M fid N C c (S i b)=some (e,s)/\e≠.nrm/\Q (e,s)))
 (fin:∀ b,I n b->∃ e s,AO M fid N C c (S n b)=some (e,s)/\e≠.nrm/\Q (e,s)) (b:β) (h0:I 0 b):∃ e s,EV M fid N C c (S 0 b)=some (e,s)/\Q (e,s):=by
 have key:∀ k i b,i+k=n->I i b->∃ e s,EV M fid N C c (S i b)=some (e,s)/\Q (e,s):=by
  intro k;induction k with
  | zero=>
   intro i b hi hI;have:i=n:=(by omega);subst this;obtain⟨e,s,h1,h2,h3⟩:=fin b hI;exact⟨e,s,Hd h1 h2,h3⟩
  | succ k ih=>
   intro i b hi hI;rcases step i b (by omega) hI with⟨b',h1,h2⟩ | ⟨e,s,h1,h2,h3⟩
   .obtain⟨e,s,h3,h4⟩:=ih (i+1) b' (by omega) h2;exact⟨e,s,NF h1 h3,h4⟩
   .exact⟨e,s,Hd h1 h2,h3⟩
 exact key n 0 b (by omega) h0
theorem Ue{β:Type}(S:β->St)(I:β->Prop)(m:β->Nat)(Q:Ex×St->Prop)
 (step:∀ b,I b->(∃ b',AO M fid N C c (S b)=some (.nrm,S b')/\I b'/\m b'<m b)\/(∃ e s,AO M fid N C c (S b)=some (e,s)/\e≠.nrm/\Q (e,s)))
 (b:β) (h0:I b):∃ e s,EV M fid N C c (S b)=some (e,s)/\Q (e,s):=by
 have key:∀ k b,m b<=k->I b->∃ e s,EV M fid N C c (S b)=some (e,s)/\Q (e,s):=by
  intro k;induction k with
  | zero=>
   intro b hm hI;rcases step b hI with⟨b',h1,h2,h3⟩ | ⟨e,s,h1,h2,h3⟩
   .omega
   .exact⟨e,s,Hd h1 h2,h3⟩
  | succ k ih=>
   intro b hm hI;rcases step b hI with⟨b',h1,h2,h3⟩ | ⟨e,s,h1,h2,h3⟩
   .obtain⟨e,s,h4,h5⟩:=ih b' (by omega) h2;exact⟨e,s,NF h1 h4,h5⟩
   .exact⟨e,s,Hd h1 h2,h3⟩
 exact key (m b) b (CZ _) h0
end
def SlR{α:Type}(R:α->List AV->Prop)(sz:Nat)(l:List α)(v:AV):Prop:=
 (l=[]/\v=.AH)\/∃ ex es,v=.sl sz ex es/\es.length=l.length/\∀(i:Nat) a e,l[i]? = some a->es[i]? = some e->R a e
section
variable{α:Type}{R:α->List AV->Prop}{sz:Nat}{l:List α}{v:AV}
theorem SlR.len(hv:SlR R sz l v)(h:AF):BI v h=some (.val (.int .i64 l.length) h):=by
 rcases hv with⟨rfl,rfl⟩ | ⟨ex,es,rfl,hl,_⟩
 .rfl
 .simp[BI,hl]
theorem SlR.ix(hv:SlR R sz l v){i:Nat}(hi:i<l.length):∃ e,(∀ kd,ixA sz v (.int kd i)=some (.ro e))/\R l[i] e:=by
 rcases hv with⟨rfl,rfl⟩ | ⟨ex,es,rfl,hl,hr⟩
 .simp at hi
 .exact⟨es[i]'(by omega),fun kd=>IQ _ _ _ _ kd (by omega),hr i _ _ (AW hi) (AW (by omega))⟩
theorem SlR.AA(hv:SlR R sz l v):v.AA=true:=by
 rcases hv with⟨rfl,rfl⟩ | ⟨ex,es,rfl,_,_⟩ <;> rfl
theorem SlR.cells(hv:SlR R sz l v):v.cells=some [v]:=by
 rcases hv with⟨rfl,rfl⟩ | ⟨ex,es,rfl,_,_⟩ <;> rfl
theorem SlR.rd(hv:SlR R sz l v)(h:AF):∃ es,A7 h v=some es/\CC sz v=true/\es.length=l.length/\∀(i:Nat) a e,l[i]? = some a->es[i]? = some e->R a e:=by
 rcases hv with⟨rfl,rfl⟩ | ⟨ex,es,rfl,hl,hr⟩
 .exact⟨[],rfl,rfl,rfl,fun i a e h=>by simp at h⟩
 .exact⟨es,rfl,by simp[CC,BM,A1],hl,hr⟩
theorem SlR.mono{S:α->List AV->Prop}(hv:SlR R sz l v)(hs:∀ a e,R a e->S a e):SlR S sz l v:=by
 rcases hv with⟨rfl,rfl⟩ | ⟨ex,es,rfl,hl,hr⟩
 .exact .inl ⟨rfl,rfl⟩
 .exact .inr ⟨ex,es,rfl,hl,fun i a e h1 h2=>hs _ _ (hr i a e h1 h2)⟩
end
end Go.Am
namespace Go.Am
open Go
def Ai(sz base:Nat)(rest:AF)(a:AV)(es:List (List AV)):Prop:=
 (es=[]/\a=.AH)\/∃ j,es≠[]/\a=.hs (base+j) es.length sz 0 es.length false/\rest[j]? = some (.arr sz false es)
theorem Ai.nil(sz base:Nat)(rest:AF):Ai sz base rest .AH []:=.inl ⟨rfl,rfl⟩
theorem Ai.grow{sz base:Nat}{rest:AF}{a:AV}{es:List (List AV)}(h:Ai sz base rest a es)(l:AF):Ai sz base (rest++l) a es:=by
 rcases h with h | ⟨j,h0,h1,h2⟩
 .exact .inl h
 .exact .inr ⟨j,h0,h1,by rw[BA (Ae.1 h2).1];exact h2⟩
theorem Ai.cL{sz byt:Nat}{P rest:AF}{a:AV}{es xs:List (List AV)}{x:AV}(h:Ai sz P.length rest a es)(hx:A7 (P++rest) x=some xs)(hs:CC sz x=true)(hnx:∀ b,x≠.str b)(hxs:xs≠[])(h0:0<sz)(hb:byt<=1024)(hn:es.length+xs.length<16777216) :
 ∃ a' rest',apA sz byt a x (P++rest)=some (a',P++rest')/\Ai sz P.length rest' a' (es++xs):=by
 have hbb:(es.length+xs.length) * byt<=17592186044416:=DD (Ku (KM hn) hb) (by decide);have hap:∀ n,F6 a=some n->apA sz byt a x (P++rest)=apX sz byt a xs n (P++rest):=fun n hl=>by
  unfold apA;cases x with
  | str b=>exact absurd rfl (hnx b)
  | _=>first | simp only[hs,hx,hl] | (simp only[A7]at hx;cases hx)
 obtain⟨y,ys,rfl⟩:∃ y ys,xs=y::ys:=by cases xs with | nil=>exact absurd rfl hxs | cons y ys=>exact⟨y,ys,rfl⟩
 rcases h with⟨rfl,rfl⟩ | ⟨j,hne,rfl,h2⟩
 .refine⟨.hs (P.length+rest.length) (ys.length+1) sz 0 (ys.length+1) false,rest++[.arr sz false (y::ys)],?_,.inr ⟨rest.length,by simp,by simp,by simp⟩⟩;rw[hap 0 rfl];have e1:CC sz AV.AH=true:=rfl;have h2:=hbb;simp only[IB,D1,D8]at h2 hn;simp[apX,e1,FQ.2 h0,Gb.2 h2,Gb.2 (show ys.length+1<=17592186044416 by omega),A3]
 .have hj:=(Ae.1 h2).1;have hg:(P++rest)[P.length+j]? = some (.arr sz false es):=by rw[EL (by omega)];simpa using h2
  refine⟨.hs (P.length+j) (es.length+(ys.length+1)) sz 0 (es.length+(ys.length+1)) false,rest.set j (.arr sz false (es++y::ys)),?_,.inr ⟨j,by simp,by simp,by simp[hj]⟩⟩;rw[hap es.length rfl];have e1:CC sz (.hs (P.length+j) es.length sz 0 es.length false)=true:=by simp[CC,BM,A1]
  simp only[D8]at hbb hn;simp[apX,e1,FQ.2 h0,Gb.2 hbb,Gb.2 (show es.length+(ys.length+1)<=17592186044416 by omega),hg,A1,A8,List.set_append_right]
theorem Ai.push{sz byt:Nat}{P rest:AF}{a:AV}{es:List (List AV)}(x:List AV)(ex:Bool)(h:Ai sz P.length rest a es)(h0:0<sz)(hb:byt<=1024)(hn:es.length<16777215) :
 ∃ a' rest',apA sz byt a (.sl sz ex [x]) (P++rest)=some (a',P++rest')/\Ai sz P.length rest' a' (es++[x]):=
 h.cL (xs:=[x]) rfl (by simp[CC,BM,A1]) (fun b hb=>by cases hb) (by simp) h0 hb (by simp;omega)
theorem Ai.AA{sz base:Nat}{rest:AF}{a:AV}{es:List (List AV)}(h:Ai sz base rest a es):a.AA=es.isEmpty:=by
 rcases h with⟨rfl,rfl⟩ | ⟨j,h0,rfl,h2⟩
 .rfl
 .cases es with
  | nil=>exact absurd rfl h0
  | cons=>rfl
theorem Ai.cells{sz base:Nat}{rest:AF}{a:AV}{es:List (List AV)}(h:Ai sz base rest a es):a.cells=some [a]:=by
 rcases h with⟨rfl,rfl⟩ | ⟨j,h0,rfl,h2⟩ <;> rfl
theorem Ai.snap{sz n:Nat}{P rest:AF}{a:AV}{es:List (List AV)}(h:Ai sz P.length rest a es)(hn:es.all AG=true)(h0:es≠[]) :
 Am.snap (n+1) a (P++rest)=some (.sl sz false es,P++(match a with | .hs id _ _ _ _ _=>rest.set (id - P.length) (.arr sz true es) | _=>rest)):=by
 rcases h with⟨rfl,rfl⟩ | ⟨j,_,rfl,h2⟩
 .exact absurd rfl h0
 .have hg:(P++rest)[P.length+j]? = some (.arr sz false es):=by rw[EL (by omega)];simpa using h2
  have hb:(Nat.beq es.length es.length&&Nat.beq sz sz&&Nat.ble (0+es.length) es.length&&es.all AG)=true:=by simp[A1,A8,hn]
  simp only[Am.snap,hg,hb];simp[List.set_append_right]
theorem Ai.rep{α:Type}{R:α->List AV->Prop}{l:List α}{es:List (List AV)}{sz:Nat}(hl:es.length=l.length)(hr:∀(i:Nat) a e,l[i]? = some a->es[i]? = some e->R a e)(ex:Bool):SlR R sz l (.sl sz ex es):=.inr ⟨ex,es,rfl,hl,hr⟩
theorem E9{α:Type}{R:α->List AV->Prop}{l:List α}{es:List (List AV)}(hl:es.length=l.length)(hr:∀(i:Nat) a e,l[i]? = some a->es[i]? = some e->R a e){a:α}{e:List AV}(h:R a e) :
 (es++[e]).length=(l++[a]).length/\∀(i:Nat) a' e',(l++[a])[i]? = some a'->(es++[e])[i]? = some e'->R a' e':=by
 refine⟨by simp[hl],fun i a' e' h1 h2 => ?_⟩;by_cases hi:i<l.length
 .rw[BA hi]at h1;rw[BA (by omega)]at h2;exact hr i a' e' h1 h2
 .rw[EL (by omega)]at h1;rw[EL (by omega)]at h2;rw[hl]at h2;cases hk:i - l.length with
  | zero=>rw[hk]at h1 h2;simp at h1 h2;exact h1 ▸ h2 ▸ h
  | succ k=>rw[hk]at h1;simp at h1
theorem C5{α:Type}{R:α->List AV->Prop}{l:List α}{es:List (List AV)}(hl:es.length=l.length)(hr:∀(i:Nat) a e,l[i]? = some a->es[i]? = some e->R a e)(hR:∀ a e,R a e->AG e=true):es.all AG=true:=by
 rw[D0];intro e he;obtain⟨i,hi,rfl⟩:=I9 he;exact hR _ _ (hr i l[i] es[i] (AW (by omega)) (AW hi))
def Gu:Kd->Nat
 | .st=>0
 | .ld _=>1
 | .ch _=>2
def FI:Nat->List Nat->List (Nat×Nat)
 | _,[]=>[]
 | k,0::r=>FI (k+1) r
 | k,x::r=>(k,x)::FI (k+1) r
def A2(ops:Array Oper):List (List Nat):=(Region.before ops).toList.map fun m=>(List.range ops.size).filter m.testBit
def CI(L:List (List Nat)):List (Nat×Nat)->Bool
 | []=>true
 | (i,x)::r=>(r.all fun p=>decide (x+p.2<3)||(L.getD p.1 []).elem i)&&CI L r
theorem C6{ops:Array Oper}{ks:List Kd}(h:CI (A2 ops) (FI 0 (ks.map Gu))=true):Hm ops ks=true:=by
 unfold Hm;have h1:∀(ks:List Kd) (k:Nat),FI k (ks.map Gu)=(Bt k ks).map fun p=>(p.1,Gu p.2):=by
  intro ks;induction ks with
  | nil=>intro k;rfl
  | cons a r ih=>intro k;cases a <;> simp[FI,Bt,Gu,ih]
 rw[h1]at h;have hb:∀ i j,((A2 ops).getD j []).elem i=true->((Region.before ops).getD j 0).testBit i=true:=by
  intro i j h;unfold A2 at h;rw[Ko,Fx]at h;cases hm:(Region.before ops).toList[j]? with
  | none=>rw[hm]at h;simp at h
  | some m=>
   rw[hm]at h;simp only[E0,GQ,List.elem_eq_mem,decide_eq_true_eq,JI]at h;have hm':(Region.before ops)[j]? = some m:=(by simpa using hm);rw[Gy,hm'];exact h.2
 have h2:∀(l:List (Nat×Kd)),CI (A2 ops) (l.map fun p=>(p.1,Gu p.2))=true->GB (Region.before ops) l=true:=by
  intro l;induction l with
  | nil=>intro _;rfl
  | cons a r ih=>
   intro h;obtain⟨i,x⟩:=a;simp only[Hk,CI,BU,D0,F5]at h;simp only[GB,BU,D0];refine⟨fun p hp => ?_,ih h.2⟩;have:=h.1 (p.1,Gu p.2) ⟨p,hp,rfl⟩;obtain⟨j,y⟩:=p;simp only[L3,IA,decide_eq_true_eq]at this ⊢;rcases this with h3 | h3
   .left
    cases x <;> cases y <;> first | rfl | (simp[Gu]at h3;done)
   .right;exact hb i j h3
 exact h2 _ h
def An(id:Nat):Code->Option (Array Oper)
 | .region i ops _=>match Nat.beq i id with
  | true=>some ops
  | false=>none
 | .seq a b=>match An id a with
  | some o=>some o
  | none=>An id b
 | .cond _ a b=>match An id a with
  | some o=>some o
  | none=>An id b
 | .block _ c=>An id c
 | .loop c=>An id c
 | _=>none
def Aa(fn:Func)(id:Nat):Array Oper:=match fn.body with
 | some c=>(An id c).getD #[]
 | none => #[]
end Go.Am
namespace Go.Am
open Go
def BB(K:Nat)(c:AV)(h:AF)(c':AV)(h':AF):Prop:=∀ n,snap (n+K) c h=some (c',h')
def B5(K:Nat)(cs:List AV)(h:AF)(cs':List AV)(h':AF):Prop:=∀ n,GS (n+K) cs h=some (cs',h')
def Df(K:Nat)(es:List (List AV))(h:AF)(es':List (List AV))(h':AF):Prop:=∀ n,GU (n+K) es h=some (es',h')
theorem BB.mono{K K':Nat}{c c':AV}{h h':AF}(s:BB K c h c' h')(hk:K<=K'):BB K' c h c' h':=fun n=>by
 have:=s (n+(K' - K));rwa [show n+(K' - K)+K=n+K' by omega]at this
theorem B5.mono{K K':Nat}{c c':List AV}{h h':AF}(s:B5 K c h c' h')(hk:K<=K'):B5 K' c h c' h':=fun n=>by
 have:=s (n+(K' - K));rwa [show n+(K' - K)+K=n+K' by omega]at this
theorem Df.mono{K K':Nat}{c c':List (List AV)}{h h':AF}(s:Df K c h c' h')(hk:K<=K'):Df K' c h c' h':=fun n=>by
 have:=s (n+(K' - K));rwa [show n+(K' - K)+K=n+K' by omega]at this
theorem BB.at{K:Nat}{c c':AV}{h h':AF}(s:BB K c h c' h')(hk:K<=Ds):snap Ds c h=some (c',h'):=by
 have:=s (Ds - K);rwa [show Ds - K+K=Ds by omega]at this
theorem B5.nil(h:AF):B5 1 [] h [] h:=fun _=>rfl
theorem B5.cons{K L:Nat}{c c':AV}{cs cs':List AV}{h h1 h2:AF}(a:BB K c h c' h1)(b:B5 L cs h1 cs' h2):B5 (max K L+1) (c::cs) h (c'::cs') h2:=fun n=>by
 have e1:=a.mono (HM K L) n;have e2:=b.mono (Hj K L) n;show GS ((n+max K L)+1) _ _=_;simp only[GS,e1,e2]
theorem Df.nil(h:AF):Df 1 [] h [] h:=fun _=>rfl
theorem Df.cons{K L:Nat}{c c':List AV}{cs cs':List (List AV)}{h h1 h2:AF}(a:B5 K c h c' h1)(b:Df L cs h1 cs' h2):Df (max K L+1) (c::cs) h (c'::cs') h2:=fun n=>by
 have e1:=a.mono (HM K L) n;have e2:=b.mono (Hj K L) n;show GU ((n+max K L)+1) _ _=_;simp only[GU,e1,e2]
def AV.flat:AV->Bool
 | .hp .. => false
 | .ep .. => false
 | .hs .. => false
 | .hm .. => false
 | .iface .. => false
 | .agg cs=>AG cs
 | .tup cs=>AG cs
 | .fn _ fs cs=>AG fs&&AG cs
 | _=>true
theorem BB.flat{c:AV}(hc:c.flat=true)(h:AF):BB 1 c h c h:=fun n=>by
 cases c <;> first | rfl | (simp only[AV.flat]at hc;simp only[snap,hc];done) | cases hc
theorem BB.agg{K:Nat}{cs cs':List AV}{h h':AF}(hn:AG cs=false)(s:B5 K cs h cs' h'):BB (K+1) (.agg cs) h (.agg cs') h':=fun n=>by
 show snap ((n+K)+1) _ _=_;simp only[snap,hn,s n,E0]
theorem BB.tup{K:Nat}{cs cs':List AV}{h h':AF}(hn:AG cs=false)(s:B5 K cs h cs' h'):BB (K+1) (.tup cs) h (.tup cs') h':=fun n=>by
 show snap ((n+K)+1) _ _=_;simp only[snap,hn,s n,E0]
theorem Ai.Pj{sz:Nat}{P rest:AF}{a:AV}{es:List (List AV)}(h:Ai sz P.length rest a es)(hn:es.all AG=true) :
 ∃ v' rest',BB 1 a (P++rest) v' (P++rest')/\((es=[]/\v'=.AH)\/v'=.sl sz false es):=by
 by_cases h0:es=[]
 .rcases h with⟨_,rfl⟩ | ⟨_,h1,_⟩
  .exact⟨.AH,rest,fun n=>rfl,.inl ⟨h0,rfl⟩⟩
  .exact absurd h0 h1
 .exact⟨_,_,fun n=>h.snap hn h0,.inr rfl⟩
end Go.Am
namespace Go.Proofs.Am12
open Go Go.Am Tryz
set_option maxRecDepth 10000
@[simp] theorem fn_4:MX.fn 4=some Tryz.f4:=by kernel_rfl
abbrev Ao(f:Nat):Prop:=MX.eff f=none
abbrev AQ(f:Nat):Prop:=MX.prim f=none
abbrev Fj(f:Nat):Prop:=MX.mutLit f=false
abbrev fnN(f:Nat)(x:Func):Prop:=MX.fn f=some x
abbrev KK(f r:Nat)(l:List Nat):Prop:=MX.keep f r=some l
abbrev MF(f:Nat):Prop:=MX.mode f={ fresh:=true,keepTop:=false }
@[simp] theorem eff_4:Ao 4:=rfl
@[simp] theorem kpS0:KK 4 0 [1]/\KK 4 1 [1,9]/\KK 4 3 [1,12]/\KK 4 4 [2]/\KK 4 5 [1,3]/\KK 4 6 [1,3,24]/\KK 4 7 [2]/\KK 4 8 [1,3,4,5]/\KK 4 9 [1,3,4,5,32]/\KK 4 10 [2]/\KK 4 11 [4,5,6,7]/\KK 4 12 [4,5,6,47]/\KK 4 13 [2]/\KK 4 14 [2]/\KK 11 0 [1]/\KK 11 1 [1,16]/\KK 11 2 [2]/\KK 11 3 [1,3]/\KK 11 4 [1,3,21]/\KK 11 5 [1,3]/\KK 11 6 [1,3,41]/\KK 11 7 [2]/\KK 11 8 [1,3,4]/\KK 11 9 [1,3,4,50]/\KK 11 10 [1,3,4]/\KK 11 11 [1,3,4,5]/\KK 11 12 [1,3,4,5,65]/\KK 11 13 [2]/\KK 11 14 [1,3,4,5,6]/\KK 11 15 [1,3,4,5,6,69]/\KK 11 16 [1,3,4,5,6]/\KK 11 17 [1,3,4,5,6,78]/\KK 11 18 [2]/\KK 11 19 [2]/\KK 12 0 [1]/\KK 12 1 [4]/\KK 12 2 [2]/\KK 15 0 [1,2]/\KK 15 1 [2]/\KK 20 0 [0,1]/\KK 20 1 [0,1,10]/\KK 20 2 [4]/\KK 20 3 [0,1,5]/\KK 20 4 [0,1,5,14]/\KK 20 5 [0,1,5]/\KK 20 6 [0,1,5,25]/\KK 20 7 [4]/\KK 20 8 [4]/\KK 26 0 [0,3]/\KK 26 1 [0,3,6]/\KK 26 2 [4]/\KK 26 3 [4]/\KK 27 0 [1]/\KK 27 1 [1,4,5]/\KK 27 2 [1,4,5,13]/\KK 27 3 [2,3]/\KK 27 4 [4,6]/\KK 27 5 [6]/\KK 27 6 [6,26]/\KK 27 7 [2,3]:=by and_intros <;> decide +kernel
@[simp] theorem kpS60:KK 27 8 [2,3]/\KK 28 0 [1]/\KK 28 1 [2,3]/\KK 29 0 [0,1]/\KK 29 1 [0,1,11]/\KK 29 3 [0,1,5]/\KK 29 4 [0,1,5,15]/\KK 29 5 [0,1,5]/\KK 29 6 [0,1,5,70]/\KK 29 8 [0,1,5,6]/\KK 29 9 [0,1,5,6,78]/\KK 29 10 [0,1,5,6]/\KK 29 11 [0,1,5,6,97]/\KK 29 13 [4]/\KK 31 0 [0]/\KK 31 1 [0,3]/\KK 31 2 [0,3,4]/\KK 31 3 [0,3,4,11]/\KK 31 4 [0,3,4]/\KK 31 5 [0,3,4,5]/\KK 31 6 [0,3,4,5,6]/\KK 31 7 [0,3,4,5,6,33]/\KK 31 8 [0,3,4,5,6]/\KK 31 9 [0,3,4,5,6,7]/\KK 31 10 [0,3,4,5,6]/\KK 31 11 [0,3,4]/\KK 31 12 [2]/\KK 32 0 [1]/\KK 32 1 [1,4]/\KK 32 2 [1,4,13]/\KK 32 3 [2,3]/\KK 32 4 [1,18]/\KK 32 5 [2,3]/\KK 32 6 [1,22]/\KK 32 7 [2,3]/\KK 32 8 [1,5]/\KK 32 9 [1,5,27]/\KK 32 10 [1,5]/\KK 32 11 [1,5,6]/\KK 32 12 [1,5,6,41]/\KK 32 13 [2,3]/\KK 32 14 [2,3]/\KK 34 0 [0,3]/\KK 34 1 [0,3,5]/\KK 34 2 [0,3,5,9]/\KK 34 3 [4]/\KK 34 4 [4]/\KK 35 0 [0,4,5]/\KK 35 1 [0,4,5,12]/\KK 35 2 [6]/\KK 35 3 [5,7]/\KK 35 4 [5,7,18]/\KK 35 5 [6]/\KK 35 6 [8]/\KK 35 7 [8,9]/\KK 35 8 [8,9,25]/\KK 35 9 [8,9]/\KK 35 10 [8,9,35]/\KK 35 11 [6]/\KK 35 12 [6]:=by and_intros <;> decide +kernel
@[simp] theorem kpS120:KK 40 0 [0,1]/\KK 40 1 [0,1,5]/\KK 40 2 [0,1,5,9]/\KK 40 3 [0,1,5]/\KK 40 4 [0,1,5,17]/\KK 40 5 [4]/\KK 40 6 [4]/\KK 59 0 [1]/\KK 59 1 [2]/\KK 63 0 [1]/\KK 63 1 [4,6]/\KK 63 2 [2,3]/\KK 66 0 [1]/\KK 66 1 [2]/\KK 67 0 [0]/\KK 67 1 [2]/\KK 68 0 [0,3]/\KK 68 1 [0,3,13]/\KK 68 2 [4]/\KK 68 3 [3,5]/\KK 68 4 [3,5,6]/\KK 68 5 [3,5,6,7]/\KK 68 6 [3,5,6,7,28]/\KK 68 7 [3,5,6,7]/\KK 68 8 [3,5,6,7,8]/\KK 68 9 [3,5,6,7,8,9]/\KK 68 10 [3,5,6,7,8,9,46]/\KK 68 11 [3,5,6,7,8,9]/\KK 68 12 [3,5,6,7,8,9,10]/\KK 68 13 [3,5,6,7,8,9]/\KK 68 14 [3,5,6,7]/\KK 68 15 [4]/\KK 72 0 [0,1]/\KK 72 1 [0,1,5]/\KK 72 2 [0,1,5,9]/\KK 72 3 [0,1,5]/\KK 72 4 [0,1,5,18]/\KK 72 5 [4]/\KK 72 6 [4]/\KK 74 0 [0,3]/\KK 74 1 [0,5,6]/\KK 74 2 [0,5,6,7]/\KK 74 3 [0,5,6,7,14]/\KK 74 4 [0,5,6,7]/\KK 74 5 [0,5,6,7]/\KK 74 6 [4]/\KK 75 0 [0,1]/\KK 75 1 [0,1,21]/\KK 75 2 [4]/\KK 75 3 [0,1,5]/\KK 75 4 [0,1,5,41]/\KK 75 5 [4]/\KK 75 6 [0,1,6]/\KK 75 7 [0,1,6,8]/\KK 75 8 [0,1,6,8,9]/\KK 75 9 [0,1,6,8,9,70]/\KK 75 10 [0,1,6,8,9,77,78,79]/\KK 75 11 [0,1,6,8,9,77,78,79,80]/\KK 75 12 [0,1,6,8,9,10,11,77,78,79]/\KK 75 13 [0,1,6,8,9,11,12,77,78,79]:=by and_intros <;> decide +kernel
@[simp] theorem kpS180:KK 75 14 [0,1,6,8,9,77,78,79]/\KK 75 15 [0,1,6,8,9,77,78,79]/\KK 75 16 [4]/\KK 75 17 [0,1,6,8,9,13]/\KK 75 18 [0,1,6,8,9,13,119,120,121]/\KK 75 19 [0,1,6,8,9,13,119,120,121,122]/\KK 75 20 [0,1,6,8,9,13,15,119,120,121]/\KK 75 21 [0,1,6,8,9,13,15,16,119,120,121]/\KK 75 22 [0,1,6,8,9,13,119,120,121]/\KK 75 23 [0,1,6,8,9,13,119,120,121]/\KK 75 24 [0,1,6,8,9,13,158]/\KK 75 25 [0,8,17]/\KK 75 26 [8]/\KK 75 27 [4]/\KK 76 0 [0]/\KK 76 1 [0,3]/\KK 76 2 [3,12]/\KK 76 3 [2]/\KK 76 4 [2]/\KK 77 0 [2,3,4]/\KK 77 1 [2,3,4,25]/\KK 77 2 [6,7]/\KK 77 3 [2,3,4,8]/\KK 77 4 [2,3,4,8,9]/\KK 77 5 [2,3,4,8,9,46]/\KK 77 6 [2,3,4,8,9]/\KK 77 7 [2,3,4,8,9,53]/\KK 77 8 [6,7]/\KK 77 9 [2,3,4,8,9,68]/\KK 77 10 [6,7]/\KK 77 11 [2,3,4,8,10]/\KK 77 12 [3,4,8,10,12]/\KK 77 13 [3,4,8,10,12,13,14]/\KK 77 14 [3,4,8,10,12,13,14,15]/\KK 77 15 [3,4,8,10,12,13,14,15,16]/\KK 77 16 [3,4,8,10,12,13,14,15,16,17]/\KK 77 17 [3,4,8,10,12,13,14,15,16,17,100]/\KK 77 18 [3,4,8,10,12,13,14,15,16,17,18]/\KK 77 19 [3,4,8,10,12,13,14,15,16,17,18,19]/\KK 77 20 [3,4,8,10,12,13,14,15,16,17,18,19,111]/\KK 77 21 [3,4,8,10,12,13,14,15,16,17,18,19]/\KK 77 22 [3,4,8,10,12,13,14,15,16,18,19]/\KK 77 23 [3,4,8,10,12,13,14,15,16,17,18,19]/\KK 77 24 [3,4,8,10,12,13,15,16,17,20]/\KK 77 25 [3,4,8,10,12,15,16,17,20,150]/\KK 77 26 [3,4,8,10,12,15,16,20]/\KK 77 27 [8,12,15,16,17]/\KK 77 28 [3,4,8,10,12,15,16,17,21]/\KK 77 29 [3,4,8,10,12,15,16,17,21,22]/\KK 77 30 [3,4,8,10,12,15,16,17,21,22,173]/\KK 77 31 [3,4,8,10,12,15,16,17,21,22]/\KK 77 32 [3,4,8,10,12,15,16,21,22]/\KK 77 33 [3,4,8,10,12,15,16,17,21,22]/\KK 77 34 [8,12,15,16,204]/\KK 77 35 [6,7]/\KK 77 36 [12]/\KK 77 37 [6,7]/\KK 78 0 [0,3,4]/\KK 78 1 [0,3,4,7]/\KK 78 2 [4]:=by and_intros <;> decide +kernel
@[simp] theorem kpS240:KK 78 3 [0,4,5]/\KK 78 4 [0,4,5,14]/\KK 78 5 [4]/\KK 78 6 [4]/\KK 79 0 [0,2,4]/\KK 79 1 [2,9,10]/\KK 79 2 [2,9,10]/\KK 79 3 [2,9,10,32]/\KK 79 4 [6,7,8]/\KK 79 5 [9,34,35,36]/\KK 79 6 [9,34,35,36,37]/\KK 79 7 [9,11,12,34,35,36]/\KK 79 8 [9,11,13,34,35,36]/\KK 79 9 [9,11,13,34,35,36,45]/\KK 79 10 [6,7,8]/\KK 79 11 [9,34,35,36]/\KK 79 12 [6,7,8]/\KK 80 0 [0]/\KK 80 1 [2]/\KK 81 0 [0]/\KK 81 1 [0,3]/\KK 81 2 [0,3,4]/\KK 81 3 [0,3,4,8]/\KK 81 4 [0,3,4]/\KK 81 5 [0,3,4]/\KK 81 6 [2]/\KK 82 0 [0,3]/\KK 82 1 [0,3,6]/\KK 82 2 [0,3,6,11]/\KK 82 3 [4,5]/\KK 82 4 [4,5]/\KK 83 0 [0,3]/\KK 83 1 [0,3,5]/\KK 83 2 [0,3,5,11]/\KK 83 3 [4]/\KK 83 4 [3,6]/\KK 83 5 [3,6,17]/\KK 83 6 [4]/\KK 83 7 [7]/\KK 83 8 [7]/\KK 83 9 [4]/\KK 84 0 [0]/\KK 84 1 [4]/\KK 84 2 [2]/\KK 85 0 [0,3]/\KK 85 1 [0,3,5]/\KK 85 2 [0,3,5,11]/\KK 85 3 [4]/\KK 85 4 [0,3,6]/\KK 85 5 [0,3,6,19]/\KK 85 6 [4]/\KK 85 7 [26]/\KK 85 8 [4]/\KK 85 9 [4]/\KK 86 0 [1]/\KK 86 1 [2]/\KK 87 0 [0,4,5]/\KK 87 1 [0,4,5,8]/\KK 87 2 [6]/\KK 87 3 [0,4,5,8,9]:=by and_intros <;> decide +kernel
@[simp] theorem kpS300:KK 87 4 [14]/\KK 87 5 [6]/\KK 87 6 [0,4,5,8,15]/\KK 87 7 [5,20]/\KK 87 8 [6]/\KK 87 9 [24]/\KK 87 10 [6]/\KK 87 11 [0,4,5,8,25]/\KK 87 12 [4,5,29]/\KK 87 13 [6]/\KK 87 14 [4,5,33]/\KK 87 15 [6]/\KK 87 16 [42]/\KK 87 17 [6]/\KK 87 18 [0,4,5,43]/\KK 87 19 [6]/\KK 87 20 [6]/\KK 88 0 [1]/\KK 88 1 [1,7]/\KK 88 2 [2]/\KK 88 3 [1,3]/\KK 88 4 [1,3,4]/\KK 88 5 [1,3,4,15]/\KK 88 6 [1,3,4]/\KK 88 7 [1,3,4]/\KK 88 8 [2]/\KK 89 0 [0,1]/\KK 89 1 [0,1,5]/\KK 89 2 [0,1,5,9]/\KK 89 3 [0,1,5]/\KK 89 4 [0,1,5,17]/\KK 89 5 [4]/\KK 89 6 [4]/\KK 97 0 [0]/\KK 97 1 [5,6,7]/\KK 97 2 [5,6,7,8]/\KK 97 3 [4,5,6,7]/\KK 97 4 [4,5,6,7,12]/\KK 97 5 [2]/\KK 97 6 [5,6,7]/\KK 97 7 [2]/\KK 101 0 [0]/\KK 101 1 [2]/\KK 104 0 [0,1,2]/\KK 104 1 [6]/\KK 110 0 [1,2,3]/\KK 110 1 [1,2,3]/\KK 110 2 [1,2,3,21]/\KK 110 3 [6]/\KK 110 4 [1,2,3,7]/\KK 110 5 [1,2,3,7,30]/\KK 110 6 [1,2,3,7]/\KK 110 7 [1,2,3,7]/\KK 110 8 [6]/\KK 111 0 [0,1]/\KK 111 1 [1,5]/\KK 111 2 [4]/\KK 111 3 [4]/\KK 114 0 [0,1]/\KK 114 1 [0,1,7,8]:=by and_intros <;> decide +kernel
@[simp] theorem kpS360:KK 114 2 [0,1,7,8,9]/\KK 114 3 [0,1,5,7,8]/\KK 114 4 [0,1,5,7,8,16]/\KK 114 5 [4]/\KK 114 6 [0,1,7,8]/\KK 114 7 [4]/\KK 116 0 [0]/\KK 116 1 [2]/\KK 118 0 [0,1]/\KK 118 1 [0,1,5]/\KK 118 2 [0,1,5,9]/\KK 118 3 [0,1,5]/\KK 118 4 [0,1,5,18]/\KK 118 5 [4]/\KK 118 6 [4]/\KK 119 0 [1,2,3,6]/\KK 119 1 [1,2,3,6,12]/\KK 119 2 [1,2,3,6,7]/\KK 119 3 [1,2,3,6,7,16]/\KK 119 4 [1,2,3,6,7]/\KK 119 5 [1,2,3,6,7,25]/\KK 119 6 [6]/\KK 119 7 [1,2,3,6,8]/\KK 119 8 [1,2,3,6,8]/\KK 119 9 [1,2,3,6,8,9]/\KK 119 10 [1,2,3,6,8,9,37]/\KK 119 11 [1,2,3,6,8,9]/\KK 119 12 [1,2,3,6,8,9]/\KK 119 13 [6]/\KK 121 0 [0,1]/\KK 121 1 [4]/\KK 122 0 [0,3]/\KK 122 1 [0,3,5]/\KK 122 2 [0,3,5,6]/\KK 122 3 [0,3,5,6,11]/\KK 122 4 [0,3,5,6]/\KK 122 5 [0,3,5,6]/\KK 122 6 [4]/\KK 123 0 [0,3]/\KK 123 1 [0,3,6]/\KK 123 2 [0,3,6,7]/\KK 123 3 [4]/\KK 123 4 [0,3,33]/\KK 123 5 [4]/\KK 123 6 [4]/\KK 124 0 [0,3]/\KK 124 1 [0,3,6]/\KK 124 2 [0,3,6,7]/\KK 124 3 [4]/\KK 124 4 [0,3,38]/\KK 124 5 [4]/\KK 124 6 [4]/\KK 125 0 [0,3]/\KK 125 1 [0,3]/\KK 125 2 [0]/\KK 125 3 [4]/\KK 126 0 [0,3]/\KK 126 1 [0,3,11]/\KK 126 2 [0,3,11,12]/\KK 126 3 [4,5]:=by and_intros <;> decide +kernel
@[simp] theorem kpS420:KK 126 4 [0,3,19]/\KK 126 5 [0,3,25]/\KK 126 6 [4,5]/\KK 126 7 [0,27,28,29]/\KK 126 8 [0,27,28,29,30]/\KK 126 9 [0,6,7,27,28,29]/\KK 126 10 [0,6,8,9,27,28,29]/\KK 126 11 [0,6,8,27,28,29,46]/\KK 126 12 [4,5]/\KK 126 13 [0,27,28,29]/\KK 126 14 [4,5]/\KK 127 0 [0,1]/\KK 127 1 [0,7,8,9]/\KK 127 2 [0,7,8,9,10]/\KK 127 3 [0,6,7,8,9]/\KK 127 4 [0,7,8,9]/\KK 127 5 [0,7,8,9]/\KK 127 6 [4]/\KK 128 0 [0,1,2]/\KK 128 1 [0,1,2,10]/\KK 128 2 [6]/\KK 128 3 [0,1,2,7]/\KK 128 4 [0,1,2,7]/\KK 128 5 [7]/\KK 128 6 [6]/\KK 129 0 [0,1]/\KK 129 1 [0,1,5]/\KK 129 2 [5,25,26,27]/\KK 129 3 [5,25,26,27,28]/\KK 129 4 [5,7,25,26,27]/\KK 129 5 [5,25,26,27]/\KK 129 6 [5,25,26,27]/\KK 129 7 [4]/\KK 130 0 [0,1,2]/\KK 130 1 [0,1,2,7]/\KK 130 2 [1,2,7,15,16,17]/\KK 130 3 [1,2,7,15,16,17,18]/\KK 130 4 [1,2,7,9,15,16,17]/\KK 130 5 [1,2,7,9,10,11,15,16,17]/\KK 130 6 [1,2,7,10,15,16,17,43]/\KK 130 7 [1,2,7,15,16,17]/\KK 130 8 [1,2,7,15,16,17]/\KK 130 9 [7]/\KK 130 10 [6]/\KK 131 0 [0,1]/\KK 131 1 [4]/\KK 132 0 [0]/\KK 132 1 [2]/\KK 133 0 [0,1]/\KK 133 1 [4]/\KK 134 0 [0,5,6,7]/\KK 134 1 [0,5,6,7,13]/\KK 134 2 [0,5,6,7,13,14]/\KK 134 3 [6,7,17]/\KK 134 4 [8]/\KK 134 5 [8]/\KK 134 6 [0,5,6,7,29]/\KK 134 7 [0,5,6,7,33]/\KK 134 8 [8]/\KK 134 9 [0,5,6,7,38]:=by and_intros <;> decide +kernel
@[simp] theorem kpS480:KK 134 10 [8]/\KK 134 11 [0,6,7,9]/\KK 134 12 [0,6,7,10]/\KK 134 13 [0,6,7,10,11]/\KK 134 14 [0,6,7,10,11,54]/\KK 134 15 [0,6,7,10,11]/\KK 134 16 [0,6,7,10,11,74]/\KK 134 17 [8]/\KK 134 18 [8]/\KK 135 0 [0,5,6,7]/\KK 135 1 [0,5,6,7,13]/\KK 135 2 [0,5,6,7,13,14]/\KK 135 3 [5,6,7,17]/\KK 135 4 [8]/\KK 135 5 [8]/\KK 135 6 [0,5,6,7,35]/\KK 135 7 [0,5,6,7,46]/\KK 135 8 [8]/\KK 135 9 [0,6,7,9]/\KK 135 10 [0,6,7,10]/\KK 135 11 [0,6,7,10,11]/\KK 135 12 [0,6,7,10,11,62]/\KK 135 13 [0,6,7,10,11]/\KK 135 14 [0,6,7,10,11,82]/\KK 135 15 [8]/\KK 135 16 [8]/\KK 136 0 [2,3]/\KK 136 1 [2,3,21]/\KK 136 2 [4,5]/\KK 136 3 [2,3,6]/\KK 136 4 [2,3,6,30]/\KK 136 5 [2,3,6]/\KK 136 6 [2,3,6,7,8]/\KK 136 7 [2,3,6,7,47]/\KK 136 8 [4,5]/\KK 136 9 [4,5]/\KK 137 0 [0,3,5,6,8,9]/\KK 137 1 [0,3,5,6,8,9,10]/\KK 137 2 [0,3,5,6,8,9,10,15]/\KK 137 3 [0,3,5,6,8,9,10]/\KK 137 4 [0,3,5,6,8,9,10,11]/\KK 137 5 [0,3,5,6,8,9,10]/\KK 137 6 [0,3,5,6,8,9,10]/\KK 137 7 [8,9]/\KK 138 0 [2,3,4]/\KK 138 1 [2,3,4,7,8]/\KK 138 2 [2,3,4,7,8,9]/\KK 138 3 [2,3,4,7,8,9,10]/\KK 138 4 [2,3,4,7,8,9,10,31]/\KK 138 5 [2,3,4,7,8,9,10]/\KK 138 6 [2,3,4,7,8,9,10,11]/\KK 138 7 [2,3,4,7,8,9,10,11,38]/\KK 138 8 [2,3,4,7,8,9,10,11]/\KK 138 9 [2,3,4,7,8,9,10,11,12,13]/\KK 138 10 [2,3,4,7,8,9,10,11,82]/\KK 138 11 [2,3,4,7,8,9,10,11]/\KK 138 12 [6]/\KK 139 0 [1,3,5,6]/\KK 139 1 [1,3,5,6,10]/\KK 139 2 [6]:=by and_intros <;> decide +kernel
@[simp] theorem kpS540:KK 139 3 [1,3,5,6,7]/\KK 139 4 [1,3,5,6,7]/\KK 139 5 [6,7]/\KK 139 6 [6]/\KK 140 0 [2,3]/\KK 140 1 [4]/\KK 141 0 [0,3,4]/\KK 141 1 [0,3,4,5]/\KK 141 2 [0,3,4,5,6]/\KK 141 3 [0,3,4,5,6,14]/\KK 141 4 [0,3,4,5,6]/\KK 141 5 [0,3,4,5,6]/\KK 141 6 [4]/\KK 142 0 [1,2]/\KK 142 1 [1,2,3]/\KK 142 2 [1,2,3]/\KK 142 3 [1,2,3,4]/\KK 142 4 [1,2,3,4,11]/\KK 142 5 [1,2,3,4]/\KK 142 6 [1,2,3,4]/\KK 142 7 [2]/\KK 143 0 [0,3]/\KK 143 1 [7]/\KK 143 2 [4]/\KK 144 0 [3,4,5]/\KK 144 1 [3,4,5,19]/\KK 144 2 [6]/\KK 144 3 [3,4,5,7]/\KK 144 4 [3,4,5,7,28]/\KK 144 5 [6]/\KK 144 6 [3,4,5,7,40]/\KK 144 7 [6]/\KK 144 8 [3,4,5,7,8]/\KK 144 9 [3,4,5,7,8,53,54,55]/\KK 144 10 [3,4,5,7,8,53,54,55,56]/\KK 144 11 [3,4,5,7,8,9,10,53,54,55]/\KK 144 12 [3,4,5,7,8,9,10,53,54,55]/\KK 144 13 [3,4,5,7,8,53,54,55]/\KK 144 14 [3,4,5,7,8,53,54,55]/\KK 144 15 [3,7,8,11]/\KK 144 16 [3,8,11,79,80,81]/\KK 144 17 [3,8,11,79,80,81,82]/\KK 144 18 [3,8,11,13,79,80,81]/\KK 144 19 [3,8,11,13,14,79,80,81]/\KK 144 20 [3,8,11,14,79,80,81,89,90,91]/\KK 144 21 [3,8,11,14,79,80,81,89,90,91,92]/\KK 144 22 [3,8,11,14,16,79,80,81,89,90,91]/\KK 144 23 [3,8,11,14,79,80,81,89,90,91]/\KK 144 24 [3,8,11,14,79,80,81,89,90,91]/\KK 144 25 [3,8,11,79,80,81]/\KK 144 26 [3,8,11,79,80,81]/\KK 144 27 [6]/\KK 145 0 [1,2]/\KK 145 1 [1,2,5]/\KK 145 2 [1,5,6]/\KK 145 3 [1,5,6,15]/\KK 145 4 [1,5,6,7]/\KK 145 5 [1,5,6,7]/\KK 145 6 [1,5,6,7]/\KK 145 7 [1,5,6,7,35]:=by and_intros <;> decide +kernel
@[simp] theorem kpS600:KK 145 8 [4]/\KK 145 9 [1,5,6,7,39,40,41]/\KK 145 10 [1,5,6,7,39,40,41,42]/\KK 145 11 [1,5,6,7,9,39,40,41]/\KK 145 12 [1,5,6,7,39,40,41]/\KK 145 13 [1,5,6,7,39,40,41]/\KK 145 14 [4]/\KK 146 0 [1]/\KK 146 1 [2]/\KK 147 0 [0,3]/\KK 147 1 [0,3,5]/\KK 147 2 [0,3,5,16]/\KK 147 3 [0,3,5,16,17]/\KK 147 4 [4]/\KK 147 5 [0,3,5,16,20]/\KK 147 6 [4]/\KK 147 7 [0,3,5,16,29]/\KK 147 8 [4]/\KK 147 9 [0,3,52]/\KK 147 10 [0,3,6]/\KK 147 11 [0,3,6,59]/\KK 147 12 [4]/\KK 147 13 [0,3,6,72]/\KK 147 14 [4]/\KK 147 15 [0,6,74,75,76]/\KK 147 16 [0,6,74,75,76,77]/\KK 147 17 [0,6,7,8,74,75,76]/\KK 147 18 [0,6,9,74,75,76]/\KK 147 19 [0,6,9,74,75,76,95]/\KK 147 20 [4]/\KK 147 21 [0,6,74,75,76]/\KK 147 22 [4]/\KK 147 23 [4]/\KK 148 0 [1]/\KK 148 1 [1,8]/\KK 148 2 [2]/\KK 148 3 [1,3]/\KK 148 4 [3,13,14,15]/\KK 148 5 [3,13,14,15,16]/\KK 148 6 [3,5,13,14,15]/\KK 148 7 [3,13,14,15]/\KK 148 8 [3,13,14,15]/\KK 148 9 [2]/\KK 151 0 [0]/\KK 151 1 [0,4]/\KK 151 2 [2]/\KK 151 3 [2]/\KK 152 0 [0]/\KK 152 1 [0,8]/\KK 152 2 [2,3]/\KK 152 3 [0,4]/\KK 152 4 [0,4,12]/\KK 152 5 [0,4]/\KK 152 6 [0,4,5]/\KK 152 7 [0,4,5,24]/\KK 152 8 [2,3]/\KK 152 9 [2,3]/\KK 153 0 [0,1,5]/\KK 153 1 [0,1,5,9]/\KK 153 2 [6]:=by and_intros <;> decide +kernel
@[simp] theorem kpS660:KK 153 3 [6]/\KK 154 0 [0,4,5,6]/\KK 154 1 [0,4,6,7]/\KK 154 2 [0,4,6,7,20]/\KK 154 3 [6,7]/\KK 154 4 [6]/\KK 154 5 [0,4,6,7,37]/\KK 154 6 [6,7]/\KK 154 7 [6]/\KK 154 8 [0,4,6,7,50]/\KK 154 9 [6,7]/\KK 154 10 [6]/\KK 154 11 [0,4,6,7,60]/\KK 154 12 [6,7]/\KK 154 13 [6]/\KK 154 14 [0,4,6,7,64]/\KK 154 15 [6]/\KK 154 16 [0,6,7,8]/\KK 154 17 [0,6,7,8,9]/\KK 154 18 [0,6,7,8,9,72]/\KK 154 19 [0,6,7,8,9]/\KK 154 20 [0,6,7,8,9,10]/\KK 154 21 [0,6,7,8,9,10,82]/\KK 154 22 [0,6,7,8,9,10]/\KK 154 23 [0,6,7,8,9,10,11]/\KK 154 24 [0,6,7,8,9,10]/\KK 154 25 [0,6,7,8,9,10,110]/\KK 154 26 [6]/\KK 154 27 [6]/\KK 155 0 [0]/\KK 155 1 [2]/\KK 156 0 [1,2,3]/\KK 156 1 [1,2,3]/\KK 156 2 [1,2,3,21]/\KK 156 3 [6]/\KK 156 4 [1,2,3,7]/\KK 156 5 [1,2,3,7,30]/\KK 156 6 [1,2,3,7]/\KK 156 7 [1,2,3,7]/\KK 156 8 [6]/\KK 157 0 [0]/\KK 157 1 [0,13]/\KK 157 2 [2]/\KK 157 3 [0,3]/\KK 157 4 [0,3,17]/\KK 157 5 [0,3]/\KK 157 6 [0,3,4]/\KK 157 7 [0,3,4,5]/\KK 157 8 [0,3,54]/\KK 157 9 [2]/\KK 157 10 [2]/\KK 158 0 [0,4,5]/\KK 158 1 [0,4,5,12]/\KK 158 2 [6]/\KK 158 3 [0,5,7]/\KK 158 4 [0,5,7,8]/\KK 158 5 [0,5,7,8,21]/\KK 158 6 [6]/\KK 158 7 [0,5,7,8,31]/\KK 158 8 [6]:=by and_intros <;> decide +kernel
@[simp] theorem kpS720:KK 158 9 [0,5,7,8,9]/\KK 158 10 [0,5,7,8,9,36]/\KK 158 11 [0,5,7,8,9]/\KK 158 12 [0,5,7,8,9,10]/\KK 158 13 [0,5,7,8,9,10,56]/\KK 158 14 [6]/\KK 158 15 [6]/\KK 166 0 [0,1]/\KK 166 1 [4]/\KK 167 0 [0,2,4]/\KK 167 1 [0,2,10,11,12]/\KK 167 2 [0,2,10,11,12,13]/\KK 167 3 [0,2,7,8,10,11,12]/\KK 167 4 [0,2,10,11,12,27]/\KK 167 5 [6]/\KK 167 6 [0,2,10,11,12]/\KK 167 7 [6]/\KK 168 0 [0]/\KK 168 1 [0,4]/\KK 168 3 [2]/\KK 169 0 [1,2]/\KK 169 1 [2,8,9,10]/\KK 169 2 [2,8,9,10,11]/\KK 169 3 [2,7,8,9,10]/\KK 169 4 [2,7,8,9,10,23]/\KK 169 5 [4,5]/\KK 169 6 [2,8,9,10]/\KK 169 7 [2,8,9,10]/\KK 169 8 [4,5]/\KK 172 0 [0]/\KK 172 1 [0,3]/\KK 172 2 [0,3,9,10,11]/\KK 172 3 [0,3,9,10,11,12]/\KK 172 4 [0,3,5,9,10,11]/\KK 172 5 [0,3,9,10,11]/\KK 172 6 [0,3,9,10,11,20]/\KK 172 8 [0,3,9,10,11]/\KK 172 9 [0,6]/\KK 172 10 [6,25,26,27]/\KK 172 11 [6,25,26,27,28]/\KK 172 12 [6,8,25,26,27]/\KK 172 13 [6,25,26,27]/\KK 172 14 [6,25,26,27]/\KK 172 15 [2]/\KK 173 0 [1,2]/\KK 173 1 [1,2,8]/\KK 173 2 [4,5]/\KK 173 3 [1,2,25]/\KK 173 4 [4,5]/\KK 173 5 [4,5]/\KK 174 0 [0,3,5]/\KK 174 1 [0,3,5,7]/\KK 174 2 [3,5,7,9]/\KK 174 3 [3,5,7,9,22]/\KK 174 4 [4,5,6]/\KK 174 5 [3,5,7,10]/\KK 174 6 [3,5,7,10,29]/\KK 174 7 [4,5,6]/\KK 174 8 [3,5,7,11]/\KK 174 9 [5,7,12,13]:=by and_intros <;> decide +kernel
@[simp] theorem kpS780:KK 174 10 [5,7,12,13,45]/\KK 174 11 [5,7,12,13]/\KK 174 12 [4,5,6]/\KK 175 0 [0,1]/\KK 175 1 [0,1,7,8]/\KK 175 2 [0,1,7,8,9]/\KK 175 3 [0,1,5,7,8]/\KK 175 4 [0,1,5,7,8,16]/\KK 175 5 [4]/\KK 175 6 [0,1,7,8]/\KK 175 7 [4]/\KK 176 0 [1,2]/\KK 176 1 [3]/\KK 177 0 [1,2]/\KK 177 1 [1,2,7]/\KK 177 2 [4]/\KK 177 3 [4]/\KK 178 0 [0,1,2,3]/\KK 178 1 [4]/\KK 179 0 [0,1,3,6]/\KK 179 1 [0,1,3,6,8]/\KK 179 2 []/\KK 179 3 [0,1,3,6,15]/\KK 179 4 []/\KK 180 0 [0]/\KK 180 1 [0,7,8,9]/\KK 180 2 [0,7,8,9,10]/\KK 180 3 [0,3,4,7,8,9]/\KK 180 4 [0,3,4,5,7,8,9]/\KK 180 5 [0,7,8,9,45]/\KK 180 6 [2]/\KK 180 7 [0,7,8,9]/\KK 180 8 [2]/\KK 181 0 [0,1,2]/\KK 181 1 [6]/\KK 182 0 [0,3]/\KK 182 1 [4]/\KK 185 0 [1,2]/\KK 185 1 [1,2,12]/\KK 185 2 [4]/\KK 185 3 [1,2,32]/\KK 185 4 [4]/\KK 185 5 [1,2,42]/\KK 185 6 [4]/\KK 185 7 [1,2,46]/\KK 185 8 [4]/\KK 185 9 [1,2,5]/\KK 185 10 [1,2,5,51]/\KK 185 11 [1,2,5]/\KK 185 12 [1,2,5,60]/\KK 185 13 [4]/\KK 185 14 [1,2,5,70]/\KK 185 15 [4]/\KK 185 16 [1,2,6]/\KK 185 17 [1,2,6,75]/\KK 185 18 [1,2,6]/\KK 185 19 [1,2,6,7]/\KK 185 20 [1,2,6,7,86]/\KK 185 21 [4]/\KK 185 22 [1,2,6,7,111]:=by and_intros <;> decide +kernel
@[simp] theorem kpS840:KK 185 23 [4]/\KK 185 24 [1,2,6,8]/\KK 185 25 [1,2,6,8,117]/\KK 185 26 [4]/\KK 185 27 [4]/\KK 186 0 [0,1,5]/\KK 186 1 [0,1,5,14]/\KK 186 2 [6]/\KK 186 3 [0,1,5,7]/\KK 186 4 [0,1,5,7,24]/\KK 186 5 [6]/\KK 186 6 [0,1,5,7,27]/\KK 186 7 [0,1,5,7,8]/\KK 186 8 [6]/\KK 186 9 [0,1,5,7,8,32]/\KK 186 10 [0,1,5,7]/\KK 186 11 [0,1,5,7,8,36]/\KK 186 12 [0,1,5,8,40]/\KK 186 13 [0,1,5,7]/\KK 186 14 [0,1,5,53]/\KK 186 15 [6]/\KK 186 16 [0,1,5,62]/\KK 186 17 [6]/\KK 186 18 [0,1,5,9]/\KK 186 19 [0,1,5,9,67]/\KK 186 20 [0,1,5,9]/\KK 186 21 [0,1,5,9,10]/\KK 186 22 [0,1,5,9,10,79]/\KK 186 23 [6]/\KK 186 24 [6]/\KK 190 0 [0,1]/\KK 190 1 [0,1,7,8]/\KK 190 2 [0,1,7,8,9]/\KK 190 3 [0,1,5,7,8]/\KK 190 4 [0,1,5,7,8,16]/\KK 190 5 [4]/\KK 190 6 [0,1,7,8]/\KK 190 7 [4]/\KK 192 0 [0,1]/\KK 192 1 [0,1,6]/\KK 192 3 [0,1]/\KK 192 4 [0,1,16]/\KK 192 5 [0]/\KK 192 6 [4]/\KK 193 0 [1]/\KK 193 1 [1,8]/\KK 193 2 [2,3]/\KK 193 3 [1,4,5]/\KK 193 4 [2,3]/\KK 194 0 [2,3]/\KK 194 1 [2,3,5]/\KK 194 2 [2,3,5,9]/\KK 194 3 [4]/\KK 194 4 [4]/\KK 195 0 [2,3,4,5]/\KK 195 1 [2,3,4,5,10]/\KK 195 2 [2,3,4,5,10,23]/\KK 195 3 [8,9]/\KK 195 4 [2,3,4,5]/\KK 195 5 [2,3,4,5,11]:=by and_intros <;> decide +kernel
@[simp] theorem kpS900:KK 195 6 [2,3,4,5,11,41]/\KK 195 7 [8,9]/\KK 195 8 [2,3,4,5,11,44]/\KK 195 9 [11,12]/\KK 195 10 [8,9]/\KK 195 11 [2,3,4,5,11,65]/\KK 195 12 [8,9]/\KK 195 13 [2,3,4,13]/\KK 195 14 [2,3,4,13,76,77]/\KK 195 15 [2,3,4,13,76,77,78]/\KK 195 16 [2,3,4,13,14,76,77]/\KK 195 17 [2,3,4,13,15,76,77]/\KK 195 18 [2,3,4,13,15,76,77,89,90,91]/\KK 195 19 [2,3,4,13,15,76,77,89,90,91,92]/\KK 195 20 [2,3,4,13,15,17,76,77,89,90,91]/\KK 195 21 [2,3,4,13,15,18,19,76,77,89,90,91]/\KK 195 22 [2,3,4,13,15,18,19,76,77,89,90,91,106]/\KK 195 23 [8,9]/\KK 195 24 [2,3,4,13,15,76,77,89,90,91]/\KK 195 25 [2,3,4,13,15,76,77,89,90,91]/\KK 195 26 [2,3,4,13,76,77]/\KK 195 27 [8,9]/\KK 196 0 [0,1,2]/\KK 196 1 [6]/\KK 197 0 [0]/\KK 197 1 [0,4]/\KK 197 2 [2]/\KK 197 3 [2]/\KK 198 0 [0]/\KK 198 1 [1]/\KK 199 0 [0,1]/\KK 199 1 [0,1,7,8]/\KK 199 2 [0,1,7,8,9]/\KK 199 3 [0,1,5,7,8]/\KK 199 4 [0,1,5,7,8,16]/\KK 199 5 [4]/\KK 199 6 [0,1,7,8]/\KK 199 7 [4]/\KK 200 0 [1,2]/\KK 200 1 [3]/\KK 212 0 [0,1]/\KK 212 1 [0,1,5]/\KK 212 2 [0,1,5,10]/\KK 212 3 [0,1,5]/\KK 212 4 [0,1,5,6]/\KK 212 5 [0,1,5,6,20]/\KK 212 6 [0,1,5,6]/\KK 212 7 [0,1,5,6,33]/\KK 212 8 [4]/\KK 212 9 [4]/\KK 213 0 [2,3,4]/\KK 213 1 [2,3,4,14]/\KK 213 2 [6]/\KK 213 3 [2,3,4,7]/\KK 213 4 [2,3,4,7,19]/\KK 213 5 [2,3,4,7]/\KK 213 6 [2,3,4,7,8]/\KK 213 7 [2,3,4,7,8,30]/\KK 213 8 [6]/\KK 213 9 [2,3,4,7,8,9]:=by and_intros <;> decide +kernel
@[simp] theorem kpS960:KK 213 10 [2,3,4,7,8,9,33]/\KK 213 11 [2,3,4,7,8,9]/\KK 213 12 [2,3,4,7,8,9,44]/\KK 213 13 [6]/\KK 213 14 [2,3,4,7,10]/\KK 213 15 [2,3,4,7,10,52]/\KK 213 16 [6]/\KK 213 17 [6]/\KK 215 0 [0,1]/\KK 215 1 [1,5]/\KK 215 2 [4]/\KK 215 3 [4]/\KK 216 0 [0]/\KK 216 1 [2]/\KK 217 0 [0]/\KK 217 1 [5,6,7]/\KK 217 2 [5,6,7,8]/\KK 217 3 [4,5,6,7]/\KK 217 4 [4,5,6,7,12]/\KK 217 5 [2]/\KK 217 6 [5,6,7]/\KK 217 7 [2]/\KK 230 0 [0,1]/\KK 230 1 [1,9,10,11]/\KK 230 2 [1,9,10,11,12]/\KK 230 3 [1,6,7,9,10,11]/\KK 230 4 [1,6,8,9,10,11]/\KK 230 5 [1,6,8,9,10,11,21]/\KK 230 6 [4,5]/\KK 230 7 [1,9,10,11]/\KK 230 8 [4,5]/\KK 231 0 [0,2,3,4,6]/\KK 231 1 [3,4,6,8]/\KK 231 2 [4,6,8]/\KK 231 3 [4,8,27,28,29]/\KK 231 4 [4,8,27,28,29,30]/\KK 231 5 [4,8,10,27,28,29]/\KK 231 6 [4,8,27,28,29]/\KK 231 7 [4,8,27,28,29]/\KK 231 8 [7]/\KK 232 0 [2,3,4,5]/\KK 232 1 [3,4,5,9]/\KK 232 2 [3,4,5,9,38]/\KK 232 3 [8]/\KK 232 4 [3,4,5,11]/\KK 232 5 [3,4,5,11,48]/\KK 232 6 [8]/\KK 232 7 [3,4,5]/\KK 232 8 [4,5,12]/\KK 232 9 [9]/\KK 232 10 [8]/\KK 234 0 [2,3]/\KK 234 1 [2,3,5]/\KK 234 2 [2,3,5,6]/\KK 234 3 [2,6]/\KK 234 4 [4]/\KK 235 0 [1]/\KK 235 1 [2]/\KK 236 0 [2,3]/\KK 236 1 [2,3,5]:=by and_intros <;> decide +kernel
@[simp] theorem kpS1020:KK 236 2 [2,3,5,11]/\KK 236 3 [4]/\KK 236 4 [2,3,5,11,12]/\KK 236 5 [2,3,5,19]/\KK 236 6 [4]/\KK 236 7 [2,3,5,11,20]/\KK 236 8 [2,3,5,6,7]/\KK 236 9 [2,3,5,6,29]/\KK 236 10 [2,3,5]/\KK 236 11 [2,3,5,34]/\KK 236 12 [2,3,5]/\KK 236 13 [2,3,5,38]/\KK 236 14 [4]/\KK 236 15 [2,3,5,42]/\KK 236 16 [2,3,48]/\KK 236 17 [4]/\KK 236 18 [2,3,57]/\KK 236 19 [4]/\KK 236 20 [9]/\KK 236 21 [4]/\KK 237 0 [2,3]/\KK 237 1 [3,5,6]/\KK 237 2 [3,5,21]/\KK 237 3 [4]/\KK 237 4 [3,5,7]/\KK 237 5 [3,5,7,26,27,28]/\KK 237 6 [3,5,7,26,27,28,29]/\KK 237 7 [3,5,7,9,26,27,28]/\KK 237 8 [3,5,7,9,10,26,27,28]/\KK 237 9 [3,5,7,10,26,27,28,36,37,38]/\KK 237 10 [3,5,7,10,26,27,28,36,37,38,39]/\KK 237 11 [3,5,7,10,12,26,27,28,36,37,38]/\KK 237 12 [3,5,7,10,26,27,28,36,37,38]/\KK 237 13 [3,5,7,10,26,27,28,36,37,38]/\KK 237 14 [3,5,7,26,27,28]/\KK 237 15 [3,5,7,26,27,28]/\KK 237 16 [4]/\KK 238 0 [0]/\KK 238 1 [2]/\KK 239 0 [0]/\KK 239 1 [0,3]/\KK 239 2 [3,9,10,11]/\KK 239 3 [3,9,10,11,12]/\KK 239 4 [3,5,9,10,11]/\KK 239 5 [3,9,10,11]/\KK 239 6 [3,9,10,11]/\KK 239 7 [2]/\KK 252 0 [0,1]/\KK 252 1 [4]/\KK 253 0 [0,1]/\KK 253 1 [1,9,10,11]/\KK 253 2 [1,9,10,11,12]/\KK 253 3 [1,6,7,9,10,11]/\KK 253 4 [1,6,8,9,10,11]/\KK 253 5 [1,6,8,9,10,11,21]/\KK 253 6 [4,5]/\KK 253 7 [1,9,10,11]/\KK 253 8 [4,5]/\KK 254 0 [0,1,2]/\KK 254 1 [5]:=by and_intros <;> decide +kernel
@[simp] theorem kpS1080:KK 255 0 [0,1]/\KK 255 1 [1,9,10,11]/\KK 255 2 [1,9,10,11,12]/\KK 255 3 [1,6,7,9,10,11]/\KK 255 4 [1,6,8,9,10,11]/\KK 255 5 [1,6,8,9,10,11,21]/\KK 255 6 [4,5]/\KK 255 7 [1,9,10,11]/\KK 255 8 [4,5]/\KK 256 0 [2,3,5]/\KK 256 1 [2,3,5,7]/\KK 256 2 [2,3,5,7,23]/\KK 256 3 [6]/\KK 256 4 [3,5]/\KK 256 5 [3,5,8]/\KK 256 6 [10]/\KK 256 7 [6]/\KK 257 0 [0,1]/\KK 257 1 [1,9,10,11]/\KK 257 2 [1,9,10,11,12]/\KK 257 3 [1,6,7,9,10,11]/\KK 257 4 [1,6,8,9,10,11]/\KK 257 5 [1,6,8,9,10,11,21]/\KK 257 6 [4,5]/\KK 257 7 [1,9,10,11]/\KK 257 8 [4,5]/\KK 258 0 [2,3,5]/\KK 258 1 [2,3,5,7]/\KK 258 2 [2,3,5,7,13]/\KK 258 3 [6]/\KK 258 4 [3,5]/\KK 258 5 [6]/\KK 259 0 [1,2,3,4,5]/\KK 259 1 [1,2,3,4,5]/\KK 259 2 [1,3,4,5,17]/\KK 259 3 [7]/\KK 259 4 [1,4,20,21,22]/\KK 259 5 [1,4,20,21,22,23]/\KK 259 6 [1,4,9,20,21,22]/\KK 259 7 [1,4,20,21,22,31]/\KK 259 8 [7]/\KK 259 9 [1,4,20,21,22]/\KK 259 10 [7]/\KK 260 0 [0,1]/\KK 260 1 [4]/\KK 261 0 [2,3,4]/\KK 261 1 [2,4,6]/\KK 261 2 [2,4,6,12]/\KK 261 3 [4,5]/\KK 261 4 [4,5]/\KK 262 0 [0,1]/\KK 262 1 [1,9,10,11]/\KK 262 2 [1,9,10,11,12]/\KK 262 3 [1,6,7,9,10,11]/\KK 262 4 [1,6,8,9,10,11]/\KK 262 5 [1,6,8,9,10,11,21]/\KK 262 6 [4,5]/\KK 262 7 [1,9,10,11]/\KK 262 8 [4,5]/\KK 263 0 [2,4]:=by and_intros <;> decide +kernel
@[simp] theorem kpS1140:KK 263 1 [5]/\KK 264 0 [1,2,3,6]/\KK 264 1 [1,2,3,6,7]/\KK 264 2 [1,2,3,6,7,21]/\KK 264 3 [6]/\KK 264 4 [1,2,3,6,8]/\KK 264 5 [1,2,3,6,8]/\KK 264 6 [1,2,6,8,30,31,32]/\KK 264 7 [1,2,6,8,30,31,32,33]/\KK 264 8 [1,2,6,8,10,30,31,32]/\KK 264 9 [1,2,6,8,30,31,32]/\KK 264 10 [1,2,6,8,30,31,32]/\KK 264 11 [6]/\KK 265 0 [1]/\KK 265 1 [1,3]/\KK 265 2 [3,7,8,9]/\KK 265 3 [3,7,8,9,10]/\KK 265 4 [3,5,7,8,9]/\KK 265 5 [3,7,8,9]/\KK 265 6 [3,7,8,9]/\KK 265 7 [2]/\KK 268 0 [0]/\KK 268 1 [0,7,8,9]/\KK 268 2 [0,7,8,9,10]/\KK 268 3 [0,3,4,7,8,9]/\KK 268 4 [0,3,4,5,7,8,9]/\KK 268 5 [0,7,8,9,45]/\KK 268 6 [2]/\KK 268 7 [0,7,8,9]/\KK 268 8 [2]/\KK 269 0 [0,1]/\KK 269 1 [0,1,7,8]/\KK 269 2 [0,1,7,8,9]/\KK 269 3 [0,1,5,7,8]/\KK 269 4 [0,1,5,7,8,16]/\KK 269 5 [4]/\KK 269 6 [0,1,7,8]/\KK 269 7 [4]/\KK 270 0 [1,2]/\KK 270 1 [3]:=by and_intros <;> decide +kernel
@[simp] theorem fnS0:fnN 11 f11/\fnN 12 Tryz.f12/\fnN 15 f15/\fnN 20 Tryz.f20/\fnN 26 f26/\fnN 27 f27/\fnN 28 f28/\fnN 29 f29/\fnN 31 f31/\fnN 32 f32/\fnN 34 f34/\fnN 35 f35/\fnN 40 f40/\fnN 59 f59/\fnN 63 f63/\fnN 66 f66/\fnN 67 f67/\fnN 68 f68/\fnN 72 f72/\fnN 74 f74/\fnN 76 f76/\fnN 78 f78/\fnN 79 f79/\fnN 80 f80/\fnN 81 f81:=by and_intros <;> unfold fnN <;> kernel_rfl
@[simp] theorem fnS25:fnN 82 f82/\fnN 83 f83/\fnN 84 f84/\fnN 85 f85/\fnN 86 f86/\fnN 87 f87/\fnN 88 f88/\fnN 89 f89/\fnN 97 f97/\fnN 101 f101/\fnN 104 f104/\fnN 110 f110/\fnN 111 f111/\fnN 114 f114/\fnN 116 f116/\fnN 118 f118/\fnN 119 f119/\fnN 121 f121/\fnN 122 f122/\fnN 123 f123/\fnN 124 f124/\fnN 125 Tryz.f125/\fnN 126 f126/\fnN 127 f127/\fnN 128 Tryz.f128:=by and_intros <;> unfold fnN <;> kernel_rfl
@[simp] theorem fnS50:fnN 129 Tryz.f129/\fnN 130 f130/\fnN 131 f131/\fnN 132 f132/\fnN 133 f133/\fnN 134 f134/\fnN 135 f135/\fnN 136 f136/\fnN 137 f137/\fnN 138 f138/\fnN 139 f139/\fnN 140 f140/\fnN 141 f141/\fnN 142 f142/\fnN 143 f143/\fnN 144 f144/\fnN 145 f145/\fnN 146 f146/\fnN 147 f147/\fnN 148 f148/\fnN 151 f151/\fnN 152 f152/\fnN 153 f153/\fnN 154 f154/\fnN 155 f155:=by and_intros <;> unfold fnN <;> kernel_rfl
@[simp] theorem fnS75:fnN 156 f156/\fnN 157 f157/\fnN 158 f158/\fnN 166 f166/\fnN 167 f167/\fnN 168 f168/\fnN 169 f169/\fnN 172 f172/\fnN 173 f173/\fnN 174 f174/\fnN 175 f175/\fnN 176 f176/\fnN 177 f177/\fnN 178 f178/\fnN 179 f179/\fnN 180 f180/\fnN 181 f181/\fnN 182 f182/\fnN 185 f185/\fnN 186 f186/\fnN 190 Tryz.f190/\fnN 192 f192/\fnN 193 f193/\fnN 194 Tryz.f194/\fnN 195 f195:=by and_intros <;> unfold fnN <;> kernel_rfl
@[simp] theorem fnS100:fnN 196 f196/\fnN 197 f197/\fnN 198 f198/\fnN 199 f199/\fnN 200 f200/\fnN 212 f212/\fnN 213 f213/\fnN 215 Tryz.f215/\fnN 216 Tryz.f216/\fnN 217 f217/\fnN 230 f230/\fnN 231 f231/\fnN 232 f232/\fnN 234 f234/\fnN 235 f235/\fnN 236 f236/\fnN 237 f237/\fnN 238 f238/\fnN 239 f239/\fnN 252 f252/\fnN 253 f253/\fnN 254 f254/\fnN 255 f255/\fnN 256 f256/\fnN 257 Tryz.f257:=by and_intros <;> unfold fnN <;> kernel_rfl
@[simp] theorem fnS125:fnN 258 Tryz.f258/\fnN 259 f259/\fnN 260 f260/\fnN 261 f261/\fnN 262 f262/\fnN 263 f263/\fnN 264 f264/\fnN 265 f265/\fnN 268 f268/\fnN 269 f269/\fnN 270 f270:=by and_intros <;> unfold fnN <;> kernel_rfl
@[simp] theorem dL:Ao 11:=rfl
@[simp] theorem primS0:AQ 11/\AQ 12/\AQ 15/\AQ 20/\AQ 26/\AQ 27/\AQ 28/\AQ 29/\AQ 31/\AQ 32/\AQ 34/\AQ 35/\AQ 40/\AQ 59/\AQ 63/\AQ 66/\AQ 67/\AQ 68/\AQ 72/\AQ 73/\AQ 74/\AQ 75/\AQ 76/\AQ 77/\AQ 78:=by and_intros <;> unfold AQ <;> kernel_rfl
@[simp] theorem primS25:AQ 79/\AQ 80/\AQ 81/\AQ 82/\AQ 83/\AQ 84/\AQ 85/\AQ 86/\AQ 87/\AQ 88/\AQ 89/\AQ 97/\AQ 101/\AQ 104/\AQ 110/\AQ 111/\AQ 114/\AQ 116/\AQ 118/\AQ 119/\AQ 121/\AQ 122/\AQ 123/\AQ 124/\AQ 125:=by and_intros <;> unfold AQ <;> kernel_rfl
@[simp] theorem primS50:AQ 126/\AQ 127/\AQ 128/\AQ 129/\AQ 130/\AQ 131/\AQ 132/\AQ 133/\AQ 134/\AQ 135/\AQ 136/\AQ 137/\AQ 138/\AQ 139/\AQ 140/\AQ 141/\AQ 142/\AQ 143/\AQ 144/\AQ 145/\AQ 146/\AQ 147/\AQ 148/\AQ 149/\AQ 150:=by and_intros <;> unfold AQ <;> kernel_rfl
@[simp] theorem primS75:AQ 151/\AQ 152/\AQ 153/\AQ 154/\AQ 155/\AQ 156/\AQ 157/\AQ 158/\AQ 166/\AQ 167/\AQ 168/\AQ 169/\AQ 170/\AQ 171/\AQ 172/\AQ 173/\AQ 174/\AQ 175/\AQ 176/\AQ 177/\AQ 178/\AQ 179/\AQ 180/\AQ 181/\AQ 182:=by and_intros <;> unfold AQ <;> kernel_rfl
@[simp] theorem primS100:AQ 184/\AQ 185/\AQ 186/\AQ 190/\AQ 192/\AQ 193/\AQ 194/\AQ 195/\AQ 196/\AQ 197/\AQ 198/\AQ 199/\AQ 200/\AQ 212/\AQ 213/\AQ 215/\AQ 216/\AQ 217/\AQ 230/\AQ 232/\AQ 234/\AQ 235/\AQ 236/\AQ 237/\AQ 238:=by and_intros <;> unfold AQ <;> kernel_rfl
@[simp] theorem primS125:AQ 239/\AQ 252/\AQ 253/\AQ 255/\AQ 257/\AQ 259/\AQ 260/\AQ 261/\AQ 262/\AQ 264/\AQ 265/\AQ 268/\AQ 269/\AQ 270:=by and_intros <;> unfold AQ <;> kernel_rfl
@[simp] theorem Y6:MF 11:=rfl
@[simp] theorem dM:Ao 12:=rfl
@[simp] theorem Y7:MF 12:=rfl
@[simp] theorem WT:Ao 15:=rfl
@[simp] theorem TG:MX.mode 15 = { fresh:=true,keepTop:=true }:=rfl
@[simp] theorem mutS0:Fj 15/\Fj 31/\Fj 68/\Fj 75/\Fj 77/\Fj 79/\Fj 80/\Fj 81/\Fj 88/\Fj 101/\Fj 119/\Fj 125/\Fj 126/\Fj 129/\Fj 130/\Fj 133/\Fj 136/\Fj 138/\Fj 139/\Fj 141/\Fj 142/\Fj 144/\Fj 147/\Fj 151/\Fj 168:=by and_intros <;> unfold Fj <;> kernel_rfl
@[simp] theorem mutS25:Fj 185/\Fj 195/\Fj 231/\Fj 232/\Fj 237/\Fj 252/\Fj 256/\Fj 258/\Fj 264:=by and_intros <;> unfold Fj <;> kernel_rfl
@[simp] theorem WU:Ao 20:=rfl
@[simp] theorem TH:MF 20:=rfl
@[simp] theorem SB:Ao 26:=rfl
@[simp] theorem Pk:MF 26:=rfl
@[simp] theorem SC:Ao 27:=rfl
@[simp] theorem J4:MF 27:=rfl
@[simp] theorem WX:Ao 28:=rfl
@[simp] theorem TI:MF 28:=rfl
@[simp] theorem dN:Ao 29:=rfl
@[simp] theorem Y8:MF 29:=rfl
@[simp] theorem SD:Ao 31:=rfl
@[simp] theorem Pl:MF 31:=rfl
@[simp] theorem dP:Ao 32:=rfl
@[simp] theorem Y9:MF 32:=rfl
@[simp] theorem dQ:Ao 34:=rfl
@[simp] theorem ZA:MF 34:=rfl
@[simp] theorem dR:Ao 35:=rfl
@[simp] theorem ZB:MF 35:=rfl
@[simp] theorem dS:Ao 40:=rfl
@[simp] theorem TJ:MF 40:=rfl
@[simp] theorem dT:Ao 59:=rfl
@[simp] theorem ZC:MF 59:=rfl
@[simp] theorem dU:Ao 63:=rfl
@[simp] theorem ZD:MX.mode 63 = { }:=rfl
@[simp] theorem WY:Ao 66:=rfl
@[simp] theorem TK:MF 66:=rfl
@[simp] theorem dV:Ao 67:=rfl
@[simp] theorem ZE:MF 67:=rfl
@[simp] theorem WZ:Ao 68:=rfl
@[simp] theorem TL:MF 68:=rfl
@[simp] theorem dW:Ao 72:=rfl
@[simp] theorem ZF:MF 72:=rfl
@[simp] theorem ZG:MF 73:=rfl
@[simp] theorem dX:Ao 74:=rfl
@[simp] theorem ZH:MF 74:=rfl
@[simp] theorem fn_75:fnN 75 f75:=by unfold fnN;kernel_rfl
@[simp] theorem Ls:Ao 75:=rfl
@[simp] theorem J5:MX.mode 75 = { fresh:=false,keepTop:=false }:=rfl
@[simp] theorem SE:Ao 76:=rfl
@[simp] theorem MV:MF 76:=rfl
@[simp] theorem fn_77:fnN 77 f77:=by unfold fnN;kernel_rfl
@[simp] theorem Ix:Ao 77:=rfl
@[simp] theorem HW:MX.mode 77 = { fresh:=false,keepTop:=false }:=rfl
@[simp] theorem SF:Ao 78:=rfl
@[simp] theorem Pm:MF 78:=rfl
@[simp] theorem NG:Ao 79:=rfl
@[simp] theorem LA:MX.mode 79 = { }:=rfl
@[simp] theorem Wa:Ao 80:=rfl
@[simp] theorem TM:MF 80:=rfl
@[simp] theorem dY:Ao 81:=rfl
@[simp] theorem ZI:MF 81:=rfl
@[simp] theorem Wb:Ao 82:=rfl
@[simp] theorem TN:MX.mode 82 = { }:=rfl
@[simp] theorem NH:Ao 83:=rfl
@[simp] theorem LB:MX.mode 83 = { }:=rfl
@[simp] theorem dZ:Ao 84:=rfl
@[simp] theorem ZJ:MF 84:=rfl
@[simp] theorem da:Ao 85:=rfl
@[simp] theorem ZK:MF 85:=rfl
@[simp] theorem db:Ao 86:=rfl
@[simp] theorem ZL:MF 86:=rfl
@[simp] theorem dc:Ao 87:=rfl
@[simp] theorem ZM:MF 87:=rfl
@[simp] theorem Wc:Ao 88:=rfl
@[simp] theorem TP:MF 88:=rfl
@[simp] theorem dd:Ao 89:=rfl
@[simp] theorem ZN:MF 89:=rfl
@[simp] theorem dg:Ao 97:=rfl
@[simp] theorem ZO:MF 97:=rfl
@[simp] theorem TQ:Ao 101:=rfl
@[simp] theorem Qh:MX.mode 101 = { fresh:=false,keepTop:=false }:=rfl
@[simp] theorem ZP:Ao 104:=rfl
@[simp] theorem Wd:MF 104:=rfl
@[simp] theorem ZQ:Ao 110:=rfl
@[simp] theorem We:MF 110:=rfl
@[simp] theorem ZR:Ao 111:=rfl
@[simp] theorem Wf:MF 111:=rfl
@[simp] theorem ZS:Ao 114:=rfl
@[simp] theorem Wg:MF 114:=rfl
@[simp] theorem Pn:Ao 116:=rfl
@[simp] theorem NI:MX.mode 116 = { }:=rfl
@[simp] theorem ZT:Ao 118:=rfl
@[simp] theorem Wh:MF 118:=rfl
@[simp] theorem Po:Ao 119:=rfl
@[simp] theorem NJ:MF 119:=rfl
@[simp] theorem ZU:Ao 121:=rfl
@[simp] theorem Wi:MF 121:=rfl
@[simp] theorem ZV:Ao 122:=rfl
@[simp] theorem Wj:MF 122:=rfl
@[simp] theorem ZW:Ao 123:=rfl
@[simp] theorem Qi:MF 123:=rfl
@[simp] theorem ZX:Ao 124:=rfl
@[simp] theorem Qj:MF 124:=rfl
@[simp] theorem ZY:Ao 125:=rfl
@[simp] theorem Wl:MX.mode 125 = { fresh:=false,keepTop:=false }:=rfl
@[simp] theorem Pp:Ao 126:=rfl
@[simp] theorem NK:MF 126:=rfl
@[simp] theorem ZZ:Ao 127:=rfl
@[simp] theorem Wm:MF 127:=rfl
@[simp] theorem TR:Ao 128:=rfl
@[simp] theorem Qk:MF 128:=rfl
@[simp] theorem Za:Ao 129:=rfl
@[simp] theorem Ql:MF 129:=rfl
@[simp] theorem TT:Ao 130:=rfl
@[simp] theorem Qm:MX.mode 130 = { fresh:=false,keepTop:=false }:=rfl
@[simp] theorem Zb:Ao 131:=rfl
@[simp] theorem Wn:MF 131:=rfl
@[simp] theorem Zc:Ao 132:=rfl
@[simp] theorem Wo:MF 132:=rfl
@[simp] theorem Zd:Ao 133:=rfl
@[simp] theorem Qn:MF 133:=rfl
@[simp] theorem Ze:Ao 134:=rfl
@[simp] theorem Wp:MF 134:=rfl
@[simp] theorem Zf:Ao 135:=rfl
@[simp] theorem Wq:MF 135:=rfl
@[simp] theorem Pq:Ao 136:=rfl
@[simp] theorem NL:MF 136:=rfl
@[simp] theorem Zg:Ao 137:=rfl
@[simp] theorem Wr:MF 137:=rfl
@[simp] theorem Zh:Ao 138:=rfl
@[simp] theorem Ws:MF 138:=rfl
@[simp] theorem TU:Ao 139:=rfl
@[simp] theorem NN:MF 139:=rfl
@[simp] theorem Zi:Ao 140:=rfl
@[simp] theorem Qo:MF 140:=rfl
@[simp] theorem TV:Ao 141:=rfl
@[simp] theorem Qp:MF 141:=rfl
@[simp] theorem TW:Ao 142:=rfl
@[simp] theorem Qq:MF 142:=rfl
@[simp] theorem Zj:Ao 143:=rfl
@[simp] theorem Wt:MF 143:=rfl
@[simp] theorem MY:Ao 144:=rfl
@[simp] theorem LC:MX.mode 144 = { fresh:=false,keepTop:=false }:=rfl
@[simp] theorem Zk:Ao 145:=rfl
@[simp] theorem Wu:MF 145:=rfl
@[simp] theorem mut_145:MX.mutLit 145=true:=by kernel_rfl
@[simp] theorem Zl:Ao 146:=rfl
@[simp] theorem Wv:MX.mode 146 = { fresh:=false,keepTop:=false }:=rfl
@[simp] theorem HX:Ao 147:=rfl
@[simp] theorem GY:MX.mode 147 = { }:=rfl
@[simp] theorem TX:Ao 148:=rfl
@[simp] theorem Qr:MX.mode 148 = { fresh:=true,keepTop:=true }:=rfl
@[simp] theorem mut_148:MX.mutLit 148=true:=by kernel_rfl
@[simp] theorem TY:MX.eff 149=some Qb:=by kernel_rfl
@[simp] theorem Qs:MX.mode 149 = { fresh:=false,keepTop:=false }:=rfl
@[simp] theorem TZ:MX.eff 150=some Jb:=by kernel_rfl
@[simp] theorem Qt:MX.mode 150 = { fresh:=false,keepTop:=false }:=rfl
@[simp] theorem Ta:Ao 151:=rfl
@[simp] theorem NO:MX.mode 151 = { fresh:=true,keepTop:=true }:=rfl
@[simp] theorem Zm:Ao 152:=rfl
@[simp] theorem Ww:MF 152:=rfl
@[simp] theorem Tb:Ao 153:=rfl
@[simp] theorem Qu:MF 153:=rfl
@[simp] theorem Tc:Ao 154:=rfl
@[simp] theorem Qv:MF 154:=rfl
@[simp] theorem Zn:Ao 155:=rfl
@[simp] theorem Wx:MF 155:=rfl
@[simp] theorem Zo:Ao 156:=rfl
@[simp] theorem Wy:MF 156:=rfl
@[simp] theorem Zp:Ao 157:=rfl
@[simp] theorem Wz:MF 157:=rfl
@[simp] theorem Td:Ao 158:=rfl
@[simp] theorem Qw:MF 158:=rfl
@[simp] theorem Zq:Ao 166:=rfl
@[simp] theorem W0:MF 166:=rfl
@[simp] theorem Zr:Ao 167:=rfl
@[simp] theorem W1:MF 167:=rfl
@[simp] theorem Zs:Ao 168:=rfl
@[simp] theorem W2:MX.mode 168 = { fresh:=false,keepTop:=false }:=rfl
@[simp] theorem Te:Ao 169:=rfl
@[simp] theorem Qx:MF 169:=rfl
@[simp] theorem Tf:MX.eff 170=some Qd:=rfl
@[simp] theorem Qy:MX.mode 170 = { fresh:=false,keepTop:=false }:=rfl
@[simp] theorem Tg:MX.eff 171=some Jf:=rfl
@[simp] theorem Qz:MX.mode 171 = { fresh:=false,keepTop:=false }:=rfl
@[simp] theorem Th:Ao 172:=rfl
@[simp] theorem Q1:MF 172:=rfl
@[simp] theorem MZ:Ao 173:=rfl
@[simp] theorem LD:MF 173:=rfl
@[simp] theorem Ma:Ao 174:=rfl
@[simp] theorem LF:MX.mode 174 = { }:=rfl
@[simp] theorem Ti:Ao 175:=rfl
@[simp] theorem LG:MF 175:=rfl
@[simp] theorem Zt:Ao 176:=rfl
@[simp] theorem W3:MX.mode 176 = { fresh:=false,keepTop:=false }:=rfl
@[simp] theorem Tj:Ao 177:=rfl
@[simp] theorem Q3:MX.mode 177 = { fresh:=false,keepTop:=false }:=rfl
@[simp] theorem Zu:Ao 178:=rfl
@[simp] theorem W4:MX.mode 178 = { fresh:=false,keepTop:=false }:=rfl
@[simp] theorem Pr:Ao 179:=rfl
@[simp] theorem NP:MX.mode 179 = { fresh:=false,keepTop:=false }:=rfl
@[simp] theorem Zv:Ao 180:=rfl
@[simp] theorem W5:MF 180:=rfl
@[simp] theorem Zw:Ao 181:=rfl
@[simp] theorem W6:MF 181:=rfl
@[simp] theorem Zx:Ao 182:=rfl
@[simp] theorem W7:MX.mode 182 = { }:=rfl
@[simp] theorem Zy:MX.eff 184=some K9:=by kernel_rfl
@[simp] theorem W8:MF 184:=rfl
@[simp] theorem Zz:Ao 185:=rfl
@[simp] theorem W9:MF 185:=rfl
@[simp] theorem Z0:Ao 186:=rfl
@[simp] theorem XA:MF 186:=rfl
@[simp] theorem Z1:Ao 190:=rfl
@[simp] theorem XB:MF 190:=rfl
@[simp] theorem Tk:Ao 192:=rfl
@[simp] theorem Q4:MX.mode 192 = { fresh:=false,keepTop:=false }:=rfl
@[simp] theorem Z2:Ao 193:=rfl
@[simp] theorem XC:MF 193:=rfl
@[simp] theorem Tl:Ao 194:=rfl
@[simp] theorem Q5:MF 194:=rfl
@[simp] theorem Iy:Ao 195:=rfl
@[simp] theorem Hr:MX.mode 195 = { fresh:=false,keepTop:=false }:=rfl
@[simp] theorem Z3:Ao 196:=rfl
@[simp] theorem XD:MF 196:=rfl
@[simp] theorem Tn:Ao 197:=rfl
@[simp] theorem Q6:MX.mode 197 = { }:=rfl
@[simp] theorem Z4:Ao 198:=rfl
@[simp] theorem XE:MX.mode 198 = { fresh:=false,keepTop:=false }:=rfl
@[simp] theorem Z5:Ao 199:=rfl
@[simp] theorem XF:MX.mode 199 = { }:=rfl
@[simp] theorem Z6:Ao 200:=rfl
@[simp] theorem XG:MX.mode 200 = { fresh:=false,keepTop:=false }:=rfl
@[simp] theorem Z7:Ao 212:=rfl
@[simp] theorem XH:MF 212:=rfl
@[simp] theorem Z8:Ao 213:=rfl
@[simp] theorem XI:MF 213:=rfl
@[simp] theorem Z9:Ao 215:=rfl
@[simp] theorem XJ:MF 215:=rfl
@[simp] theorem Ps:Ao 216:=rfl
@[simp] theorem NQ:MX.mode 216 = { }:=rfl
@[simp] theorem aA:Ao 217:=rfl
@[simp] theorem XK:MF 217:=rfl
@[simp] theorem Tp:Ao 230:=rfl
@[simp] theorem Q7:MX.mode 230 = { fresh:=false,keepTop:=false }:=rfl
@[simp] theorem aB:Ao 231:=rfl
@[simp] theorem XL:AQ 231:=by unfold AQ;kernel_rfl
@[simp] theorem XM:MX.mode 231 = { fresh:=false,keepTop:=false }:=rfl
@[simp] theorem aC:Ao 232:=rfl
@[simp] theorem Q8:MF 232:=rfl
@[simp] theorem aD:Ao 234:=rfl
@[simp] theorem XN:MF 234:=rfl
@[simp] theorem aE:Ao 235:=rfl
@[simp] theorem XO:MF 235:=rfl
@[simp] theorem aF:Ao 236:=rfl
@[simp] theorem XP:MF 236:=rfl
@[simp] theorem Tq:Ao 237:=rfl
@[simp] theorem Q9:MX.mode 237 = { fresh:=true,keepTop:=true }:=rfl
@[simp] theorem aG:Ao 238:=rfl
@[simp] theorem XQ:MX.mode 238 = { }:=rfl
@[simp] theorem aH:Ao 239:=rfl
@[simp] theorem XR:MX.mode 239 = { }:=rfl
@[simp] theorem aI:Ao 252:=rfl
@[simp] theorem NR:MF 252:=rfl
@[simp] theorem Tr:Ao 253:=rfl
@[simp] theorem RA:MX.mode 253 = { fresh:=false,keepTop:=false }:=rfl
@[simp] theorem aJ:Ao 254:=rfl
@[simp] theorem XS:AQ 254:=by unfold AQ;kernel_rfl
@[simp] theorem XT:MX.mode 254 = { fresh:=false,keepTop:=false }:=rfl
@[simp] theorem Ts:Ao 255:=rfl
@[simp] theorem RB:MX.mode 255 = { fresh:=false,keepTop:=false }:=rfl
@[simp] theorem Tt:Ao 256:=rfl
@[simp] theorem XU:AQ 256:=by unfold AQ;kernel_rfl
@[simp] theorem RC:MX.mode 256 = { fresh:=false,keepTop:=false }:=rfl
@[simp] theorem Tu:Ao 257:=rfl
@[simp] theorem RD:MX.mode 257 = { fresh:=false,keepTop:=false }:=rfl
@[simp] theorem Tv:Ao 258:=rfl
@[simp] theorem XV:AQ 258:=by unfold AQ;kernel_rfl
@[simp] theorem RE:MX.mode 258 = { fresh:=false,keepTop:=false }:=rfl
@[simp] theorem aK:Ao 259:=rfl
@[simp] theorem XW:MX.mode 259 = { fresh:=false,keepTop:=false }:=rfl
@[simp] theorem aL:Ao 260:=rfl
@[simp] theorem XX:MF 260:=rfl
@[simp] theorem Tw:Ao 261:=rfl
@[simp] theorem RF:MF 261:=rfl
@[simp] theorem Tx:Ao 262:=rfl
@[simp] theorem RG:MX.mode 262 = { fresh:=false,keepTop:=false }:=rfl
@[simp] theorem aM:Ao 263:=rfl
@[simp] theorem XY:AQ 263:=by unfold AQ;kernel_rfl
@[simp] theorem XZ:MX.mode 263 = { fresh:=false,keepTop:=false }:=rfl
@[simp] theorem Pt:Ao 264:=rfl
@[simp] theorem NS:MF 264:=rfl
@[simp] theorem aN:Ao 265:=rfl
@[simp] theorem Xa:MX.mode 265 = { }:=rfl
@[simp] theorem aO:Ao 268:=rfl
@[simp] theorem Xb:MF 268:=rfl
@[simp] theorem aP:Ao 269:=rfl
@[simp] theorem Xc:MF 269:=rfl
@[simp] theorem aQ:Ao 270:=rfl
@[simp] theorem Xd:MX.mode 270 = { fresh:=false,keepTop:=false }:=rfl
theorem Xe:A2 (Aa f15 1)=[[],[0],[0,1],[],[3],[],[],[6],[0,1,2,5,6,7],[0,1,2,3,4,5,6,7,8],[0,1,2,3,4,5,6,7,8,9]]:=by kernel_rfl
theorem Xf:A2 (Aa Tryz.f20 6)=[[],[],[0,1],[0,1,2],[],[],[4,5],[4,5,6],[0,1,2,3,4,5,6,7]]:=by kernel_rfl
theorem Xg:A2 (Aa f28 1)=[[],[],[1],[],[3],[1,2,3,4],[0,1,2,3,4,5],[0,1,2,3,4,5,6],[0,1,2,3,4,5,6],[0,1,2,3,4,5,6,7,8],[0,1,2,3,4,5,6,7,8,9]]:=by kernel_rfl
theorem Uf:A2 (Aa f29 11)=[[],[],[0,1],[0,1,2],[0,1,2,3],[],[0,1,2,3,4,5],[0,1,2,3,4,5,6],[],[],[8,9],[8,9,10],[8,9,10,11],[],[8,9,10,11,12,13],[8,9,10,11,12,13,14],[0,1,2,3,4,5,6,7,8,9,10,11,12,13,14,15]]:=by kernel_rfl
theorem Xh:A2 (Aa f31 5)=[[],[],[0,1],[0,1,2],[0,1,2,3],[],[],[5,6],[5,6,7],[5,6,7,8],[5,6,7,8,9],[0,1,2,3,4,5,6,7,8,9,10],[],[0,1,2,3,4,5,6,7,8,9,10,11,12]]:=by kernel_rfl
theorem Ug:A2 (Aa f31 10)=[[],[0],[],[2],[],[4],[4,5],[2,3,4,5,6],[2,3,4,5,6,7],[0,1,2,3,4,5,6,7,8],[0,1,2,3,4,5,6,7,8,9],[0,1,2,3,4,5,6,7,8,9,10]]:=by kernel_rfl
theorem Uh:A2 (Aa f32 11)=[[],[0],[],[2],[],[4],[],[4,5,6],[4,5,6,7],[0,1,2,3,4,5,6,7,8],[0,1,2,3,4,5,6,7,8,9]]:=by kernel_rfl
theorem Ui:A2 (Aa f35 10)=[[],[],[0,1],[],[],[3,4],[3,4,5],[0,1,2,3,4,5,6]]:=by kernel_rfl
theorem Uj:A2 (Aa f68 13)=[[],[0],[],[2],[],[4],[],[6],[],[8],[4,5,6,7,8,9],[2,3,4,5,6,7,8,9,10],[2,3,4,5,6,7,8,9,10,11],[0,1,2,3,4,5,6,7,8,9,10,11,12],[0,1,2,3,4,5,6,7,8,9,10,11,12,13],[0,1,2,3,4,5,6,7,8,9,10,11,12,13,14]]:=by kernel_rfl
theorem Uk:A2 (Aa f75 14)=[[],[0],[0,1],[0,1,2],[],[],[5],[5,6],[5,6,7],[],[5,6,7,8,9],[5,6,7,8,9,10],[5,6,7,8,9,10,11],[],[13],[],[13,14,15],[13,14,15,16],[5,6,7,8,9,10,11,12,13,14,15,16,17],[0,1,2,3,4,5,6,7,8,9,10,11,12,13,14,15,16,17,18],[0,1,2,3,4,5,6,7,8,9,10,11,12,13,14,15,16,17,18,19],[0,1,2,3,4,5,6,7,8,9,10,11,12,13,14,15,16,17,18,19,20]]:=by kernel_rfl
theorem Ul:A2 (Aa f75 22)=[[],[0],[0,1],[0,1,2],[],[],[5],[5,6],[5,6,7],[],[5,6,7,8,9],[5,6,7,8,9,10],[5,6,7,8,9,10,11],[],[],[13,14],[13,14,15],[5,6,7,8,9,10,11,12,13,14,15,16],[0,1,2,3,4,5,6,7,8,9,10,11,12,13,14,15,16,17],[0,1,2,3,4,5,6,7,8,9,10,11,12,13,14,15,16,17,18],[0,1,2,3,4,5,6,7,8,9,10,11,12,13,14,15,16,17,18,19]]:=by kernel_rfl
theorem NT:A2 (Aa f77 5)=[[],[],[1],[1,2],[0,1,2,3],[0,1,2,3,4],[0,1,2,3,4,5],[0,1,2,3,4,5,6],[0,1,2,3,4,5],[0,1,2,3,4,5,8],[0,1,2,3,4,5],[0,1,2,3,4,5,10],[0,1,2,3,4,5],[0,1,2,3,4,5,10,11,12],[0,1,2,3,4,5,10,11,12,13],[0,1,2,3,4,5],[0,1,2,3,4,5,6,7,8,9,10,11,12,13,14,15],[0,1,2,3,4,5,6,7,8,9,10,11,12,13,14,15,16],[0,1,2,3,4,5,6,7,8,9,10,11,12,13,14,15,16,17]]:=by kernel_rfl
theorem RH:A2 (Aa f77 9)=[[],[0],[],[2],[],[4],[],[4,5,6],[4,5,6,7],[],[0,1,2,3,4,5,6,7,8,9]]:=by kernel_rfl
theorem Um:A2 (Aa f77 11)=[[],[0],[],[0,1,2],[0,1,2,3],[],[0,1,2,3,4,5],[0,1,2,3,4,5,6],[0,1,2,3,4,5,6,7],[0,1,2,3,4,5,6,7],[0,1,2,3,4,5,6,7,8],[0,1,2,3,4,5,6,7,8,9,10]]:=by kernel_rfl
theorem Un:A2 (Aa f77 23)=[[],[],[],[],[],[3,4],[3,4,5],[3,4,5,6],[1,2,3,4,5,6,7],[],[0,1,2,3,4,5,6,7,8,9],[0,1,2,3,4,5,6,7,8,9,10],[0,1,2,3,4,5,6,7,8,9,10,11],[0,1,2,3,4,5,6,7,8,9,10,11],[0,1,2,3,4,5,6,7,8,9,10,11,12],[0,1,2,3,4,5,6,7,8,9,10,11,12,13,14]]:=by kernel_rfl
theorem Uo:A2 (Aa f77 27)=[[],[],[],[],[1,2,3],[],[0,1,2,3,4,5],[0,1,2,3,4,5,6],[0,1,2,3,4,5,6,7],[0,1,2,3,4,5,6,7],[0,1,2,3,4,5,6,7,8],[0,1,2,3,4,5,6,7,8,9,10]]:=by kernel_rfl
theorem Up:A2 (Aa f77 33)=[[],[],[],[],[3],[],[],[5,6],[5,6,7],[3,4,5,6,7,8],[1,2,3,4,5,6,7,8,9],[],[0,1,2,3,4,5,6,7,8,9,10,11],[0,1,2,3,4,5,6,7,8,9,10,11,12],[0,1,2,3,4,5,6,7,8,9,10,11,12,13],[0,1,2,3,4,5,6,7,8,9,10,11,12,13],[0,1,2,3,4,5,6,7,8,9,10,11,12,13,14],[0,1,2,3,4,5,6,7,8,9,10,11,12,13,14,15,16]]:=by kernel_rfl
theorem Xi:A2 (Aa f81 5)=[[],[],[],[1,2],[1,2,3],[1,2,3,4],[],[],[6,7],[6,7,8],[6,7,8,9],[6,7,8,9,10],[1,2,3,4,5,6,7,8,9,10,11],[1,2,3,4,5,6,7,8,9,10,11,12],[0,1,2,3,4,5,6,7,8,9,10,11,12,13],[0,1,2,3,4,5,6,7,8,9,10,11,12,13,14]]:=by kernel_rfl
theorem Uq:A2 (Aa f87 16)=[[],[0],[],[2],[2,3],[2,3,4],[2,3,4,5],[0,1,2,3,4,5,6],[0,1,2,3,4,5,6,7]]:=by kernel_rfl
theorem Ur:A2 (Aa f119 5)=[[],[],[0,1],[0,1,2],[],[4],[0,1,2,3,4,5]]:=by kernel_rfl
theorem SG:A2 (Aa f119 12)=[[],[0],[],[2],[],[2,3,4],[2,3,4,5],[],[],[2,3,4,5,6,7,8],[2,3,4,5,6,7,8,9],[0,1,2,3,4,5,6,7,8,9,10],[0,1,2,3,4,5,6,7,8,9,10,11],[0,1,2,3,4,5,6,7,8,9,10,11,12]]:=by kernel_rfl
theorem Us:A2 (Aa f123 3)=[[],[0],[0,1],[0,1,2],[],[4],[0,1,2,3,4,5],[0,1,2,3,4,5,6],[0,1,2,3,4,5,6,7],[0,1,2,3,4,5,6,7,8],[0,1,2,3,4,5,6,7,8,9],[0,1,2,3,4,5,6,7,8,9,10],[0,1,2,3,4,5,6,7,8,9,10,11],[0,1,2,3,4,5,6,7,8,9,10,11,12],[0,1,2,3,4,5,6,7,8,9,10,11,12,13],[0,1,2,3,4,5,6,7,8,9,10,11,12,13,14],[0,1,2,3,4,5,6,7,8,9,10,11,12,13,14,15],[0,1,2,3,4,5,6,7,8,9,10,11,12,13,14,15,16],[0,1,2,3,4,5,6,7,8,9,10,11,12,13],[0,1,2,3,4,5,6,7,8,9,10,11,12,13,18],[0,1,2,3,4,5,6,7,8,9,10,11,12,13,14,15,16,17,18,19],[0,1,2,3,4,5,6,7,8,9,10,11,12,13,14,15,16,17,18,19,20],[0,1,2,3,4,5,6,7,8,9,10,11,12,13,14,15,16,17,18,19,20,21],[0,1,2,3,4,5,6,7,8,9,10,11,12,13,14,15,16,17,18,19,20,21,22],[0,1,2,3,4,5,6,7,8,9,10,11,12,13,14,15,16,17,18,19,20,21,22,23]]:=by kernel_rfl
theorem Ut:A2 (Aa f123 5)=[[],[0],[0,1],[0,1,2],[0,1,2,3],[0,1,2,3,4],[0,1,2,3,4,5],[0,1,2,3,4,5,6],[0,1,2,3,4,5,6,7],[0,1,2,3,4,5,6,7,8],[0,1,2,3,4,5,6,7,8,9],[0,1,2,3,4,5,6,7,8,9,10],[0,1,2,3,4,5,6,7,8,9,10,11],[0,1,2,3,4,5],[0,1,2,3,4,5,13],[0,1,2,3,4,5,13,14],[0,1,2,3,4,5,13,14,15],[0,1,2,3,4,5,6,7,8,9,10,11,12,13,14,15,16],[0,1,2,3,4,5,6,7,8,9,10,11,12,13,14,15,16,17],[0,1,2,3,4,5,6,7,8,9,10,11,12,13,14,15,16,17,18],[0,1,2,3,4,5],[0,1,2,3,4,5,20],[0,1,2,3,4,5,6,7,8,9,10,11,12,13,14,15,16,17,18,19,20,21],[0,1,2,3,4,5,6,7,8,9,10,11,12,13,14,15,16,17,18,19,20,21,22],[0,1,2,3,4,5,6,7,8,9,10,11,12,13,14,15,16,17,18,19,20,21,22,23],[0,1,2,3,4,5,6,7,8,9,10,11,12,13,14,15,16,17,18,19,20,21,22,23],[0,1,2,3,4,5,6,7,8,9,10,11,12,13,14,15,16,17,18,19,20,21,22,23,24,25],[0,1,2,3,4,5,6,7,8,9,10,11,12,13,14,15,16,17,18,19,20,21,22,23,24,25,26],[0,1,2,3,4,5,6,7,8,9,10,11,12,13,14,15,16,17,18,19,20,21,22,23,24,25,26,27],[0,1,2,3,4,5,6,7,8,9,10,11,12,13,14,15,16,17,18,19,20,21,22,23,24,25,26,27,28]]:=by kernel_rfl
theorem Uu:A2 (Aa f124 3)=[[],[0],[0,1],[0,1,2],[],[4],[0,1,2,3,4,5],[0,1,2,3,4,5,6],[0,1,2,3,4,5,6,7],[0,1,2,3,4,5,6,7,8],[0,1,2,3,4,5,6,7,8,9],[0,1,2,3,4,5,6,7,8,9,10],[0,1,2,3,4,5,6,7,8,9,10,11],[0,1,2,3,4,5,6,7,8,9,10,11,12],[0,1,2,3,4,5,6,7,8,9,10,11,12,13],[0,1,2,3,4,5,6,7,8,9,10,11,12,13,14],[0,1,2,3,4,5,6,7,8,9,10,11,12,13,14,15],[0,1,2,3,4,5,6,7,8,9,10,11,12,13,14,15,16],[0,1,2,3,4,5,6,7,8,9,10,11,12,13,14,15,16,17],[0,1,2,3,4,5,6,7,8,9,10,11,12,13,14,15,16,17,18],[0,1,2,3,4,5,6,7,8,9,10,11,12,13,14,15,16,17,18,19],[0,1,2,3,4,5,6,7,8,9,10,11,12,13,14,15,16,17,18,19,20],[0,1,2,3,4,5,6,7,8,9,10,11,12,13,14,15,16,17,18,19,20,21],[0,1,2,3,4,5,6,7,8,9,10,11,12,13,14,15,16,17,18],[0,1,2,3,4,5,6,7,8,9,10,11,12,13,14,15,16,17,18,23],[0,1,2,3,4,5,6,7,8,9,10,11,12,13,14,15,16,17,18,19,20,21,22,23,24],[0,1,2,3,4,5,6,7,8,9,10,11,12,13,14,15,16,17,18,19,20,21,22,23,24,25],[0,1,2,3,4,5,6,7,8,9,10,11,12,13,14,15,16,17,18,19,20,21,22,23,24,25,26],[0,1,2,3,4,5,6,7,8,9,10,11,12,13,14,15,16,17,18,19,20,21,22,23,24,25,26,27],[0,1,2,3,4,5,6,7,8,9,10,11,12,13,14,15,16,17,18,19,20,21,22,23,24,25,26,27,28]]:=by kernel_rfl
theorem Uv:A2 (Aa f124 5)=[[],[0],[0,1],[0,1,2],[0,1,2,3],[0,1,2,3,4],[0,1,2,3,4,5],[0,1,2,3,4,5,6],[0,1,2,3,4,5,6,7],[0,1,2,3,4,5,6,7,8],[0,1,2,3,4,5,6,7,8,9],[0,1,2,3,4,5,6,7,8,9,10],[0,1,2,3,4,5,6,7,8,9,10,11],[0,1,2,3,4,5],[0,1,2,3,4,5,13],[0,1,2,3,4,5,13,14],[0,1,2,3,4,5,13,14,15],[0,1,2,3,4,5,6,7,8,9,10,11,12,13,14,15,16],[0,1,2,3,4,5,6,7,8,9,10,11,12,13,14,15,16,17],[0,1,2,3,4,5,6,7,8,9,10,11,12,13,14,15,16,17,18],[0,1,2,3,4,5],[0,1,2,3,4,5,20],[0,1,2,3,4,5,6,7,8,9,10,11,12,13,14,15,16,17,18,19,20,21],[0,1,2,3,4,5,6,7,8,9,10,11,12,13,14,15,16,17,18,19,20,21,22],[0,1,2,3,4,5,6,7,8,9,10,11,12,13,14,15,16,17,18,19,20,21,22,23],[0,1,2,3,4,5,6,7,8,9,10,11,12,13,14,15,16,17,18,19,20,21,22,23,24],[0,1,2,3,4,5,6,7,8,9,10,11,12,13,14,15,16,17,18,19,20,21,22,23,24],[0,1,2,3,4,5,6,7,8,9,10,11,12,13,14,15,16,17,18,19,20,21,22,23,24,25,26],[0,1,2,3,4,5,6,7,8,9,10,11,12,13,14,15,16,17,18,19,20,21,22,23,24,25,26,27],[0,1,2,3,4,5,6,7,8,9,10,11,12,13,14,15,16,17,18,19,20,21,22,23,24,25,26,27,28]]:=by kernel_rfl
theorem Uw:A2 (Aa Tryz.f125 2)=[[],[],[1],[1,2],[1,2,3],[],[5],[1,2,3,4,5,6],[0,1,2,3,4,5,6,7],[0,1,2,3,4,5,6,7,8],[0,1,2,3,4,5,6,7,8,9]]:=by kernel_rfl
theorem Ux:A2 (Aa f126 3)=[[],[0],[0,1],[0,1,2],[0,1,2,3],[],[0,1,2,3,4,5]]:=by kernel_rfl
theorem SH:A2 (Aa f126 10)=[[],[0],[0,1],[0,1,2],[],[0,1,2,3,4],[0,1,2,3,4,5],[],[0,1,2,3,4,5,6,7],[0,1,2,3,4,5,6,7,8],[0,1,2,3,4,5,6,7,8,9],[0,1,2,3,4,5,6,7,8,9],[0,1,2,3,4,5,6,7,8,9,10],[0,1,2,3,4,5,6,7,8,9,10,11,12]]:=by kernel_rfl
theorem Uy:A2 (Aa Tryz.f128 5)=[[],[0],[],[2],[2,3],[],[5],[5,6],[5,6,7],[],[9],[9,10],[5,6,7,8,9,10,11],[5,6,7,8,9,10,11,12],[],[14],[],[5,6,7,8,9,10,11,12,13,14,15,16],[0,1,2,3,4,5,6,7,8,9,10,11,12,13,14,15,16,17],[0,1,2,3,4,5,6,7,8,9,10,11,12,13,14,15,16,17,18]]:=by kernel_rfl
theorem Uz:A2 (Aa Tryz.f129 5)=[[],[],[1],[1,2],[1,2,3],[],[5],[5,6],[1,2,3,4,5,6,7],[0,1,2,3,4,5,6,7,8],[0,1,2,3,4,5,6,7,8,9],[0,1,2,3,4,5,6,7,8,9,10]]:=by kernel_rfl
theorem U0:A2 (Aa f132 1)=[[],[0],[0,1],[0,1,2],[0,1,2,3],[0,1,2,3,4],[0,1,2,3,4,5],[0,1,2,3,4,5,6],[],[8],[8,9],[8,9,10],[8,9,10,11],[0,1,2,3,4,5,6,7,8,9,10,11,12],[0,1,2,3,4,5,6,7,8,9,10,11,12,13]]:=by kernel_rfl
theorem U1:A2 (Aa f133 1)=[[],[0],[0,1],[0,1,2],[],[4],[4,5],[4,5,6],[],[4,5,6,7,8],[4,5,6,7,8,9],[0,1,2,3,4,5,6,7,8,9,10],[0,1,2,3,4,5,6,7,8,9,10,11],[0,1,2,3,4,5,6,7,8,9,10,11,12]]:=by kernel_rfl
theorem SJ:A2 (Aa f134 16)=[[],[],[],[1,2],[1,2,3],[1,2,3,4],[],[6],[],[6,7,8],[6,7,8,9],[],[11],[],[11,12,13],[11,12,13,14],[0,1,2,3,4,5,6,7,8,9,10,11,12,13,14,15],[0,1,2,3,4,5,6,7,8,9,10,11,12,13,14,15,16]]:=by kernel_rfl
theorem SK:A2 (Aa f135 14)=[[],[],[],[1,2],[1,2,3],[1,2,3,4],[],[6],[],[6,7,8],[6,7,8,9],[],[11],[],[11,12,13],[11,12,13,14],[0,1,2,3,4,5,6,7,8,9,10,11,12,13,14,15],[0,1,2,3,4,5,6,7,8,9,10,11,12,13,14,15,16]]:=by kernel_rfl
theorem U2:A2 (Aa f136 2)=[[],[],[1],[1,2],[0],[0,1,2,3,4]]:=by kernel_rfl
theorem U3:A2 (Aa f136 6)=[[],[0],[],[0,1,2],[0,1,2,3],[],[5],[],[5,6,7],[5,6,7,8],[0,1,2,3,4,5,6,7,8,9],[0,1,2,3,4,5,6,7,8,9,10],[0,1,2,3,4,5,6,7,8,9,10,11],[0,1,2,3,4,5,6,7,8,9,10,11],[0,1,2,3,4,5,6,7,8,9,10,11,12],[0,1,2,3,4,5,6,7,8,9,10,11,12,13,14]]:=by kernel_rfl
theorem U4:A2 (Aa f137 5)=[[],[],[],[2],[1,2,3],[0,1,2,3,4],[0,1,2,3,4,5],[0,1,2,3,4,5,6],[],[],[8,9],[8,9,10],[0,1,2,3,4,5,6,7,8,9,10,11],[0,1,2,3,4,5,6,7,8,9,10,11,12],[0,1,2,3,4,5,6,7,8,9,10,11,12,13],[0,1,2,3,4,5,6,7,8,9,10,11,12,13,14]]:=by kernel_rfl
theorem U5:A2 (Aa f137 6)=[[],[0],[],[],[2,3],[2,3,4],[0,1,2,3,4,5],[0,1,2,3,4,5,6],[0,1,2,3,4,5,6,7]]:=by kernel_rfl
theorem U6:A2 (Aa f137 7)=[[],[],[0],[0,1,2]]:=by kernel_rfl
theorem Hs:A2 (Aa f138 10)=[[],[0],[0,1],[0,1],[0,1,2,3],[0,1,2,3,4],[0,1,2,3,4,5],[0,1,2,3,4,5,6],[0,1,2,3,4,5,6,7],[0,1,2,3,4,5,6],[0,1,2,3,4,5,6,7,8,9],[0,1,2,3,4,5,6,7,8,9,10],[0,1,2,3,4,5,6,7,8,9,10,11],[0,1,2,3,4,5,6,7,8,9,10,11,12],[0,1,2,3,4,5,6,7,8,9,10,11,12,13],[0,1,2,3,4,5,6,7,8,9,10,11,12,13],[0,1,2,3,4,5,6,7,8,9,10,11,12,13,14,15],[0,1,2,3,4,5,6,7,8,9,10,11,12,13,14,15,16],[0,1,2,3,4,5,6,7,8,9,10,11,12,13,14,15,16,17],[0,1,2,3,4,5,6,7,8,9,10,11,12,13,14,15,16,17,18],[0,1,2,3,4,5,6,7,8,9,10,11,12,13,14,15,16,17,18,19],[0,1,2,3,4,5,6,7,8,9,10,11,12,13,14,15,16,17,18,19,20],[0,1,2,3,4,5,6,7,8,9,10,11,12,13,14,15,16,17,18,19],[0,1,2,3,4,5,6,7,8,9,10,11,12,13,14,15,16,17,18,19,22],[0,1,2,3,4,5,6,7,8,9,10,11,12,13,14,15,16,17,18,19],[0,1,2,3,4,5,6,7,8,9,10,11,12,13,14,15,16,17,18,19,24],[0,1,2,3,4,5,6,7,8,9,10,11,12,13,14,15,16,17,18,19],[0,1,2,3,4,5,6,7,8,9,10,11,12,13,14,15,16,17,18,19,24,25,26],[0,1,2,3,4,5,6,7,8,9,10,11,12,13,14,15,16,17,18,19,24,25,26,27],[0,1,2,3,4,5,6,7,8,9,10,11,12,13,14,15,16,17,18,19],[0,1,2,3,4,5,6,7,8,9,10,11,12,13,14,15,16,17,18,19,20,21,22,23,24,25,26,27,28,29],[0,1,2,3,4,5,6,7,8,9,10,11,12,13,14,15,16,17,18,19,20,21,22,23,24,25,26,27,28,29,30]]:=by kernel_rfl
theorem U7:A2 (Aa f139 5)=[[],[0],[],[2],[2,3],[],[5],[],[7],[7,8],[5,6,7,8,9],[5,6,7,8,9,10],[],[12],[],[5,6,7,8,9,10,11,12,13,14],[0,1,2,3,4,5,6,7,8,9,10,11,12,13,14,15],[0,1,2,3,4,5,6,7,8,9,10,11,12,13,14,15,16]]:=by kernel_rfl
theorem U8:A2 (Aa f140 1)=[[],[0],[0,1],[0,1,2],[0,1,2,3],[0,1,2,3,4],[],[6],[6,7],[0,1,2,3,4,5,6,7,8],[0,1,2,3,4,5,6,7,8,9]]:=by kernel_rfl
theorem U9:A2 (Aa f141 5)=[[],[0],[],[],[3],[],[3,4,5],[3,4,5,6],[3,4,5,6,7],[2,3,4,5,6,7,8],[2,3,4,5,6,7,8,9],[0,1,2,3,4,5,6,7,8,9,10],[0,1,2,3,4,5,6,7,8,9,10,11],[0,1,2,3,4,5,6,7,8,9,10,11,12]]:=by kernel_rfl
theorem VA:A2 (Aa f142 6)=[[],[0],[],[2],[],[2,3,4],[2,3,4,5],[2,3,4,5,6],[2,3,4,5,6,7],[0,1,2,3,4,5,6,7,8],[0,1,2,3,4,5,6,7,8,9],[0,1,2,3,4,5,6,7,8,9,10]]:=by kernel_rfl
theorem VB:A2 (Aa f144 5)=[[],[0],[0,1],[0,1,2],[],[0,1,2,3,4],[0,1,2,3,4,5],[0,1,2,3,4,5,6],[0,1,2,3,4,5,6,7]]:=by kernel_rfl
theorem SL:A2 (Aa f144 13)=[[],[],[],[2],[],[2,3,4],[2,3,4,5],[],[0,1,2,3,4,5,6,7]]:=by kernel_rfl
theorem SM:A2 (Aa f144 23)=[[],[0],[],[],[3],[],[2,3,4,5],[2,3,4,5,6],[0,1,2,3,4,5,6,7],[0,1,2,3,4,5,6,7,8],[0,1,2,3,4,5,6,7,8,9]]:=by kernel_rfl
theorem SN:A2 (Aa f144 25)=[[],[],[1],[1,2],[1,2,3],[],[5],[1,2,3,4,5,6],[0,1,2,3,4,5,6,7],[0,1,2,3,4,5,6,7,8],[0,1,2,3,4,5,6,7,8,9]]:=by kernel_rfl
theorem VC:A2 (Aa f147 8)=[[],[0],[0,1],[],[],[0,1,2,4],[0,1,2,4,5],[0,1,2,4,5,6],[0,1,2,4,5,6,7],[0,1,2,4,5,6,7,8],[0,1,2,4,5,6,7],[0,1,2,4,5,6,7,10],[0,1,2,4,5,6,7,10,11],[0,1,2,4,5,6,7,10,11,12],[0,1,2,4,5,6,7,10,11,12,13],[0,1,2,4,5,6,7,10,11,12,13,14],[0,1,2,4,5,6,7,8,9,10,11,12,13,14,15],[0,1,2,4,5,6,7,8,9,10,11,12,13,14,15,16],[0,1,2,4,5,6,7,8,9,10,11,12,13,14,15,16,17],[0,1,2,3,4,5,6,7,8,9,10,11,12,13,14,15,16,17,18],[0,1,2,3,4,5,6,7,8,9,10,11,12,13,14,15,16,17,18,19],[0,1,2,3,4,5,6,7,8,9,10,11,12,13,14,15,16,17,18,19,20]]:=by kernel_rfl
theorem SO:A2 (Aa f147 13)=[[],[0],[0,1],[],[3],[3,4],[3,4,5],[],[3,4,5,6,7],[3,4,5,6,7,8],[3,4,5,6,7,8,9],[3,4,5,6,7,8,9,10],[0,1,2,3,4,5,6,7,8,9,10,11]]:=by kernel_rfl
theorem SP:A2 (Aa f147 18)=[[],[0],[0,1],[0,1,2],[],[0,1,2,3,4],[0,1,2,3,4,5],[0,1,2,3,4,5,6],[],[0,1,2,3,4,5,6,7,8],[0,1,2,3,4,5,6,7,8,9],[],[0,1,2,3,4,5,6,7,8,9,10,11],[0,1,2,3,4,5,6,7,8,9,10,11,12]]:=by kernel_rfl
theorem SQ:A2 (Aa f154 23)=[[],[],[],[1,2],[1,2,3],[1,2,3,4],[],[1,2,3,4,5,6],[1,2,3,4,5,6,7],[1,2,3,4,5,6,7,8],[],[10],[],[12],[12,13],[10,11,12,13,14],[0,1,2,3,4,5,6,7,8,9,10,11,12,13,14,15],[],[0,1,2,3,4,5,6,7,8,9,10,11,12,13,14,15,16,17]]:=by kernel_rfl
theorem SR:A2 (Aa f154 24)=[[],[0],[],[2],[0,1],[0,1,4],[0,1,2,3,4,5],[0,1,2,3,4,5,6]]:=by kernel_rfl
theorem VD:A2 (Aa f158 7)=[[],[0],[0,1],[],[],[3,4],[3,4,5],[3,4,5,6],[3,4,5,6,7],[0,1,2,3,4,5,6,7,8]]:=by kernel_rfl
theorem SS:A2 (Aa f158 12)=[[],[],[],[1,2],[1,2,3],[1,2,3,4],[],[1,2,3,4,5,6],[1,2,3,4,5,6,7],[1,2,3,4,5,6,7,8],[],[10],[],[10,11,12],[10,11,12,13],[0,1,2,3,4,5,6,7,8,9,10,11,12,13,14],[0,1,2,3,4,5,6,7,8,9,10,11,12,13,14,15]]:=by kernel_rfl
theorem VE:A2 (Aa f167 4)=[[],[],[1],[1,2],[1,2,3],[],[1,2,3,4,5],[1,2,3,4,5,6],[],[0,1,2,3,4,5,6,7,8],[0,1,2,3,4,5,6,7,8,9]]:=by kernel_rfl
theorem VF:A2 (Aa f169 8)=[[],[0],[],[2],[2,3],[0,1],[0,1,2,3,4,5]]:=by kernel_rfl
theorem VG:A2 (Aa f173 2)=[[],[0],[],[2],[2,3],[0,1],[0,1,2,3,4,5]]:=by kernel_rfl
theorem VH:A2 (Aa f173 3)=[[],[0],[0,1],[0,1,2],[0,1,2,3],[0,1,2,3,4],[0,1,2,3,4,5],[0,1,2,3],[0,1,2,3,7],[0,1,2,3,7,8],[0,1,2,3,4,5,6,7,8,9],[0,1,2,3,4,5,6,7,8,9,10]]:=by kernel_rfl
theorem VI:A2 (Aa f173 5)=[[],[0],[],[2],[2,3],[0,1,2,3,4],[0,1,2,3,4,5],[],[7],[0,1,2,3,4,5,6,7,8],[0,1,2,3,4,5,6,7,8,9],[0,1,2,3,4,5,6,7,8,9],[0,1,2,3,4,5,6,7,8,9,10,11],[0,1,2,3,4,5,6,7,8,9,10,11,12]]:=by kernel_rfl
theorem VJ:A2 (Aa f174 4)=[[],[],[],[0,2],[0,1,2,3]]:=by kernel_rfl
theorem VK:A2 (Aa f174 7)=[[],[],[],[0,2],[0,1,2,3]]:=by kernel_rfl
theorem SU:A2 (Aa f174 12)=[[],[],[],[0],[0,1,3],[0,1,2,3,4]]:=by kernel_rfl
theorem VL:A2 (Aa f178 1)=[[],[],[1],[],[1,2,3],[1,2,3,4],[],[0,1,2,3,4,5,6],[0,1,2,3,4,5,6,7]]:=by kernel_rfl
theorem SV:A2 (Aa f195 10)=[[],[0],[0,1],[0,1,2],[],[4],[4,5],[4,5,6],[],[8],[4,5,6,7,8,9],[4,5,6,7,8,9,10],[],[4,5,6,7,8,9,10,11,12],[4,5,6,7,8,9,10,11,12,13],[0,1,2,3,4,5,6,7,8,9,10,11,12,13,14],[0,1,2,3,4,5,6,7,8,9,10,11,12,13,14,15]]:=by kernel_rfl
theorem VM:A2 (Aa f231 1)=[[],[],[0,1],[0,1,2],[],[],[5],[],[5,6,7],[0,1,2,3,4,5,6,7,8],[0,1,2,3,4,5,6,7,8,9]]:=by kernel_rfl
theorem VN:A2 (Aa f232 1)=[[],[0],[],[],[2,3],[0,1,2,3,4],[],[6],[6,7],[6,7,8],[0,1,2,3,4,5,6,7,8,9],[0,1,2,3,4,5,6,7,8,9,10],[0,1,2,3,4,5,6,7,8,9,10,11],[0,1,2,3,4,5,6,7,8,9,10,11,12],[0,1,2,3,4,5,6,7,8,9,10,11,12,13],[0,1,2,3,4,5,6,7,8,9,10,11,12,13,14],[0,1,2,3,4,5,6,7,8,9,10,11,12,13,14,15],[],[17],[17,18],[17,18,19],[0,1,2,3,4,5,6,7,8,9,10,11,12,13,14,15,16,17,18,19,20],[0,1,2,3,4,5,6,7,8,9,10,11,12,13,14,15,16,17,18,19,20,21],[0,1,2,3,4,5,6,7,8,9,10,11,12,13,14,15,16,17,18,19,20,21,22],[0,1,2,3,4,5,6,7,8,9,10,11,12,13,14,15,16,17,18,19,20,21,22,23]]:=by kernel_rfl
theorem SW:A2 (Aa f237 12)=[[],[0],[],[2],[],[4],[],[6],[],[8],[4,5,6,7,8,9],[2,3,4,5,6,7,8,9,10],[2,3,4,5,6,7,8,9,10,11],[0,1,2,3,4,5,6,7,8,9,10,11,12],[0,1,2,3,4,5,6,7,8,9,10,11,12,13],[0,1,2,3,4,5,6,7,8,9,10,11,12,13,14]]:=by kernel_rfl
theorem VO:A2 (Aa f256 1)=[[],[0],[],[0,1,2],[],[4],[4,5],[4,5,6],[0,1,2,3,4,5,6,7],[0,1,2,3,4,5,6,7,8],[0,1,2,3,4,5,6,7,8,9],[0,1,2,3,4,5,6,7,8,9,10]]:=by kernel_rfl
theorem VP:A2 (Aa f264 9)=[[],[0],[],[],[],[2,3,4],[2,3,4,5],[0,1,2,3,4,5,6],[0,1,2,3,4,5,6,7],[0,1,2,3,4,5,6,7,8]]:=by kernel_rfl
@[simp] theorem alS0:Ei MX.ty 100=some [.AH]/\Ei MX.ty 103=some [(.str []),.AH,.AH]/\Ei MX.ty 106=some [(.str []),.AH]/\Ei MX.ty 109=some [(.str []),(.int .i64 (0)),(.int .i64 (0)),(.str []),.AH]/\Ei MX.ty 129=some [(.bool false),(.str []),(.int .i64 (0)),.AH,.AH]/\Ei MX.ty 162=some [(.str []),.AH]/\Ei MX.ty 174=some [.ED,(.int .i64 (0)),(.int .i64 (0)),.AH,.AH]/\Ei MX.ty 196=some [(.int .i64 (0)),(.int .i64 (0)),(.int .i64 (0))]/\Ei MX.ty 221=some [.AH,.AH]/\Ei MX.ty 231=some [(.int .i64 (0)),(.int .i64 (0)),(.str []),.AH,(.int .i64 (0))]/\Ei MX.ty 25=some [(.int .i64 (0)),(.int .i64 (0)),(.str []),.AH]/\Ei MX.ty 270=some [(.str []),.AH,.AH]/\Ei MX.ty 28=some [.AH,(.int .i64 (0)),(.int .i64 (0)),(.str []),.AH,.AH]/\Ei MX.ty 3=some [(.int .i64 (0))]/\Ei MX.ty 301=some [.Gc]/\Ei MX.ty 62=some [(.int .i64 (0)),(.int .i64 (0)),(.str []),.AH]:=by and_intros <;> kernel_rfl
@[simp] theorem dh:∀ s x h,Ad MX.ty .append [100,100] [s,x] h=OR.Dz (apA 1 16 s x h):=fun s x h=>by cases x <;> kernel_rfl
@[simp] theorem di:∀ s x h,Ad MX.ty .append [101,101] [s,x] h=OR.Dz (apA 2 40 s x h):=fun s x h=>by cases x <;> kernel_rfl
@[simp] theorem dj:∀ s x h,Ad MX.ty .append [104,104] [s,x] h=OR.Dz (apA 5 72 s x h):=fun s x h=>by cases x <;> kernel_rfl
@[simp] theorem dk:∀ s x h,Ad MX.ty .append [127,127] [s,x] h=OR.Dz (apA 5 80 s x h):=fun s x h=>by cases x <;> kernel_rfl
@[simp] theorem dm:∀ s x h,Ad MX.ty .append [157,157] [s,x] h=OR.Dz (apA 2 40 s x h):=fun s x h=>by cases x <;> kernel_rfl
@[simp] theorem dn:∀ s x h,Ad MX.ty .append [160,160] [s,x] h=OR.Dz (apA 1 8 s x h):=fun s x h=>by cases x <;> kernel_rfl
@[simp] theorem dq:∀ s x h,Ad MX.ty .append [172,172] [s,x] h=OR.Dz (apA 1 8 s x h):=fun s x h=>by cases x <;> kernel_rfl
@[simp] theorem ap_22_22:∀ s x h,Ad MX.ty .append [22,22] [s,x] h=OR.Dz (apA 3 64 s x h):=fun s x h=>by cases x <;> kernel_rfl
@[simp] theorem ap_23_23:∀ s x h,Ad MX.ty .append [23,23] [s,x] h=OR.Dz (apA 4 56 s x h):=fun s x h=>by cases x <;> kernel_rfl
@[simp] theorem dr:∀ s x h,Ad MX.ty .append [232,232] [s,x] h=OR.Dz (apA 5 64 s x h):=fun s x h=>by cases x <;> kernel_rfl
@[simp] theorem ap_26_26:∀ s x h,Ad MX.ty .append [26,26] [s,x] h=OR.Dz (apA 4 56 s x h):=fun s x h=>by cases x <;> kernel_rfl
@[simp] theorem dt:∀ s x h,Ad MX.ty .append [265,265] [s,x] h=OR.Dz (apA 3 64 s x h):=fun s x h=>by cases x <;> kernel_rfl
@[simp] theorem du:∀ s x h,Ad MX.ty .append [268,268] [s,x] h=OR.Dz (apA 1 8 s x h):=fun s x h=>by cases x <;> kernel_rfl
@[simp] theorem ap_39_39:∀ s x h,Ad MX.ty .append [39,39] [s,x] h=OR.Dz (apA 1 8 s x h):=fun s x h=>by cases x <;> kernel_rfl
@[simp] theorem ap_49_49:∀ s x h,Ad MX.ty .append [49,49] [s,x] h=OR.Dz (apA 4 64 s x h):=fun s x h=>by cases x <;> kernel_rfl
@[simp] theorem ap_88_88:∀ s x h,Ad MX.ty .append [88,88] [s,x] h=OR.Dz (apA 3 32 s x h):=fun s x h=>by cases x <;> kernel_rfl
@[simp] theorem bd_103_:CW MX.ty 103 []=(Bn [(.str []),.AH,.AH] []).map .agg:=Eo [] [] (by kernel_rfl) (by kernel_rfl) (by kernel_rfl)
@[simp] theorem dw:∀ v0 v1,CW MX.ty 103 [(0,v0),(1,v1)]=(Bn [(.str []),.AH,.AH] [(0,1,v0),(1,1,v1)]).map .agg:=fun v0 v1=>Eo [(0,0,1),(1,1,1)] [v0,v1] (by kernel_rfl) (by kernel_rfl) (by kernel_rfl)
@[simp] theorem bd_103_2:∀ v2,CW MX.ty 103 [(2,v2)]=(Bn [(.str []),.AH,.AH] [(2,1,v2)]).map .agg:=fun v2=>Eo [(2,2,1)] [v2] (by kernel_rfl) (by kernel_rfl) (by kernel_rfl)
@[simp] theorem dy:∀ v0 v1,CW MX.ty 106 [(0,v0),(1,v1)]=(Bn [(.str []),.AH] [(0,1,v0),(1,1,v1)]).map .agg:=fun v0 v1=>Eo [(0,0,1),(1,1,1)] [v0,v1] (by kernel_rfl) (by kernel_rfl) (by kernel_rfl)
@[simp] theorem bd_106_0:∀ v0,CW MX.ty 106 [(0,v0)]=(Bn [(.str []),.AH] [(0,1,v0)]).map .agg:=fun v0=>Eo [(0,0,1)] [v0] (by kernel_rfl) (by kernel_rfl) (by kernel_rfl)
@[simp] theorem dz:∀ v0 v1,CW MX.ty 109 [(0,v0),(1,v1)]=(Bn [(.str []),(.int .i64 (0)),(.int .i64 (0)),(.str []),.AH] [(0,1,v0),(1,4,v1)]).map .agg:=fun v0 v1=>Eo [(0,0,1),(1,1,4)] [v0,v1] (by kernel_rfl) (by kernel_rfl) (by kernel_rfl)
@[simp] theorem bd_122_0:∀ v0,CW MX.ty 122 [(0,v0)]=(Bn [.AH,.AH,(.bool false)] [(0,1,v0)]).map .agg:=fun v0=>Eo [(0,0,1)] [v0] (by kernel_rfl) (by kernel_rfl) (by kernel_rfl)
@[simp] theorem bd_129_:CW MX.ty 129 []=(Bn [(.bool false),(.str []),(.int .i64 (0)),.AH,.AH] []).map .agg:=Eo [] [] (by kernel_rfl) (by kernel_rfl) (by kernel_rfl)
@[simp] theorem eA:∀ v0 v1,CW MX.ty 129 [(0,v0),(1,v1)]=(Bn [(.bool false),(.str []),(.int .i64 (0)),.AH,.AH] [(0,1,v0),(1,1,v1)]).map .agg:=fun v0 v1=>Eo [(0,0,1),(1,1,1)] [v0,v1] (by kernel_rfl) (by kernel_rfl) (by kernel_rfl)
@[simp] theorem eB:∀ v0 v2,CW MX.ty 129 [(0,v0),(2,v2)]=(Bn [(.bool false),(.str []),(.int .i64 (0)),.AH,.AH] [(0,1,v0),(2,1,v2)]).map .agg:=fun v0 v2=>Eo [(0,0,1),(2,2,1)] [v0,v2] (by kernel_rfl) (by kernel_rfl) (by kernel_rfl)
@[simp] theorem bd_129_3:∀ v3,CW MX.ty 129 [(3,v3)]=(Bn [(.bool false),(.str []),(.int .i64 (0)),.AH,.AH] [(3,1,v3)]).map .agg:=fun v3=>Eo [(3,3,1)] [v3] (by kernel_rfl) (by kernel_rfl) (by kernel_rfl)
@[simp] theorem bd_159_:CW MX.ty 159 []=(Bn [(.int .i64 (0)),.AH] []).map .agg:=Eo [] [] (by kernel_rfl) (by kernel_rfl) (by kernel_rfl)
@[simp] theorem bd_159_0:∀ v0,CW MX.ty 159 [(0,v0)]=(Bn [(.int .i64 (0)),.AH] [(0,1,v0)]).map .agg:=fun v0=>Eo [(0,0,1)] [v0] (by kernel_rfl) (by kernel_rfl) (by kernel_rfl)
@[simp] theorem bd_159_1:∀ v1,CW MX.ty 159 [(1,v1)]=(Bn [(.int .i64 (0)),.AH] [(1,1,v1)]).map .agg:=fun v1=>Eo [(1,1,1)] [v1] (by kernel_rfl) (by kernel_rfl) (by kernel_rfl)
@[simp] theorem bd_162_0:∀ v0,CW MX.ty 162 [(0,v0)]=(Bn [(.str []),.AH] [(0,1,v0)]).map .agg:=fun v0=>Eo [(0,0,1)] [v0] (by kernel_rfl) (by kernel_rfl) (by kernel_rfl)
@[simp] theorem aR:∀ v0 v1 v2,CW MX.ty 174 [(0,v0),(1,v1),(2,v2)]=(Bn [.ED,(.int .i64 (0)),(.int .i64 (0)),.AH,.AH] [(0,1,v0),(1,1,v1),(2,1,v2)]).map .agg:=fun v0 v1 v2=>Eo [(0,0,1),(1,1,1),(2,2,1)] [v0,v1,v2] (by kernel_rfl) (by kernel_rfl) (by kernel_rfl)
@[simp] theorem Xj:∀ v0 v1 v2 v3,CW MX.ty 174 [(0,v0),(1,v1),(2,v2),(3,v3)]=(Bn [.ED,(.int .i64 (0)),(.int .i64 (0)),.AH,.AH] [(0,1,v0),(1,1,v1),(2,1,v2),(3,1,v3)]).map .agg:=fun v0 v1 v2 v3=>Eo [(0,0,1),(1,1,1),(2,2,1),(3,3,1)] [v0,v1,v2,v3] (by kernel_rfl) (by kernel_rfl) (by kernel_rfl)
@[simp] theorem bd_196_:CW MX.ty 196 []=(Bn [(.int .i64 (0)),(.int .i64 (0)),(.int .i64 (0))] []).map .agg:=Eo [] [] (by kernel_rfl) (by kernel_rfl) (by kernel_rfl)
@[simp] theorem eC:∀ v0 v2,CW MX.ty 196 [(0,v0),(2,v2)]=(Bn [(.int .i64 (0)),(.int .i64 (0)),(.int .i64 (0))] [(0,1,v0),(2,1,v2)]).map .agg:=fun v0 v2=>Eo [(0,0,1),(2,2,1)] [v0,v2] (by kernel_rfl) (by kernel_rfl) (by kernel_rfl)
@[simp] theorem bd_221_0:∀ v0,CW MX.ty 221 [(0,v0)]=(Bn [.AH,.AH] [(0,1,v0)]).map .agg:=fun v0=>Eo [(0,0,1)] [v0] (by kernel_rfl) (by kernel_rfl) (by kernel_rfl)
@[simp] theorem eD:∀ v0 v1,CW MX.ty 231 [(0,v0),(1,v1)]=(Bn [(.int .i64 (0)),(.int .i64 (0)),(.str []),.AH,(.int .i64 (0))] [(0,4,v0),(4,1,v1)]).map .agg:=fun v0 v1=>Eo [(0,0,4),(1,4,1)] [v0,v1] (by kernel_rfl) (by kernel_rfl) (by kernel_rfl)
@[simp] theorem bd_267_0:∀ v0,CW MX.ty 267 [(0,v0)]=(Bn [(.int .i64 (0)),.AH] [(0,1,v0)]).map .agg:=fun v0=>Eo [(0,0,1)] [v0] (by kernel_rfl) (by kernel_rfl) (by kernel_rfl)
@[simp] theorem bd_267_1:∀ v1,CW MX.ty 267 [(1,v1)]=(Bn [(.int .i64 (0)),.AH] [(1,1,v1)]).map .agg:=fun v1=>Eo [(1,1,1)] [v1] (by kernel_rfl) (by kernel_rfl) (by kernel_rfl)
@[simp] theorem bd_270_0:∀ v0,CW MX.ty 270 [(0,v0)]=(Bn [(.str []),.AH,.AH] [(0,1,v0)]).map .agg:=fun v0=>Eo [(0,0,1)] [v0] (by kernel_rfl) (by kernel_rfl) (by kernel_rfl)
@[simp] theorem cM:∀ v0 v1 v2,CW MX.ty 28 [(0,v0),(1,v1),(2,v2)]=(Bn [.AH,(.int .i64 (0)),(.int .i64 (0)),(.str []),.AH,.AH] [(0,1,v0),(1,4,v1),(5,1,v2)]).map .agg:=fun v0 v1 v2=>Eo [(0,0,1),(1,1,4),(2,5,1)] [v0,v1,v2] (by kernel_rfl) (by kernel_rfl) (by kernel_rfl)
@[simp] theorem cN:∀ v0 v1 v3,CW MX.ty 90 [(0,v0),(1,v1),(3,v3)]=(Bn [(.int .i64 (0)),.AH,.AH,(.int .i64 (0))] [(0,1,v0),(1,1,v1),(3,1,v3)]).map .agg:=fun v0 v1 v3=>Eo [(0,0,1),(1,1,1),(3,3,1)] [v0,v1,v3] (by kernel_rfl) (by kernel_rfl) (by kernel_rfl)
@[simp] theorem fI:∀ v0 v3,CW MX.ty 90 [(0,v0),(3,v3)]=(Bn [(.int .i64 (0)),.AH,.AH,(.int .i64 (0))] [(0,1,v0),(3,1,v3)]).map .agg:=fun v0 v3=>Eo [(0,0,1),(3,3,1)] [v0,v3] (by kernel_rfl) (by kernel_rfl) (by kernel_rfl)
@[simp] theorem fJ:∀ v0 v2,CW MX.ty 99 [(0,v0),(2,v2)]=(Bn [(.str []),(.int .i64 (0)),(.int .i64 (0))] [(0,1,v0),(2,1,v2)]).map .agg:=fun v0 v2=>Eo [(0,0,1),(2,2,1)] [v0,v2] (by kernel_rfl) (by kernel_rfl) (by kernel_rfl)
@[simp] theorem fK:∀ v1 v2,CW MX.ty 99 [(1,v1),(2,v2)]=(Bn [(.str []),(.int .i64 (0)),(.int .i64 (0))] [(1,1,v1),(2,1,v2)]).map .agg:=fun v1 v2=>Eo [(1,1,1),(2,2,1)] [v1,v2] (by kernel_rfl) (by kernel_rfl) (by kernel_rfl)
@[simp] theorem bsS0:(∀ ml ps h,Ag MX.ty ml 100 0 ps h=bsA 1 [(.str [])] ml 0 ps h)/\(∀ ml ps h,Ag MX.ty ml 100 1 ps h=bsA 1 [(.str [])] ml 1 ps h)/\(∀ ml ps h,Ag MX.ty ml 100 2 ps h=bsA 1 [(.str [])] ml 2 ps h)/\(∀ ml ps h,Ag MX.ty ml 100 3 ps h=bsA 1 [(.str [])] ml 3 ps h)/\(∀ ml ps h,Ag MX.ty ml 101 1 ps h=bsA 2 [(.str []),.AH] ml 1 ps h)/\(∀ ml ps h,Ag MX.ty ml 101 2 ps h=bsA 2 [(.str []),.AH] ml 2 ps h)/\(∀ ml ps h,Ag MX.ty ml 104 1 ps h=bsA 5 [(.str []),(.int .i64 (0)),(.int .i64 (0)),(.str []),.AH] ml 1 ps h)/\(∀ ml ps h,Ag MX.ty ml 127 0 ps h=bsA 5 [(.bool false),(.str []),(.int .i64 (0)),.AH,.AH] ml 0 ps h)/\(∀ ml ps h,Ag MX.ty ml 127 1 ps h=bsA 5 [(.bool false),(.str []),(.int .i64 (0)),.AH,.AH] ml 1 ps h)/\(∀ ml ps h,Ag MX.ty ml 157 1 ps h=bsA 2 [(.str []),.AH] ml 1 ps h)/\(∀ ml ps h,Ag MX.ty ml 157 2 ps h=bsA 2 [(.str []),.AH] ml 2 ps h)/\(∀ ml ps h,Ag MX.ty ml 160 1 ps h=bsA 1 [.ED] ml 1 ps h)/\(∀ ml ps h,Ag MX.ty ml 172 0 ps h=bsA 1 [.ED] ml 0 ps h)/\(∀ ml ps h,Ag MX.ty ml 172 1 ps h=bsA 1 [.ED] ml 1 ps h)/\(∀ ml ps h,Ag MX.ty ml 204 2 ps h=bsA 1 [(.int .i64 (0))] ml 2 ps h)/\(∀ ml ps h,Ag MX.ty ml 204 3 ps h=bsA 1 [(.int .i64 (0))] ml 3 ps h)/\(∀ ml ps h,Ag MX.ty ml 22 1 ps h=bsA 3 [(.str []),.AH,.AH] ml 1 ps h)/\(∀ ml ps h,Ag MX.ty ml 23 1 ps h=bsA 4 [(.int .i64 (0)),(.int .i64 (0)),(.str []),.AH] ml 1 ps h)/\(∀ ml ps h,Ag MX.ty ml 232 1 ps h=bsA 5 [(.int .i64 (0)),(.int .i64 (0)),(.str []),.AH,(.int .i64 (0))] ml 1 ps h)/\(∀ ml ps h,Ag MX.ty ml 241 2 ps h=bsA 1 [.AH] ml 2 ps h)/\(∀ ml ps h,Ag MX.ty ml 26 0 ps h=bsA 4 [(.int .i64 (0)),(.int .i64 (0)),(.str []),.AH] ml 0 ps h)/\(∀ ml ps h,Ag MX.ty ml 265 1 ps h=bsA 3 [(.str []),.AH,.AH] ml 1 ps h)/\(∀ ml ps h,Ag MX.ty ml 265 2 ps h=bsA 3 [(.str []),.AH,.AH] ml 2 ps h)/\(∀ ml ps h,Ag MX.ty ml 268 1 ps h=bsA 1 [.ED] ml 1 ps h)/\(∀ ml ps h,Ag MX.ty ml 39 0 ps h=bsA 1 [(.int .i64 (0))] ml 0 ps h):=by and_intros <;> intros <;> kernel_rfl
@[simp] theorem bsS25:(∀ ml ps h,Ag MX.ty ml 39 1 ps h=bsA 1 [(.int .i64 (0))] ml 1 ps h)/\(∀ ml ps h,Ag MX.ty ml 49 1 ps h=bsA 4 [(.int .i64 (0)),.AH,.AH,(.int .i64 (0))] ml 1 ps h)/\(∀ ml ps h,Ag MX.ty ml 88 1 ps h=bsA 3 [(.str []),(.int .i64 (0)),(.int .i64 (0))] ml 1 ps h):=by and_intros <;> intros <;> kernel_rfl
@[simp] theorem cap_39:∀ x h,Ad MX.ty .cap [39] [x] h=cK x h:=fun x h=>by cases x <;> kernel_rfl
@[simp] theorem cv_3_236:∀ x h,Gz MX.ty 3 236 x h=cvI .u64 x h:=fun x h=>by cases x <;> kernel_rfl
@[simp] theorem cv_9_247:∀ x h,Gz MX.ty 9 247 x h=cvB x h:=fun x h=>by cases x <;> kernel_rfl
@[simp] theorem faS0:(∀ p,AX MX.ty 103 p 0=faA 0 p)/\(∀ p,AX MX.ty 103 p 1=faA 1 p)/\(∀ p,AX MX.ty 103 p 2=faA 2 p)/\(∀ p,AX MX.ty 106 p 0=faA 0 p)/\(∀ p,AX MX.ty 106 p 1=faA 1 p)/\(∀ p,AX MX.ty 109 p 0=faA 0 p)/\(∀ p,AX MX.ty 109 p 1=faA 1 p)/\(∀ p,AX MX.ty 122 p 0=faA 0 p)/\(∀ p,AX MX.ty 122 p 1=faA 1 p)/\(∀ p,AX MX.ty 122 p 2=faA 2 p)/\(∀ p,AX MX.ty 129 p 0=faA 0 p)/\(∀ p,AX MX.ty 129 p 1=faA 1 p)/\(∀ p,AX MX.ty 129 p 2=faA 2 p)/\(∀ p,AX MX.ty 129 p 3=faA 3 p)/\(∀ p,AX MX.ty 129 p 4=faA 4 p)/\(∀ p,AX MX.ty 159 p 0=faA 0 p)/\(∀ p,AX MX.ty 159 p 1=faA 1 p)/\(∀ p,AX MX.ty 162 p 0=faA 0 p)/\(∀ p,AX MX.ty 162 p 1=faA 1 p)/\(∀ p,AX MX.ty 174 p 0=faA 0 p)/\(∀ p,AX MX.ty 174 p 1=faA 1 p)/\(∀ p,AX MX.ty 174 p 2=faA 2 p)/\(∀ p,AX MX.ty 174 p 3=faA 3 p)/\(∀ p,AX MX.ty 174 p 4=faA 4 p)/\(∀ p,AX MX.ty 196 p 0=faA 0 p):=by and_intros <;> intro p <;> cases p <;> kernel_rfl
@[simp] theorem faS25:(∀ p,AX MX.ty 196 p 1=faA 1 p)/\(∀ p,AX MX.ty 196 p 2=faA 2 p)/\(∀ p,AX MX.ty 221 p 0=faA 0 p)/\(∀ p,AX MX.ty 221 p 1=faA 1 p)/\(∀ p,AX MX.ty 231 p 0=faA 0 p)/\(∀ p,AX MX.ty 231 p 1=faA 4 p)/\(∀ p,AX MX.ty 25 p 0=faA 0 p)/\(∀ p,AX MX.ty 25 p 1=faA 1 p)/\(∀ p,AX MX.ty 25 p 2=faA 2 p)/\(∀ p,AX MX.ty 25 p 3=faA 3 p)/\(∀ p,AX MX.ty 267 p 0=faA 0 p)/\(∀ p,AX MX.ty 267 p 1=faA 1 p)/\(∀ p,AX MX.ty 270 p 1=faA 1 p)/\(∀ p,AX MX.ty 270 p 2=faA 2 p)/\(∀ p,AX MX.ty 28 p 0=faA 0 p)/\(∀ p,AX MX.ty 28 p 1=faA 1 p)/\(∀ p,AX MX.ty 28 p 2=faA 5 p)/\(∀ p,AX MX.ty 62 p 0=faA 0 p)/\(∀ p,AX MX.ty 62 p 1=faA 1 p)/\(∀ p,AX MX.ty 62 p 2=faA 2 p)/\(∀ p,AX MX.ty 62 p 3=faA 3 p)/\(∀ p,AX MX.ty 90 p 0=faA 0 p)/\(∀ p,AX MX.ty 90 p 1=faA 1 p)/\(∀ p,AX MX.ty 90 p 2=faA 2 p)/\(∀ p,AX MX.ty 90 p 3=faA 3 p):=by and_intros <;> intro p <;> cases p <;> kernel_rfl
@[simp] theorem ixs_9:∀ x i,PM MX.ty 9 x i=ixS x i:=fun x i=>by cases x <;> cases i <;> kernel_rfl
@[simp] theorem ix_100:∀ x i,BV MX.ty 100 x i=ixA 1 x i:=fun x i=>by cases x <;> cases i <;> kernel_rfl
@[simp] theorem ix_101:∀ x i,BV MX.ty 101 x i=ixA 2 x i:=fun x i=>by cases x <;> cases i <;> kernel_rfl
@[simp] theorem ix_104:∀ x i,BV MX.ty 104 x i=ixA 5 x i:=fun x i=>by cases x <;> cases i <;> kernel_rfl
@[simp] theorem ix_127:∀ x i,BV MX.ty 127 x i=ixA 5 x i:=fun x i=>by cases x <;> cases i <;> kernel_rfl
@[simp] theorem ix_157:∀ x i,BV MX.ty 157 x i=ixA 2 x i:=fun x i=>by cases x <;> cases i <;> kernel_rfl
@[simp] theorem ix_160:∀ x i,BV MX.ty 160 x i=ixA 1 x i:=fun x i=>by cases x <;> cases i <;> kernel_rfl
@[simp] theorem ix_172:∀ x i,BV MX.ty 172 x i=ixA 1 x i:=fun x i=>by cases x <;> cases i <;> kernel_rfl
@[simp] theorem ix_204:∀ x i,BV MX.ty 204 x i=ixA 1 x i:=fun x i=>by cases x <;> cases i <;> kernel_rfl
@[simp] theorem ix_22:∀ x i,BV MX.ty 22 x i=ixA 3 x i:=fun x i=>by cases x <;> cases i <;> kernel_rfl
@[simp] theorem ix_23:∀ x i,BV MX.ty 23 x i=ixA 4 x i:=fun x i=>by cases x <;> cases i <;> kernel_rfl
@[simp] theorem ix_232:∀ x i,BV MX.ty 232 x i=ixA 5 x i:=fun x i=>by cases x <;> cases i <;> kernel_rfl
@[simp] theorem ix_241:∀ x i,BV MX.ty 241 x i=ixA 1 x i:=fun x i=>by cases x <;> cases i <;> kernel_rfl
@[simp] theorem ix_247:∀ x i,BV MX.ty 247 x i=ixA 1 x i:=fun x i=>by cases x <;> cases i <;> kernel_rfl
@[simp] theorem ix_26:∀ x i,BV MX.ty 26 x i=ixA 4 x i:=fun x i=>by cases x <;> cases i <;> kernel_rfl
@[simp] theorem ix_265:∀ x i,BV MX.ty 265 x i=ixA 3 x i:=fun x i=>by cases x <;> cases i <;> kernel_rfl
@[simp] theorem ix_268:∀ x i,BV MX.ty 268 x i=ixA 1 x i:=fun x i=>by cases x <;> cases i <;> kernel_rfl
@[simp] theorem ix_39:∀ x i,BV MX.ty 39 x i=ixA 1 x i:=fun x i=>by cases x <;> cases i <;> kernel_rfl
@[simp] theorem ix_49:∀ x i,BV MX.ty 49 x i=ixA 4 x i:=fun x i=>by cases x <;> cases i <;> kernel_rfl
@[simp] theorem ix_88:∀ x i,BV MX.ty 88 x i=ixA 3 x i:=fun x i=>by cases x <;> cases i <;> kernel_rfl
@[simp] theorem len_100:∀ x h,Ad MX.ty .len [100] [x] h=BI x h:=fun x h=>by cases x <;> kernel_rfl
@[simp] theorem len_101:∀ x h,Ad MX.ty .len [101] [x] h=BI x h:=fun x h=>by cases x <;> kernel_rfl
@[simp] theorem len_104:∀ x h,Ad MX.ty .len [104] [x] h=BI x h:=fun x h=>by cases x <;> kernel_rfl
@[simp] theorem len_157:∀ x h,Ad MX.ty .len [157] [x] h=BI x h:=fun x h=>by cases x <;> kernel_rfl
@[simp] theorem len_160:∀ x h,Ad MX.ty .len [160] [x] h=BI x h:=fun x h=>by cases x <;> kernel_rfl
@[simp] theorem len_204:∀ x h,Ad MX.ty .len [204] [x] h=BI x h:=fun x h=>by cases x <;> kernel_rfl
@[simp] theorem len_22:∀ x h,Ad MX.ty .len [22] [x] h=BI x h:=fun x h=>by cases x <;> kernel_rfl
@[simp] theorem len_23:∀ x h,Ad MX.ty .len [23] [x] h=BI x h:=fun x h=>by cases x <;> kernel_rfl
@[simp] theorem len_232:∀ x h,Ad MX.ty .len [232] [x] h=BI x h:=fun x h=>by cases x <;> kernel_rfl
@[simp] theorem len_241:∀ x h,Ad MX.ty .len [241] [x] h=BI x h:=fun x h=>by cases x <;> kernel_rfl
@[simp] theorem len_247:∀ x h,Ad MX.ty .len [247] [x] h=BI x h:=fun x h=>by cases x <;> kernel_rfl
@[simp] theorem len_26:∀ x h,Ad MX.ty .len [26] [x] h=BI x h:=fun x h=>by cases x <;> kernel_rfl
@[simp] theorem len_265:∀ x h,Ad MX.ty .len [265] [x] h=BI x h:=fun x h=>by cases x <;> kernel_rfl
@[simp] theorem len_268:∀ x h,Ad MX.ty .len [268] [x] h=BI x h:=fun x h=>by cases x <;> kernel_rfl
@[simp] theorem len_39:∀ x h,Ad MX.ty .len [39] [x] h=BI x h:=fun x h=>by cases x <;> kernel_rfl
@[simp] theorem len_49:∀ x h,Ad MX.ty .len [49] [x] h=BI x h:=fun x h=>by cases x <;> kernel_rfl
@[simp] theorem len_88:∀ x h,Ad MX.ty .len [88] [x] h=BI x h:=fun x h=>by cases x <;> kernel_rfl
@[simp] theorem len_9:∀ x h,Ad MX.ty .len [9] [x] h=cJ x h:=fun x h=>by cases x <;> kernel_rfl
@[simp] theorem ldS0:(∀ h p,CL MX.ty h 100 p=ld1 h p)/\(∀ h p,CL MX.ty h 101 p=ld1 h p)/\(∀ h p,CL MX.ty h 103 p=ldN 3 h p)/\(∀ h p,CL MX.ty h 104 p=ld1 h p)/\(∀ h p,CL MX.ty h 106 p=ldN 2 h p)/\(∀ h p,CL MX.ty h 109 p=ldN 5 h p)/\(∀ h p,CL MX.ty h 112 p=ld1 h p)/\(∀ h p,CL MX.ty h 124 p=ld1 h p)/\(∀ h p,CL MX.ty h 127 p=ld1 h p)/\(∀ h p,CL MX.ty h 129 p=ldN 5 h p)/\(∀ h p,CL MX.ty h 157 p=ld1 h p)/\(∀ h p,CL MX.ty h 160 p=ld1 h p)/\(∀ h p,CL MX.ty h 162 p=ldN 2 h p)/\(∀ h p,CL MX.ty h 172 p=ld1 h p)/\(∀ h p,CL MX.ty h 174 p=ldN 5 h p)/\(∀ h p,CL MX.ty h 196 p=ldN 3 h p)/\(∀ h p,CL MX.ty h 201 p=ld1 h p)/\(∀ h p,CL MX.ty h 22 p=ld1 h p)/\(∀ h p,CL MX.ty h 221 p=ldN 2 h p)/\(∀ h p,CL MX.ty h 224 p=ld1 h p)/\(∀ h p,CL MX.ty h 23 p=ld1 h p)/\(∀ h p,CL MX.ty h 231 p=ldN 5 h p)/\(∀ h p,CL MX.ty h 25 p=ldN 4 h p)/\(∀ h p,CL MX.ty h 26 p=ld1 h p)/\(∀ h p,CL MX.ty h 265 p=ld1 h p):=by and_intros <;> intros <;> kernel_rfl
@[simp] theorem ldS25:(∀ h p,CL MX.ty h 268 p=ld1 h p)/\(∀ h p,CL MX.ty h 270 p=ldN 3 h p)/\(∀ h p,CL MX.ty h 28 p=ldN 6 h p)/\(∀ h p,CL MX.ty h 282 p=ld1 h p)/\(∀ h p,CL MX.ty h 3 p=ld1 h p)/\(∀ h p,CL MX.ty h 301 p=ld1 h p)/\(∀ h p,CL MX.ty h 35 p=ld1 h p)/\(∀ h p,CL MX.ty h 39 p=ld1 h p)/\(∀ h p,CL MX.ty h 4 p=ld1 h p)/\(∀ h p,CL MX.ty h 49 p=ld1 h p)/\(∀ h p,CL MX.ty h 5 p=ld1 h p)/\(∀ h p,CL MX.ty h 62 p=ldN 4 h p)/\(∀ h p,CL MX.ty h 88 p=ld1 h p)/\(∀ h p,CL MX.ty h 9 p=ld1 h p)/\(∀ h p,CL MX.ty h 90 p=ldN 4 h p)/\(∀ h p,CL MX.ty h 99 p=ldN 3 h p):=by and_intros <;> intros <;> kernel_rfl
@[simp] theorem lk_224:∀ m k ok h,HS MX.ty 224 m k ok h=lkA (some .string) .Gc m k ok h:=lk_of (kt:=9) (e:=225) (by kernel_rfl) (by kernel_rfl) (by kernel_rfl)
@[simp] theorem up_224:∀ m k v h,MP MX.ty 224 m k v h=upA (some .string) m k v h:=fun m k v h=>by cases m <;> kernel_rfl
@[simp] theorem sl_100:∀ x lo hi mx,HD MX.ty 100 x lo hi mx=slA 1 x lo hi mx:=fun x lo hi mx=>by cases x <;> cases mx <;> cases hi <;> kernel_rfl
@[simp] theorem sl_101:∀ x lo hi mx,HD MX.ty 101 x lo hi mx=slA 2 x lo hi mx:=fun x lo hi mx=>by cases x <;> cases mx <;> cases hi <;> kernel_rfl
@[simp] theorem sl_22:∀ x lo hi mx,HD MX.ty 22 x lo hi mx=slA 3 x lo hi mx:=fun x lo hi mx=>by cases x <;> cases mx <;> cases hi <;> kernel_rfl
@[simp] theorem sl_232:∀ x lo hi mx,HD MX.ty 232 x lo hi mx=slA 5 x lo hi mx:=fun x lo hi mx=>by cases x <;> cases mx <;> cases hi <;> kernel_rfl
@[simp] theorem sl_39:∀ x lo hi mx,HD MX.ty 39 x lo hi mx=slA 1 x lo hi mx:=fun x lo hi mx=>by cases x <;> cases mx <;> cases hi <;> kernel_rfl
@[simp] theorem st_100:∀ h p v,Cb MX.ty h 100 p v=stA 1 h p v:=E1 (by kernel_rfl) (by kernel_rfl)
@[simp] theorem st_101:∀ h p v,Cb MX.ty h 101 p v=stA 1 h p v:=E1 (by kernel_rfl) (by kernel_rfl)
@[simp] theorem st_103:∀ h p v,Cb MX.ty h 103 p v=stA 3 h p v:=E1 (by kernel_rfl) (by kernel_rfl)
@[simp] theorem st_104:∀ h p v,Cb MX.ty h 104 p v=stA 1 h p v:=E1 (by kernel_rfl) (by kernel_rfl)
@[simp] theorem st_106:∀ h p v,Cb MX.ty h 106 p v=stA 2 h p v:=E1 (by kernel_rfl) (by kernel_rfl)
@[simp] theorem st_109:∀ h p v,Cb MX.ty h 109 p v=stA 5 h p v:=E1 (by kernel_rfl) (by kernel_rfl)
@[simp] theorem st_124:∀ h p v,Cb MX.ty h 124 p v=stA 1 h p v:=E1 (by kernel_rfl) (by kernel_rfl)
@[simp] theorem st_127:∀ h p v,Cb MX.ty h 127 p v=stA 1 h p v:=E1 (by kernel_rfl) (by kernel_rfl)
@[simp] theorem st_129:∀ h p v,Cb MX.ty h 129 p v=stA 5 h p v:=E1 (by kernel_rfl) (by kernel_rfl)
@[simp] theorem st_157:∀ h p v,Cb MX.ty h 157 p v=stA 1 h p v:=E1 (by kernel_rfl) (by kernel_rfl)
@[simp] theorem st_160:∀ h p v,Cb MX.ty h 160 p v=stA 1 h p v:=E1 (by kernel_rfl) (by kernel_rfl)
@[simp] theorem st_162:∀ h p v,Cb MX.ty h 162 p v=stA 2 h p v:=E1 (by kernel_rfl) (by kernel_rfl)
@[simp] theorem st_172:∀ h p v,Cb MX.ty h 172 p v=stA 1 h p v:=E1 (by kernel_rfl) (by kernel_rfl)
@[simp] theorem st_174:∀ h p v,Cb MX.ty h 174 p v=stA 5 h p v:=E1 (by kernel_rfl) (by kernel_rfl)
@[simp] theorem st_196:∀ h p v,Cb MX.ty h 196 p v=stA 3 h p v:=E1 (by kernel_rfl) (by kernel_rfl)
@[simp] theorem st_221:∀ h p v,Cb MX.ty h 221 p v=stA 2 h p v:=E1 (by kernel_rfl) (by kernel_rfl)
@[simp] theorem st_23:∀ h p v,Cb MX.ty h 23 p v=stA 1 h p v:=E1 (by kernel_rfl) (by kernel_rfl)
@[simp] theorem st_231:∀ h p v,Cb MX.ty h 231 p v=stA 5 h p v:=E1 (by kernel_rfl) (by kernel_rfl)
@[simp] theorem st_25:∀ h p v,Cb MX.ty h 25 p v=stA 4 h p v:=E1 (by kernel_rfl) (by kernel_rfl)
@[simp] theorem st_268:∀ h p v,Cb MX.ty h 268 p v=stA 1 h p v:=E1 (by kernel_rfl) (by kernel_rfl)
@[simp] theorem st_270:∀ h p v,Cb MX.ty h 270 p v=stA 3 h p v:=E1 (by kernel_rfl) (by kernel_rfl)
@[simp] theorem st_28:∀ h p v,Cb MX.ty h 28 p v=stA 6 h p v:=E1 (by kernel_rfl) (by kernel_rfl)
@[simp] theorem st_3:∀ h p v,Cb MX.ty h 3 p v=stA 1 h p v:=E1 (by kernel_rfl) (by kernel_rfl)
@[simp] theorem st_301:∀ h p v,Cb MX.ty h 301 p v=stA 1 h p v:=E1 (by kernel_rfl) (by kernel_rfl)
@[simp] theorem st_4:∀ h p v,Cb MX.ty h 4 p v=stA 1 h p v:=E1 (by kernel_rfl) (by kernel_rfl)
@[simp] theorem st_49:∀ h p v,Cb MX.ty h 49 p v=stA 1 h p v:=E1 (by kernel_rfl) (by kernel_rfl)
@[simp] theorem st_62:∀ h p v,Cb MX.ty h 62 p v=stA 4 h p v:=E1 (by kernel_rfl) (by kernel_rfl)
@[simp] theorem st_88:∀ h p v,Cb MX.ty h 88 p v=stA 1 h p v:=E1 (by kernel_rfl) (by kernel_rfl)
end Go.Proofs.Am12
