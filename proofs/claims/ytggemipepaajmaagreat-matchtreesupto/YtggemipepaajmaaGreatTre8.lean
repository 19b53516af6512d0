/- Part 8. -/
import Derived.Test.YtggemipepaajmaaGreatTre7
import Derived.Calls
import Derived.Orders
set_option linter.all false
namespace Go.Am
open Go
def JW(g:G):CR->Ending->Prop
 | .ret v,.returned x=>Rel g true v x
 | .pan v,.panicked chain=>∃ x,chain=[{ v:=x,recovered:=false }]/\Rel g true v x
 | _,_=>False
def JX(M:Par)(P:Program)(C:CH):Prop:=∀ f args h r h',C f args h=some (r,h')->(∃ fn c,M.fn f=some fn/\fn.body=some c)/\∀ g fr w cargs,Sim g h fr w->Au g true args cargs ->
 Calls P f cargs w fun e w'=>∃ g',Le g g'/\Sim g' h' fr w'/\JW g' r e
def Dc(M:Par)(P:Program):Prop:=∀ f p,M.prim f=some p->∀ args v,p args=some v->(∃ fn c,M.fn f=some fn/\fn.body=some c)/\∀ g h fr w cargs,Sim g h fr w->Au g true args cargs ->
 Calls P f cargs w fun e w'=>∃ g',Le g g'/\Sim g' h fr w'/\JW g' (.ret v) e
def V1(M:Par)(P:Program):Prop:=∀ f e,M.eff f=some e->∀ args h r h',e args h=some (r,h')->(∃ fn c,M.fn f=some fn/\fn.body=some c)/\∀ g fr w cargs,Sim g h fr w->Au g true args cargs ->
 Calls P f cargs w fun e w'=>∃ g',Le g g'/\Sim g' h' fr w'/\JW g' r e
theorem Ka{M:Par}{P:Program}(h:M.eff=fun _=>none):V1 M P:=fun f e he=>by rw[h]at he;cases he
theorem K3{fr:Fr}{w:World}:∀{args args':List AV} {h h':AF} {g:G} {xs:List Value},A4 args h=some (args',h')->Sim g h fr w->Au g true args xs.toArray ->
 ∃ g',g'.pl=g.pl/\Le g g'/\Sim g' h' fr w/\h'.length=h.length/\Au g' true args' xs.toArray
 | [],args',h,h',g,xs,hs,sim,hx=>by
  simp only[A4,AN,Bk]at hs;obtain⟨rfl,rfl⟩:=hs;exact⟨g,rfl,Le.refl g,sim,rfl,hx⟩
 | v::r,args',h,h',g,xs,hs,sim,hx=>by
  cases xs with
  | nil=>have:=hx.1;simp at this
  | cons x xs=>
   obtain⟨k1,k2⟩:=hx.head;simp only[A4]at hs;split at hs
   .rename_i v' h1 hs1;split at hs
    .rename_i r' h2 hs2;simp only[AN,Bk]at hs;obtain⟨rfl,rfl⟩:=hs;have hv:∃ g1,g1.pl=g.pl/\Le g g1/\Sim g1 h1 fr w/\h1.length=h.length/\Rel g1 true v' x:=by
      split at hs1
      .simp only[AN,Bk]at hs1;obtain⟨rfl,rfl⟩:=hs1;exact⟨g,rfl,Le.refl g,sim,rfl,k1⟩
      .obtain⟨g1,a1,a2,a3,a4,a5⟩:=(JV Ds).1 hs1 sim k1;exact⟨g1,a1,a2,a3,a4,a5.up⟩
     obtain⟨g1,a1,a2,a3,a4,a5⟩:=hv;obtain⟨g2,b1,b2,b3,b4,b5⟩:=K3 hs2 a3 (k2.mono a2);exact⟨g2,b1.trans a1,a2.trans b2,b3,by omega,Au.cons (a5.mono b2) b5⟩
    .cases hs
   .cases hs
def QO(g:G)(w:World):Fr:=⟨fun B=>B<w.heap.size,w,g.mu⟩
theorem Sim.start{g:G}{h:AF}{fr:Fr}{w:World}(s:Sim g h fr w):Sim ⟨g.mu,fun _ _=>none⟩ [] (QO g w) w:=
 ⟨s.mem,fun id k hk=>by simp at hk,fun _ _ _=>rfl,(fun _ _ _ _ _ _ _ _ _ h=>by cases h),(fun _ _ _ _ h=>by cases h),fun B hB=>⟨hB,rfl,fun _=>rfl,(fun _ _ _ h=>by cases h)⟩,CZ _,rfl,rfl,rfl⟩
theorem Sim.back{g g1:G}{h hr:AF}{fr:Fr}{w w':World}(s:Sim g h fr w)(s1:Sim g1 hr (QO g w) w'):Sim ⟨g1.mu,g.pl⟩ h fr w':=by
 have hmu:∀ B o,B<w.heap.size->g1.mu B o=g.mu B o:=fun B o hB=>(s1.frF B hB).2.2.1 o
 have hhp:∀ B,B<w.heap.size->w'.heap[B]? = w.heap[B]? := fun B hB=>(s1.frF B hB).2.1
 have hsz:w.heap.size<=w'.heap.size:=s1.frS;refine⟨s1.mem,fun id k hk=>(s.blk id k hk).mono (g':=⟨g1.mu,g.pl⟩) ⟨fun B o v hm => ?_,fun _ _ _ h=>h⟩ (fun _=>rfl) (fun gen B c hp o=>hmu B o (s.lt _ _ _ _ hp)) (fun gen B c hp=>hhp B (s.lt _ _ _ _ hp)),s.out,s.inj,
  fun id gen B c hp=>by have:=s.lt id gen B c hp;omega,fun B hB => ?_,by have:=s.frS;omega,by rw[s1.os];exact s.os,by rw[s1.tape];exact s.tape,by rw[s1.output];exact s.output⟩
 .show g1.mu B o=some v;rw[hmu B o (s.Kz hm)];exact hm
 .obtain⟨h1,h2,h3,h4⟩:=s.frF B hB;exact⟨by omega,by rw[hhp B h1];exact h2,fun o=>by show g1.mu B o=_;rw[hmu B o h1];exact h3 o,h4⟩
theorem Sim.PX{g g1:G}{h hr:AF}{fr:Fr}{w w':World}(s:Sim g h fr w)(s1:Sim g1 hr (QO g w) w'):Le g ⟨g1.mu,g.pl⟩:=
 ⟨fun B o v hm=>by show g1.mu B o=some v;rw[(s1.frF B (s.Kz hm)).2.2.1 o];exact hm,fun _ _ _ h=>h⟩
theorem Sim.keep{g:G}{h:AF}{fr:Fr}{w:World}(s:Sim g h fr w)(k:Blk)(q:Nat->Option (Nat×Nat))(hq:∀ gen B c,q gen=some (B,c)->B<w.heap.size/\¬ fr.F B/\∀ id gen' c',g.pl id gen'≠some (B,c'))
 (hblk:∀ g':G,Le g g'->g'.mu=g.mu->(∀ gen,g'.pl h.length gen=q gen)->Gl g' h.length k w) :
 ∃ g',Le g g'/\g'.mu=g.mu/\Sim g' (h++[k]) fr w/\(∀ gen,g'.pl h.length gen=q gen)/\∀ id,id≠h.length->g'.pl id=g.pl id:=by
 let g':G:=⟨g.mu,fun id gen=>if id=h.length then q gen else g.pl id gen⟩;have hpl:∀ id,id≠h.length->∀ gen,g'.pl id gen=g.pl id gen:=fun id hid gen=>by simp[g',hid]
 have hnew:∀ gen,g'.pl h.length gen=q gen:=fun gen=>by simp[g']
 have hle:Le g g':=⟨fun _ _ _ h=>h,fun id gen x hx=>by
  by_cases hid:id=h.length
  .rw[hid,s.out _ (CZ _)]at hx;cases hx
  .rw[hpl id hid];exact hx⟩
 refine⟨g',hle,rfl,⟨s.mem,fun id k' hk => ?_,fun id hid gen => ?_,fun id id' gen gen' b b' x x' hne h1 h2 => ?_,fun id gen b x hx => ?_,fun b hb => ?_,s.frS,s.os,s.tape,s.output⟩,hnew,fun id hid=>funext (hpl id hid)⟩
 .by_cases hid:id<h.length
  .rw[BA hid]at hk;exact(s.blk id k' hk).mono hle (hpl id (by omega)) (fun _ _ _ _ _=>rfl) (fun _ _ _ _=>rfl)
  .have hid':id=h.length:=by
    have:=(Ae.1 hk).1;simp at this;omega
   subst hid';simp at hk;subst hk;exact hblk g' hle rfl hnew
 .simp only[FZ,D8,IB]at hid;rw[hpl id (by omega)];exact s.out id (by omega) gen
 .by_cases ha:id=h.length <;> by_cases hb:id'=h.length
  .omega
  .subst ha;rw[hpl id' hb]at h2;rw[hnew]at h1;exact fun e=>(hq _ _ _ h1).2.2 id' gen' x' (by rw[h2,e])
  .subst hb;rw[hpl id ha]at h1;rw[hnew]at h2;exact fun e=>(hq _ _ _ h2).2.2 id gen x (by rw[h1,e])
  .rw[hpl id ha]at h1;rw[hpl id' hb]at h2;exact s.inj id id' gen gen' b b' x x' hne h1 h2
 .by_cases ha:id=h.length
  .subst ha;rw[hnew]at hx;exact(hq _ _ _ hx).1
  .rw[hpl id ha]at hx;exact s.lt id gen b x hx
 .obtain⟨h1,h2,h3,h4⟩:=s.frF b hb;refine⟨h1,h2,h3,fun id gen x hx => ?_⟩;by_cases ha:id=h.length
  .subst ha;rw[hnew]at hx;exact(hq _ _ _ hx).2.1 hb
  .rw[hpl id ha]at hx;exact h4 id gen x hx
theorem Gl.moved{g g':G}{id id':Nat}{k:Blk}{w:World}(h:Gl g id k w)(hn:k.AA=true)(hmu:g'.mu=g.mu)(hp:∀ gen,g'.pl id' gen=g.pl id gen):Gl g' id' k w:=by
 have hm:∀ B o x,g.mu B o=some x->g'.mu B o=some x:=fun B o x h=>by rw[hmu];exact h
 cases k with
 | var lk cs=>
  obtain⟨B,c,vs,T,h1,h2,h3,h4,h5,h6⟩:=h;exact⟨B,c,vs,T,by rw[hp];exact h1,h2,h3.imm (by simpa[Blk.AA]using hn) hm true,h4,fun hl o=>by rw[hmu];exact h5 hl o,fun gen hgen=>by rw[hp];exact h6 gen hgen⟩
 | arr sz lk es=>
  obtain⟨B,c,vs,T,fr,h1,h2,h3,h4,h5,h6,h7,h8,h9,h10⟩:=h;exact⟨B,c,vs,T,fr,by rw[hp];exact h1,h2,h3,h4,h5,h6,h7,fun i e he k x v hx hv=>(h8 i e he k x v hx hv).ID (KZ (by simpa only[Blk.AA]using hn) he hx) hm,
   fun o ho=>by rw[hmu];exact h9 o ho,fun gen hgen=>by rw[hp];exact h10 gen hgen⟩
 | mp es=>
  obtain⟨B,c,ms,clk,h1,h2,h3,h4,h5⟩:=h;refine⟨B,c,ms,clk,by rw[hp];exact h1,h2,h3,fun i p m hp' hm' => ?_,fun gen hgen=>by rw[hp];exact h5 gen hgen⟩;have:=D0.1 (by simpa only[Blk.AA]using hn) p (C2 hp');simp only[BU]at this;exact⟨(h4 i p m hp' hm').1.ID this.1 hm,(h4 i p m hp' hm').2.ID this.2 hm⟩
 | hole=>simp[Blk.AA]at hn
theorem N4{i:Nat}{r:List Nat}(h:distinct (i::r)=true):i ∉ r/\distinct r=true:=by
 simp only[distinct,BU,IA]at h;refine⟨fun hm => ?_,h.2⟩;have:=P7 hm;rw[h.1]at this;cases this
theorem QP{g1:G}{h1:AF}{frc fr:Fr}{w':World}(s1:Sim g1 h1 frc w')(hF:∀ B,fr.F B->frc.F B):∀{ids:List Nat} {bs:List Blk} {ga:G} {lo:AF},Sim ga lo fr w'->ga.mu=g1.mu->distinct ids=true->ET h1 ids=some bs ->
 (∀ id,id∈ids->∀ gen B c,g1.pl id gen=some (B,c)->∀ id' gen' c',ga.pl id' gen'≠some (B,c')) ->
 ∃ g2,Le ga g2/\g2.mu=g1.mu/\Sim g2 (lo++bs) fr w'/\(∀(k:Nat) id,ids[k]? = some id->∀ gen,g2.pl (lo.length+k) gen=g1.pl id gen)/\∀ id,id<lo.length->g2.pl id=ga.pl id
 | [],bs,ga,lo,sa,hm,_,hb,_=>by
  simp only[ET,AN]at hb;subst hb;exact⟨ga,Le.refl ga,hm,by simpa using sa,(fun k id h=>by simp at h),fun _ _=>rfl⟩
 | i::r,bs,ga,lo,sa,hm,hd,hb,hun=>by
  obtain⟨hni,hd'⟩:=N4 hd;simp only[ET]at hb;split at hb
  .rename_i b bs' hbi hbr;split at hb
   .rename_i hn;simp only[AN]at hb;subst hb;obtain⟨g',a1,a2,a3,a4,a5⟩:=sa.keep b (g1.pl i) (fun gen B c hq=>⟨s1.lt _ _ _ _ hq,fun hf=>(s1.frF B (hF B hf)).2.2.2 i gen c hq,hun i (by simp) gen B c hq⟩)
     (fun g' b1 b2 b3=>(s1.blk i b hbi).moved hn (by rw[b2,hm]) b3)
    obtain⟨g2,c1,c2,c3,c4,c5⟩:=QP s1 hF a3 (by rw[a2,hm]) hd' hbr (fun id hid gen B c hq id' gen' c' hp=>by
     by_cases he:id'=lo.length
     .subst he;rw[a4]at hp;exact s1.inj i id gen' gen B B c' c (fun e=>hni (e ▸ hid)) hp hq rfl
     .rw[a5 id' he]at hp;exact hun id (by simp[hid]) gen B c hq id' gen' c' hp)
    refine⟨g2,a1.trans c1,c2,by simpa using c3,fun k id hk gen => ?_,fun id hid=>by rw[c5 id (by simp;omega),a5 id (by omega)]⟩;cases k with
    | zero=>
     simp only[HJ,AN]at hk;subst hk;rw[IZ,c5 _ (by simp),a4]
    | succ k=>
     have:=c4 k id (by simpa using hk) gen;rw[FZ,List.length_singleton]at this;rw[show lo.length+(k+1)=lo.length+1+k by omega];exact this
   .cases hb
  .cases hb
theorem Ho:∀{ids:List Nat} {id k:Nat},posOf ids id=some k->ids[k]? = some id
 | [],_,_,h=>by simp[posOf]at h
 | i::r,id,k,h=>by
  simp only[posOf]at h;split at h
  .rename_i he;simp only[AN]at h;subst h;simp[Bl.1 he]
  .split at h
   .rename_i k' hk;simp only[AN]at h;subst h;simpa using Ho hk
   .cases h
section
variable{g1 g2:G}{base:Nat}{ids:List Nat}(hp:∀(k:Nat) id,ids[k]? = some id->∀ gen,g2.pl (base+k) gen=g1.pl id gen)(hm:∀ B o x,g1.mu B o=some x->g2.mu B o=some x)
include hp hm
theorem M3{v v':AV}{x:Value}(hx:Rel g1 true v x)(h:GC base ids v=some v'):Rel g2 true v' x:=by
 have plain:(match v.AA with | true=>some v | false=>none)=some v'->Rel g2 true v' x:=fun h=>by
  split at h
  .rename_i hn;simp only[AN]at h;subst h;exact hx.ID hn hm
  .cases h
 cases hx with
 | hp id off B c hpl=>
  simp only[GC,Dx]at h;obtain⟨k,hk,rfl⟩:=h;exact .hp _ off B c (by rw[hp k id (Ho hk)];exact hpl)
 | ep id gen sz i k B c hpl=>
  simp only[GC,Dx]at h;obtain⟨j,hj,rfl⟩:=h;exact .ep _ gen sz i k B c (by rw[hp j id (Ho hj)];exact hpl)
 | hs id gen sz off len ex B c o c' hpl h0 hc ho=>
  simp only[GC,Dx]at h;obtain⟨j,hj,rfl⟩:=h;exact .hs _ gen sz off len ex B c o c' (by rw[hp j id (Ho hj)];exact hpl) h0 hc ho
 | hm id B c hpl=>
  simp only[GC,Dx]at h;obtain⟨j,hj,rfl⟩:=h;exact .hm _ B c (by rw[hp j id (Ho hj)];exact hpl)
 | _=>exact plain h
theorem MA:∀{cs cs':List AV} {xs:List Value},Au g1 true cs xs.toArray->HT base ids cs=some cs'->Au g2 true cs' xs.toArray
 | [],cs',xs,hx,h=>by
  simp only[HT,AN]at h;subst h;exact⟨hx.1,fun i c v hc=>by simp at hc⟩
 | v::r,cs',xs,hx,h=>by
  cases xs with
  | nil=>have:=hx.1;simp at this
  | cons x xs=>
   obtain⟨k1,k2⟩:=hx.head;simp only[HT]at h;split at h
   .rename_i a b ha hb;simp only[AN]at h;subst h;exact Au.cons (M3 hp hm k1 ha) (MA k2 hb)
   .cases h
theorem M4{v v':AV}{x:Value}(hx:Rel g1 true v x)(h:Ll base ids v=some v'):Rel g2 true v' x:=by
 unfold Ll at h;split at h
 .simp only[Dx]at h;obtain⟨cs',hc,rfl⟩:=h;cases hx with
  | agg _ _ vs s h1 h2=>
   have:=MA hp hm (Au.ar s h2) hc;rw[HK]at this;exact .agg true cs' vs this.1 h1 this.2
 .exact M3 hp hm hx h
theorem MB:∀{cs cs':List AV} {xs:List Value},Au g1 true cs xs.toArray->Ky base ids cs=some cs'->Au g2 true cs' xs.toArray
 | [],cs',xs,hx,h=>by
  simp only[Ky,AN]at h;subst h;exact⟨hx.1,fun i c v hc=>by simp at hc⟩
 | v::r,cs',xs,hx,h=>by
  cases xs with
  | nil=>have:=hx.1;simp at this
  | cons x xs=>
   obtain⟨k1,k2⟩:=hx.head;simp only[Ky]at h;split at h
   .rename_i a b ha hb;simp only[AN]at h;subst h;exact Au.cons (M4 hp hm k1 ha) (MB k2 hb)
   .cases h
theorem Ru{v v':AV}{x:Value}(hx:Rel g1 true v x)(h:IM base ids v=some v'):Rel g2 true v' x:=by
 unfold IM at h;split at h
 .simp only[Dx]at h;obtain⟨cs',hc,rfl⟩:=h;cases hx with
  | tup _ _ vs s h2=>
   have:=MB hp hm (Au.ar s h2) hc;rw[HK]at this;exact .tup true cs' vs this.1 this.2
 .exact M4 hp hm hx h
end
theorem Gm{fr:Fr}{w:World}:∀{ids:List Nat} {h h':AF} {g:G},settle ids h=some h'->Sim g h fr w->∃ g',g'.pl=g.pl/\Le g g'/\Sim g' h' fr w
 | [],h,h',g,hs,sim=>by
  simp only[settle,AN]at hs;subst hs;exact⟨g,rfl,Le.refl g,sim⟩
 | id::r,h,h',g,hs,sim=>by
  simp only[settle]at hs;split at hs
  .rename_i lk0 cs hk;split at hs
   .exact Gm hs sim
   .split at hs
    .rename_i cs' h1 hs1;split at hs
     .rename_i lk cs1 hk1;obtain⟨B,c,vs,T,q1,q2,q3,q4,q5,q6⟩:=sim.blk id _ hk;obtain⟨g1,a1,a2,a3,a4,a5⟩:=(JV Ds).2.1 (xs:=vs.toList) hs1 sim (Au.ar q3.1 q3.2);rw[HK]at a5;obtain⟨B2,c2,vs2,T2,r1,r2,r3,r4,r5,r6⟩:=a3.blk id _ hk1;rw[a1,q1]at r1;simp only[AN,Bk]at r1;obtain⟨rfl,rfl⟩:=r1;have ret:=a3.V0 (Ae.1 hk1).1 (.var lk cs') ⟨B,c,vs,T,by rw[a1];exact q1,q2,⟨a5.1,fun i c v hc hv=>(a5.2 i c v hc hv).up⟩,q4,r5,fun gen hgen=>by rw[a1];exact q6 gen hgen⟩;obtain⟨g2,b1,b2,b3⟩:=Gm hs ret;exact⟨g2,b1.trans a1,a2.trans b2,b3⟩
     .cases hs
    .cases hs
  .rename_i sz0 lk0 es hk;split at hs
   .exact Gm hs sim
   .split at hs
    .rename_i es' h1 hs1;split at hs
     .rename_i sz lk es1 hk1;split at hs
      .rename_i hlen;simp only[BU,Bl]at hlen;obtain⟨hlen,rfl⟩:=hlen;obtain⟨B,c,vs,T,fz,q1,q2,q3,q4,q5,q6,q7,q8,q9,q10⟩:=sim.blk id _ hk;obtain⟨g1,a1,a2,a3,a4,a5,a6⟩:=(JV Ds).2.2 (V:=fun i=>(vs.extract (i * sz) (i * sz+sz)).toList) hs1 sim (fun i e he=>by
        rw[HK];have hie:=(Ae.1 he).1;have hmul:(i+1) * sz<=c * sz:=GK _ (by omega);rw[Ge]at hmul;refine⟨by rw[q6 i e he];simp;omega,fun k x v hx hv => ?_⟩;rw[OC]at hv;split at hv
        .exact q8 i e he k x v hx hv
        .cases hv)
       obtain⟨B2,c2,vs2,T2,fz2,r1,r2,r3,r4,r5,r6,r7,r8,r9,r10⟩:=a3.blk id _ hk1;rw[hlen,a6,a1,q1]at r1;simp only[AN,Bk]at r1;obtain⟨rfl,rfl⟩:=r1;rw[q2]at r2;simp only[AN,Obj.cells.injEq]at r2;obtain⟨rfl,rfl,rfl⟩:=r2;have hl':∀(i:Nat) (e:List AV),es'[i]? = some e->e.length=sz:=fun i e he=>by
        have hie:=(Ae.1 he).1;have hmul:(i+1) * sz<=c * sz:=GK _ (by omega);rw[Ge]at hmul;have:=(a5 i e he).1;simp at this;omega
       have ret:=a3.V0 (Ae.1 hk1).1 (.arr sz lk es') ⟨B,c,vs,T,fz,by rw[a6,a1];exact q1,q2,q3,by omega,q5,hl',q7,fun i e he k x v hx hv=>by
        have hk':k<sz:=(by rw[<- hl' i e he];exact(Ae.1 hx).1);refine((a5 i e he).2 k x v hx ?_).up;rw[HK,OC,if_pos]
        .exact hv
        .have:=(Kn.1 hv).1;omega,fun o ho=>r9 o (fun hh=>by rw[hlen];exact ho hh),fun gen hgen=>by rw[a1];exact q10 gen (by omega)⟩
       obtain⟨g2,b1,b2,b3⟩:=Gm hs ret;exact⟨g2,b1.trans a1,a2.trans b2,b3⟩
      .cases hs
     .cases hs
    .cases hs
  .exact Gm hs sim
theorem PY{g g1:G}{h hr h':AF}{fr:Fr}{w w':World}(s:Sim g h fr w)(s1:Sim g1 hr (QO g w) w'){keep:Bool}{v v':AV}{x:Value}(hx:Rel g1 true v x)(hc:DG keep h v hr=some (v',h')) :
 ∃ g2,Le g g2/\Sim g2 h' fr w'/\Rel g2 true v' x:=by
 unfold DG at hc;split at hc
 .split at hc
  .cases hc
  .rename_i h1 hs1;obtain⟨g2,a1,a2,a3⟩:=Gm hs1 s1;split at hc
   .rename_i v2 bs hd hv hb;simp only[AN,Bk]at hc;obtain⟨rfl,rfl⟩:=hc;obtain⟨g3,b1,b2,b3,b4,_⟩:=QP a3 (fun B hB=>(s.frF B hB).1) (s.back a3) rfl hd hb (fun id hid gen B c hq id' gen' c' hp=>(a3.frF B (s.lt _ _ _ _ hp)).2.2.2 id gen c hq);exact⟨g3,(s.PX a3).trans b1,b3,Ru b4 (fun B o x h=>by rw[b2];exact h) (hx.mono a2) hv⟩
   .cases hc
 .split at hc
  .rename_i v2 h2 hv;split at hc
   .rename_i hn;simp only[AN,Bk]at hc;obtain⟨rfl,rfl⟩:=hc;have:∃ g2,Le g1 g2/\Sim g2 h2 (QO g w) w'/\Rel g2 true v2 x:=by
     split at hv
     .simp only[AN,Bk]at hv;obtain⟨rfl,rfl⟩:=hv;exact⟨g1,Le.refl g1,s1,hx⟩
     .obtain⟨g2,a1,a2,a3,a4,a5⟩:=(JV Ds).1 hv s1 hx;exact⟨g2,a2,a3,a5.up⟩
    obtain⟨g2,a1,a2,a3⟩:=this;exact⟨⟨g2.mu,g.pl⟩,s.PX a2,s.back a2,a3.ID hn (fun _ _ _ h=>h)⟩
   .cases hc
  .cases hc
theorem OQ{M:Par}{P:Program}{C:CH}(hC:JX M P C):JX M P (AI M C):=by
 intro f args h r h' hd;unfold AI at hd;split at hd
 .exact hC f args h r h' hd
 .split at hd
  .cases hd
  .rename_i args' h1 hs;split at hd
   .cases hd
   .rename_i hn;have hb:∃ fn c,M.fn f=some fn/\fn.body=some c:=by
     split at hd
     .rename_i hcall;exact(hC f args' [] _ _ hcall).1
     .rename_i hcall;exact(hC f args' [] _ _ hcall).1
     .cases hd
    refine⟨hb,fun g fr w cargs sim hargs => ?_⟩;obtain⟨g1,a1,a2,a3,a4,a5⟩:=K3 (xs:=cargs.toList) hs sim (by simpa using hargs);rw[HK]at a5;have hargs':Au ⟨g1.mu,fun _ _=>none⟩ true args' cargs:=by
     refine⟨a5.1,fun i c v hc hv=>(a5.2 i c v hc hv).ID ?_ (fun _ _ _ h=>h)⟩;exact D0.1 hn c (C2 hc)
    split at hd
    .rename_i v hr hcall;split at hd
     .rename_i v' h2 hcl;simp only[AN,Bk]at hd;obtain⟨rfl,rfl⟩:=hd;refine((hC f args' [] _ _ hcall).2 _ _ w cargs a3.start hargs').mono fun e w' he => ?_
      obtain⟨g2,b1,b2,b3⟩:=he;cases e with
      | returned x=>
       obtain⟨g3,c1,c2,c3⟩:=PY a3 b2 b3 hcl;exact⟨g3,a2.trans c1,c2,c3⟩
      | panicked=>exact b3.elim
      | outgrown=>exact b3.elim
     .cases hd
    .rename_i v hr hcall;split at hd
     .rename_i hvn;simp only[AN,Bk]at hd;obtain⟨rfl,rfl⟩:=hd;refine((hC f args' [] _ _ hcall).2 _ _ w cargs a3.start hargs').mono fun e w' he => ?_
      obtain⟨g2,b1,b2,b3⟩:=he;cases e with
      | returned x=>exact b3.elim
      | panicked chain=>
       obtain⟨x,hx1,hx2⟩:=b3;exact⟨⟨g2.mu,g1.pl⟩,a2.trans (a3.PX b2),a3.back b2,x,hx1,hx2.ID hvn (fun _ _ _ h=>h)⟩
      | outgrown=>exact b3.elim
     .cases hd
    .cases hd
section
variable{M:Par}{P:Program}
theorem Yu{o:Oper}{a:Act}{s:Sem Next}{g:G}{h':AF}{fr:Fr}{w:World}{v:AV}(he:execOp a.eval o=s)(hd:G5 P s g h' fr w v){K:Act->World->Prop}{Q:Exit->Act->World->Prop}
 (hK:∀ g' w' x,Le g g'->Sim g' h' fr w'->Rel g' true v x->K (a.put o.dst x) w'):o.wp P a w K Q:=by
 obtain⟨x,w',g',hr,h1,h2,h3⟩:=hd;unfold Oper.wp;rw[he];rcases hr with hr | ⟨hr,rfl⟩
 .rw[hr];exact hK g' w' x h1 h2 h3
 .rw[hr];exact hK g' w' _ h1 h2 h3
theorem TE{t:Tm}:∀{xs:List Operand} {vs:List AV},evs t xs=some vs->∀ x,x∈xs->∃ v,ev t x=some v
 | [],_,_,x,hx=>by cases hx
 | y::r,vs,h,x,hx=>by
  simp only[evs]at h;split at h
  .rename_i v ws hv hws;rcases Cd.1 hx with rfl | hx
   .exact⟨v,hv⟩
   .exact TE hws x hx
  .cases h
theorem orel{g:G}{t:Tm}{a:Act}(ht:EU g t a.tmps)(x:Option Operand)(h:∀ y,x=some y->∃ v,ev t y=some v):QM g (x.bind (ev t)) (x.map a.eval):=by
 cases x with
 | none=>trivial
 | some y=>
  obtain⟨v,hv⟩:=h y rfl;simp only[KL,hv,E0];exact Bm ht hv
theorem OS{g:G}{t:Tm}{a:Act}(ht:EU g t a.tmps){ps:Array (Nat×Operand)}{vs:List AV}(h:evs t (ps.toList.map (·.2))=some vs):Ro g true (Db ps.toList vs) (ps.map fun(i,x)=>(i,a.eval x)).toList:=by
 rw[Array.toList_map];generalize ps.toList=l at h;induction l generalizing vs with
 | nil=>exact⟨by cases vs <;> rfl,fun i p q hp hq=>by simp at hq⟩
 | cons p r ih=>
  obtain⟨i,x⟩:=p;simp only[Hk,evs]at h;split at h
  .rename_i v ws hv hws;simp only[AN]at h;subst h;have:=ih hws;refine⟨by simp[Db,this.1],fun j p q hp hq => ?_⟩;cases j with
   | zero=>
    simp[Db]at hp hq;subst hp;subst hq;exact⟨rfl,Bm ht hv⟩
   | succ j=>exact this.2 j p q (by simpa[Db]using hp) (by simpa using hq)
  .cases h
theorem K4{g:G}{t:Tm}{a:Act}(ht:EU g t a.tmps){xs:Array Operand}{vs:List AV}(h:evs t xs.toList=some vs):Au g true vs (xs.map a.eval):=by
 have:=S7 ht h
 rwa [<- Array.toList_map,HK]at this
variable(F:Fits M P){C:CH}(hC:JX M P C)(hP:Dc M P)
include F in
theorem UU{f:FuncId}(hb:∃ fn c,M.fn f=some fn/\fn.body=some c)(args:Array Value)(w:World):(callFunc f args).run P w=.ok (.enter f args) w:=by
 obtain⟨fn,c,h1,h2⟩:=hb;obtain⟨h3,h4,_⟩:=F.fn f fn h1;have h5:¬ fn.name = "runtime.NumGoroutine" := fun e=>by rw[e]at h4;simp at h4
 simp[callFunc,h3,h5,h2]
def Rv(P:Program)(o:Oper)(a:Act)(g:G)(fr:Fr)(w:World)(r:OR):Prop:=∀(K:Act->World->Prop) (Q:Exit->Act->World->Prop),
 (match r with
  | .val v h'=>∀ g' w' x,Le g g'->Sim g' h' fr w'->Rel g' true v x->K (a.put o.dst x) w'
  | .pan v h'=>∀ g' w' x,Le g g'->Sim g' h' fr w'->Rel g' true v x->Q (.panic [{ v:=x,recovered:=false }]) a w')->o.wp P a w K Q
theorem Rv.val{o:Oper}{a:Act}{s:Sem Next}{g:G}{h':AF}{fr:Fr}{w:World}{v:AV}(he:execOp a.eval o=s)(hd:G5 P s g h' fr w v):Rv P o a g fr w (.val v h'):=
 fun _ _ hK=>Yu he hd hK
theorem DZ{o:Oper}{a:Act}{s:Sem Value}{g:G}{h:AF}{fr:Fr}{w:World}{r:OR}{q:Option AV}(sim:Sim g h fr w)(he:execOp a.eval o=(do pure (.value (<- s))))(hf:OR.ofV h q=some r)
 (hd:∀ v,q=some v->∃ x,s.run P w=.ok x w/\Rel g true v x):Rv P o a g fr w r:=by
 cases q with
 | none=>cases hf
 | some v=>
  simp only[OR.ofV,AN]at hf;subst hf;exact .val he (G5.of sim (hd v rfl))
theorem MS{o:Oper}{a:Act}{s:Sem Next}{g:G}{fr:Fr}{w:World}{r:OR}{q:Option (AV×AF)}(he:execOp a.eval o=s)(hf:OR.Dz q=some r)(hd:∀ v h',q=some (v,h')->G5 P s g h' fr w v):Rv P o a g fr w r:=by
 cases q with
 | none=>cases hf
 | some v=>
  obtain⟨v,h'⟩:=v;simp only[OR.Dz,AN]at hf;subst hf;exact .val he (hd v h' rfl)
include F hC hP in
theorem UW{o:Oper}{a:Act}{g:G}{h:AF}{fr:Fr}{w:World}{t:Tm}{r:OR}(sim:Sim g h fr w)(ht:EU g t a.tmps){f:Operand}{args:Array Operand}{ats:Array TypeId}(ho:o.op=.call { callee:=.value f,args,argTypes:=ats })
 (hf:Ej M C t f args h=some r):Rv P o a g fr w r:=by
 unfold Ej at hf;split at hf
 .rename_i g0 fs cap vs hev hevs;have hfr:=Bm ht hev;have har:=K4 ht hevs;cases hx:a.eval f with
  | func fnv us caps=>
   rw[hx]at hfr;cases hfr with
   | fn _ _ _ _ _ _ s1 s2 h1 h2=>
    have hargs:Au g true (fs++vs++cap) (us++args.map a.eval++caps):=(Au.append (Au.append (⟨s1,h1⟩:Au g true fs us) har) (⟨s2,h2⟩:Au g true cap caps));have hrun:∀(hb:∃ fn c,M.fn g0=some fn/\fn.body=some c),(execOp a.eval o).run P w=.ok (.enter g0 (us++args.map a.eval++caps)) w:=fun hb=>by
     simp[execOp,ho,resolve,hx,Deferred.ofValue,invoke,UU F hb]
    split at hf
    .rename_i p hp;cases hq:p (fs++vs++cap)with
     | none=>rw[hq]at hf;cases hf
     | some v=>
      rw[hq]at hf;simp only[OR.ofV,AN]at hf;subst hf;obtain⟨hb,hcall⟩:=hP g0 p hp _ v hq;intro K Q hK;unfold Oper.wp;rw[hrun hb,Oper.upon_enter];refine(hcall g h fr w _ sim hargs).mono fun e w' he => ?_
      obtain⟨g',a1,a2,a3⟩:=he;cases e with
      | returned x=>exact hK g' w' x a1 a2 a3
      | panicked=>exact a3.elim
      | outgrown=>exact a3.elim
    .cases hq:AI M C g0 (fs++vs++cap) h with
     | none=>rw[hq]at hf;cases hf
     | some rh=>
      obtain⟨rr,h'⟩:=rh;rw[hq]at hf;obtain⟨hb,hcall⟩:=OQ hC _ _ _ _ _ hq;intro K Q hK;unfold Oper.wp;rw[hrun hb,Oper.upon_enter];refine(hcall g fr w _ sim hargs).mono fun e w' he => ?_
      obtain⟨g',a1,a2,a3⟩:=he;cases rr with
      | ret v=>
       simp only[OR.ofC,AN]at hf;subst hf;cases e with
       | returned x=>exact hK g' w' x a1 a2 a3
       | panicked=>exact a3.elim
       | outgrown=>exact a3.elim
      | pan v=>
       simp only[OR.ofC,AN]at hf;subst hf;cases e with
       | returned x=>exact a3.elim
       | panicked chain=>
        obtain⟨x,rfl,hx2⟩:=a3;exact hK g' w' x a1 a2 hx2
       | outgrown=>exact a3.elim
  | _=>rw[hx]at hfr;cases hfr
 .cases hf
include F in
theorem PZ{o:Oper}{a:Act}{g:G}{h:AF}{fr:Fr}{w:World}{t:Tm}{r:OR}(sim:Sim g h fr w)(ht:EU g t a.tmps){b:Builtin}{args:Array Operand}{ats:Array TypeId}(ho:o.op=.call { callee:=.builtin b,args,argTypes:=ats })
 (hf:BJ M.ty t b args ats h=some r):Rv P o a g fr w r:=by
 unfold BJ at hf;split at hf
 .rename_i vs hvs;have har:=K4 ht hvs;generalize hxs:args.map a.eval=xs at har;have he:execOp a.eval o=builtin b ats o.type (args.map fun | .const _=>true | _=>false) xs:=by
   rw[<- hxs];simp[execOp,ho,resolve,invoke];rfl
  have one1:∀ x,vs=[x]->∃ y,xs = #[y]/\Rel g true x y:=fun x hx=>by
   subst hx;obtain⟨xs⟩:=xs;obtain⟨hn,hr⟩:=har
   match xs,hn with
   | [y],_=>exact⟨y,rfl,hr 0 _ _ rfl rfl⟩
  have two:∀ x x',vs=[x,x']->∃ y y',xs = #[y,y']/\Rel g true x y/\Rel g true x' y':=fun x x' hx=>by
   subst hx;obtain⟨xs⟩:=xs;obtain⟨hn,hr⟩:=har
   match xs,hn with
   | [y,y'],_=>exact⟨y,y',rfl,hr 0 _ _ rfl rfl,hr 1 _ _ rfl rfl⟩
  have ats0:∀ t0 u,ats.toList=t0::u->ats[0]? = some t0:=fun t0 u h=>by rw[<- Array.getElem?_toList,h];rfl
  have ats1:∀ t0 u0 u,ats.toList=t0::u0::u->ats[1]? = some u0:=fun t0 u0 u h=>by rw[<- Array.getElem?_toList,h];rfl
  cases b with
  | append=>
   match hts:ats.toList,vs,hf with
   | [],_,hf=>simp[Ad]at hf
   | [_],_,hf=>simp[Ad]at hf
   | _::_::_,[],hf=>simp[Ad]at hf
   | _::_::_,[_],hf=>simp[Ad]at hf
   | _::_::_,_::_::_::_,hf=>simp[Ad]at hf
   | t0::u0::u1,[x0,x1],hf=>
    obtain⟨y0,y1,rfl,r0,r1⟩:=two _ _ rfl;simp only[Ad]at hf;split at hf
    .rename_i d hd;split at hf
     .rename_i z hz;exact MS (he.trans rfl) hf (fun v h' hq=>QL F sim (ats0 _ _ hts) (ats1 _ _ _ hts) hd hz r0 r1 hq)
     .cases hf
    .cases hf
  | cap=>
   cases hts:ats.toList with
   | nil=>rw[hts]at hf;cases hf
   | cons t0 u0=>
    rw[hts]at hf
    match vs,hf with
    | [],hf=>cases hf
    | _::_::_,hf=>cases hf
    | [x],hf=>
     obtain⟨y,rfl,r0⟩:=one1 _ rfl;have htl:ats.toList.tail=u0:=(by rw[hts];rfl);obtain⟨n,rfl,hrun⟩:=Vx F (w:=w) (ty:=o.type) (ts:=ats) (ats0 _ _ hts) r0 (by rw[htl];exact hf);exact .val (s:=do pure (.value (<- Builtin.cap_ ats o.type #[y]))) (he.trans rfl) (.val sim (.int .i64 n) (by rw[Sem.run_bind,hrun];rfl) (.int _ _ _))
  | len=>
   cases hts:ats.toList with
   | nil=>rw[hts]at hf;cases hf
   | cons t0 u0=>
    rw[hts]at hf
    match vs,hf with
    | [],hf=>cases hf
    | _::_::_,hf=>cases hf
    | [x],hf=>
     obtain⟨y,rfl,r0⟩:=one1 _ rfl;have htl:ats.toList.tail=u0:=(by rw[hts];rfl);obtain⟨n,rfl,hrun⟩:=Vw F sim (ty:=o.type) (ts:=ats) (ats0 _ _ hts) r0 (by rw[htl];exact hf);exact .val (s:=do pure (.value (<- Builtin.len_ ats o.type #[y]))) (he.trans rfl) (.val sim (.int .i64 n) (by rw[Sem.run_bind,hrun];rfl) (.int _ _ _))
  | max=>
   have hf':OR.ofV h (Vj vs)=some r:=(by unfold Ad at hf;exact hf);exact DZ sim (he.trans rfl) hf' (fun v hv=>Vy har hv)
  | min=>
   have hf':OR.ofV h (Vk vs)=some r:=(by unfold Ad at hf;exact hf);exact DZ sim (he.trans rfl) hf' (fun v hv=>Vz har hv)
  | _=>unfold Ad at hf;cases hf
 .cases hf
include F hC hP in
theorem Lo{o:Oper}{a:Act}{g:G}{h:AF}{fr:Fr}{w:World}{t:Tm}{r:OR}{fid:Nat}(sim:Sim g h fr w)(ht:EU g t a.tmps)(hf:Al M fid C t o.op h=some r):Rv P o a g fr w r:=by
 have E:∀{s:Sem Next},(∀ op,o.op=op->execOp a.eval { o with op:=op }=s)->execOp a.eval o=s:=fun hh=>hh o.op rfl
 cases ho:o.op with
 | move x=>
  rw[ho]at hf;exact DZ (s:=pure (a.eval x)) sim (by simp[execOp,ho]) hf (fun v hv=>⟨_,rfl,Bm ht hv⟩)
 | assign x=>
  rw[ho]at hf;exact DZ (s:=pure (a.eval x)) sim (by simp[execOp,ho]) hf (fun v hv=>⟨_,rfl,Bm ht hv⟩)
 | pick c x y=>
  rw[ho]at hf;simp only[Al,FF]at hf;split at hf
  .rename_i hc;have hcr:=Bm ht hc;cases hce:a.eval c <;> rw[hce]at hcr <;> cases hcr
   exact DZ (s:=pure (a.eval x)) sim (by simp[execOp,ho,hce,asBool]) hf (fun v hv=>⟨_,rfl,Bm ht hv⟩)
  .rename_i hc;have hcr:=Bm ht hc;cases hce:a.eval c <;> rw[hce]at hcr <;> cases hcr
   exact DZ (s:=pure (a.eval y)) sim (by simp[execOp,ho,hce,asBool]) hf (fun v hv=>⟨_,rfl,Bm ht hv⟩)
  .cases hf
 | alloc e=>
  rw[ho]at hf;simp only[Al,EF]at hf;split at hf
  .rename_i cs hz;simp only[AN]at hf;subst hf;exact .val (by simp[execOp,ho]) (Rr F sim hz)
  .cases hf
 | box e x=>
  rw[ho]at hf;simp only[Al,HE]at hf;split at hf
  .rename_i cs hz;simp only[Gd]at hz;obtain⟨v,hv,hc⟩:=hz;simp only[AN]at hf;subst hf;exact .val (by simp[execOp,ho]) (Vs sim e (Bm ht hv) hc)
  .cases hf
 | build ty ps=>
  rw[ho]at hf;simp only[Al,D4]at hf;split at hf
  .rename_i vs hvs;exact DZ sim (by simp[execOp,ho]) hf (fun v hv=>Rq F (OS ht hvs) hv w)
  .cases hf
 | buildSlice ty n ps=>
  rw[ho]at hf;simp only[Al,Ax]at hf;split at hf
  .rename_i vs hvs;exact MS (by simp[execOp,ho]) hf (fun v h' hv=>ML F sim (OS ht hvs) hv)
  .cases hf
 | load ty x=>
  rw[ho]at hf;simp only[Al,FB]at hf;split at hf
  .rename_i p hp;refine DZ (s:=Instr.loadAt ty (a.eval x)) sim (by simp[execOp,ho]) hf (fun v hv => ?_);obtain⟨B,off,y,h1,h2,h3⟩:=QE F sim (Bm ht hp) hv;exact⟨y,by rw[h1];simp[Instr.loadAt,Instr.sureAddr,h2],h3⟩
  .cases hf
 | store ty x y=>
  rw[ho]at hf;simp only[Al,EG]at hf;split at hf
  .rename_i p v hp hv;split at hf
   .rename_i h1 hs;simp only[AN]at hf;subst hf;exact .val (by simp[execOp,ho]) (Rs F sim (Bm ht hp) (Bm ht hv) hs)
   .cases hf
  .cases hf
 | nilCheck x=>
  rw[ho]at hf;simp only[Al,HF]at hf;split at hf
  all_goals first
   | (cases hf;done)
   | (rename_i hx
      simp only[AN]at hf;subst hf;have hxr:=Bm ht hx;refine .val (s:=pure (.value (a.eval x))) ?_ (.val sim _ rfl hxr);cases hxe:a.eval x <;> rw[hxe]at hxr <;> cases hxr <;> simp[execOp,ho,hxe])
 | binOp op ty x y z=>
  rw[ho]at hf;simp only[Al,HG]at hf;split at hf
  .rename_i p v hp hv;cases hq:binX M.ty M.eqs op ty p v with
   | none=>rw[hq]at hf;cases hf
   | some u=>
    rw[hq]at hf;simp only[OR.ofV,AN]at hf;subst hf;exact .val (by simp[execOp,ho]) (UQ F sim x y (Bm ht hp) (Bm ht hv) hq)
  .cases hf
 | unOp op ty x=>
  rw[ho]at hf;simp only[Al,xUn]at hf;split at hf
  .rename_i p hp;exact DZ sim (by simp[execOp,ho]) hf (fun v hv=>Ys (Bm ht hp) hv w)
  .cases hf
 | convert src dst x=>
  rw[ho]at hf;simp only[Al,E7]at hf;split at hf
  .rename_i p hp;exact MS (by simp[execOp,ho]) hf (fun v h' hv=>PV F sim (Bm ht hp) hv)
  .cases hf
 | makeInterface ty x=>
  rw[ho]at hf;simp only[Al,D5]at hf;split at hf
  .cases hf
  .rename_i p d hni hp hd;simp only[AN]at hf;subst hf;refine .val (s:=do pure (.value (<- Instr.makeInterface ty (a.eval x)))) (by simp[execOp,ho]) (.val sim (.iface ty (a.eval x)) ?_ (.iface true ty p _ (Bm ht hp)));simp only[Instr.makeInterface,Sem.run_bind,Ah F hd,Result.andThen_ok];cases d <;> simp_all
  .cases hf
 | makeFunc fnv first cap=>
  rw[ho]at hf;cases fnv with
  | func f=>
   simp only[Al,FG]at hf;split at hf
   .rename_i us vs hus hvs;simp only[AN]at hf;subst hf;have h1:=K4 ht hus;have h2:=K4 ht hvs;exact .val (s:=do pure (.value (<- Instr.makeFunc (.func f) (first.map a.eval) (cap.map a.eval)))) (by simp[execOp,ho]) (.val sim (.func (.func f) (first.map a.eval) (cap.map a.eval)) (by simp[Instr.makeFunc]) (.fn true f us vs _ _ h1.1 h2.1 h1.2 h2.2))
   .cases hf
  | _=>simp[Al]at hf
 | makeMap ty r0=>
  rw[ho]at hf;cases r0 with
  | none=>
   simp only[Al,AN]at hf;subst hf;exact .val (by simp[execOp,ho]) (PT sim ty)
  | some r0=>simp[Al]at hf
 | makeSlice ty l c=>
  rw[ho]at hf;simp only[Al,BF]at hf;split at hf
  .rename_i p v hp hv;exact MS (by simp[execOp,ho]) hf (fun u h' hq=>My F sim (Bm ht hp) (Bm ht hv) hq)
  .cases hf
 | slice ty x lo hi mx=>
  rw[ho]at hf;simp only[Al,DH]at hf;split at hf
  .rename_i p vs hp hvs;have hg:=TE hvs;exact DZ sim (by simp[execOp,ho]) hf (fun v hv=>Rt F sim (Bm ht hp) (orel ht lo (fun y hy=>hg y (by simp[hy]))) (orel ht hi (fun y hy=>hg y (by simp[hy]))) (orel ht mx (fun y hy=>hg y (by simp[hy]))) hv)
  .cases hf
 | fieldAddr ty x f=>
  rw[ho]at hf;simp only[Al,BG]at hf;split at hf
  .rename_i p hp;exact DZ sim (by simp[execOp,ho]) hf (fun v hv=>Mr F sim (Bm ht hp) hv)
  .cases hf
 | field ty x f=>
  rw[ho]at hf;simp only[Al,D6]at hf;split at hf
  .rename_i p hp;exact DZ sim (by simp[execOp,ho]) hf (fun v hv=>Rm F sim (Bm ht hp) hv)
  .cases hf
 | indexAddr ty x i=>
  rw[ho]at hf;simp only[Al,BH]at hf;split at hf
  .rename_i p v hp hv;exact DZ sim (by simp[execOp,ho]) hf (fun u hu=>Ms F sim (Bm ht hp) (Bm ht hv) hu)
  .cases hf
 | index ty x i=>
  rw[ho]at hf;simp only[Al,D7]at hf;split at hf
  .rename_i p v hp hv;exact DZ sim (by simp[execOp,ho]) hf (fun u hu=>Rn F sim (Bm ht hp) (Bm ht hv) hu)
  .cases hf
 | lookup ty x i ok=>
  rw[ho]at hf;simp only[Al,Ce]at hf;split at hf
  .rename_i p v hp hv;exact DZ sim (by simp[execOp,ho]) hf (fun u hu=>QN F sim (Bm ht hp) (Bm ht hv) hu)
  .cases hf
 | mapUpdate ty m k x=>
  rw[ho]at hf;simp only[Al,CX]at hf;split at hf
  .rename_i p v u hp hv hu;split at hf
   .rename_i h1 hs;simp only[AN]at hf;subst hf;exact .val (by simp[execOp,ho]) (L9 F sim (Bm ht hp) (Bm ht hv) (Bm ht hu) hs)
   .cases hf
  .cases hf
 | insert ty m k x=>
  rw[ho]at hf;simp only[Al,CX]at hf;split at hf
  .rename_i p v u hp hv hu;split at hf
   .rename_i h1 hs;simp only[AN]at hf;subst hf;exact .val (by simp[execOp,ho]) (L9 F sim (Bm ht hp) (Bm ht hv) (Bm ht hu) hs)
   .cases hf
  .cases hf
 | extract x i=>
  rw[ho]at hf;simp only[Al,Bw]at hf;split at hf
  .rename_i vs hx;have hxr:=Bm ht hx;cases hxe:a.eval x <;> rw[hxe]at hxr <;> cases hxr
   rename_i xs s h2;refine DZ (s:=Instr.extract (.tuple xs) i) sim (by simp[execOp,ho,hxe]) hf (fun v hv => ?_);have hlt:=(Ae.1 hv).1;have hy:xs[i]? = some xs[i]:=E6 (by omega);exact⟨xs[i],by simp[Instr.extract,hy],h2 i v _ hv hy⟩
  .cases hf
 | panic x=>
  rw[ho]at hf;simp only[Al,EH]at hf;split at hf
  .rename_i ty v hx;simp only[AN]at hf;subst hf;have hxr:=Bm ht hx;cases hxe:a.eval x <;> rw[hxe]at hxr <;> cases hxr
   rename_i y hy;intro K Q hK;unfold Oper.wp;have hr:(execOp a.eval o).run P w=.halt (.panic (.iface ty y)) w:=(by simp[execOp,ho,hxe,Instr.panic]);rw[hr,Oper.upon_panic];exact hK g w _ (Le.refl g) sim (.iface true ty v y hy)
  .cases hf
 | call c=>
  rw[ho]at hf;obtain⟨callee,args,ats⟩:=c;cases callee with
  | value f=>exact UW F hC hP sim ht ho hf
  | builtin b=>exact PZ F sim ht ho hf
  | invoke=>simp[Al]at hf
 | _=>rw[ho]at hf;simp[Al]at hf
end
mutual
theorem AV.beq_eq:∀{a b:AV},AV.beq a b=true->a=b
 | .undef,b,h=>by cases b <;> simp_all[AV.beq]
 | .bool _,b,h=>by cases b <;> simp_all[AV.beq]
 | .int _ _,b,h=>by cases b <;> simp_all[AV.beq]
 | .str _,b,h=>by cases b <;> simp_all[AV.beq]
 | .ED,b,h=>by cases b <;> simp_all[AV.beq]
 | .ro cs,b,h=>by
  cases b <;> simp only[AV.beq,ES]at h
  rw[HU h]
 | .hp _ _,b,h=>by cases b <;> simp_all[AV.beq]
 | .ep ..,b,h=>by cases b <;> simp_all[AV.beq]
 | .AH,b,h=>by cases b <;> simp_all[AV.beq]
 | .sl sz ex es,b,h=>by
  cases b <;> simp only[AV.beq,ES,BU,Bl,beq_iff_eq]at h
  rw[h.1.1,h.1.2,M5 h.2]
 | .hs ..,b,h=>by cases b <;> simp_all[AV.beq]
 | .Ga,b,h=>by cases b <;> simp_all[AV.beq]
 | .hm _,b,h=>by cases b <;> simp_all[AV.beq]
 | .fn f fs cs,b,h=>by
  cases b <;> simp only[AV.beq,ES,BU,Bl]at h
  rw[h.1.1,HU h.1.2,HU h.2]
 | .Gc,b,h=>by cases b <;> simp_all[AV.beq]
 | .iface t v,b,h=>by
  cases b <;> simp only[AV.beq,ES,BU,Bl]at h
  rw[h.1,AV.beq_eq h.2]
 | .I7,b,h=>by cases b <;> simp_all[AV.beq]
 | .agg cs,b,h=>by
  cases b <;> simp only[AV.beq,ES]at h
  rw[HU h]
 | .tup cs,b,h=>by
  cases b <;> simp only[AV.beq,ES]at h
  rw[HU h]
theorem HU:∀{a b:List AV},KG a b=true->a=b
 | [],b,h=>by cases b <;> simp_all[KG]
 | x::r,b,h=>by
  cases b <;> simp only[KG,ES,BU]at h
  rw[AV.beq_eq h.1,HU h.2]
theorem M5:∀{a b:List (List AV)},Kw a b=true->a=b
 | [],b,h=>by cases b <;> simp_all[Kw]
 | x::r,b,h=>by
  cases b <;> simp only[Kw,ES,BU]at h
  rw[HU h.1,M5 h.2]
end
theorem QQ:∀{a b:List (AV×AV)},L4 a b=true->a=b
 | [],b,h=>by cases b <;> simp_all[L4]
 | (x,y)::r,b,h=>by
  cases b with
  | nil=>simp[L4]at h
  | cons q s=>
   obtain⟨u,v⟩:=q;simp only[L4,BU]at h;rw[AV.beq_eq h.1.1,AV.beq_eq h.1.2,QQ h.2]
theorem Blk.beq_eq{a b:Blk}(h:Blk.beq a b=true):a=b:=by
 cases a <;> cases b <;> simp only[Blk.beq,ES,BU,Bl,beq_iff_eq]at h
 .rw[h.1,HU h.2]
 .rw[h.1.1,h.1.2,M5 h.2]
 .rw[QQ h]
 .rfl
theorem M6:∀{k:Nat} {s:AF} {j:Nat},j<s.length->k+j∈JO k s
 | k,[],j,h=>by simp at h
 | k,_::r,0,_=>by simp[JO]
 | k,_::r,j+1,h=>by
  have:=M6 (k:=k+1) (s:=r) (j:=j) (by simpa using h);rw[show k+(j+1)=k+1+j by omega];simp[JO,this]
theorem Jz:∀{k:Nat} {h h':AF} {j:Nat},k+j ∉ Da k h h'->h'[j]? = h[j]?
 | k,[],s,j,hn=>by
  simp only[Da]at hn;by_cases hj:j<s.length
  .exact absurd (M6 hj) hn
  .simp[P9 (Nat.le_of_not_lt hj)]
 | k,b::r,[],j,hn=>by
  simp only[Da,Cd,not_or]at hn;cases j with
  | zero=>exact absurd rfl hn.1
  | succ j=>
   have:=Jz (k:=k+1) (h:=r) (h':=[]) (j:=j) (by rw[show k+1+j=k+(j+1) by omega];exact hn.2);simpa using this
 | k,b::r,c::s,j,hn=>by
  simp only[Da]at hn;split at hn
  .rename_i he;cases j with
   | zero=>simp[Blk.beq_eq he]
   | succ j=>
    have:=Jz (k:=k+1) (h:=r) (h':=s) (j:=j) (by rw[show k+1+j=k+(j+1) by omega];exact hn);simpa using this
  .simp only[Cd,not_or]at hn;cases j with
   | zero=>exact absurd rfl hn.1
   | succ j=>
    have:=Jz (k:=k+1) (h:=r) (h':=s) (j:=j) (by rw[show k+1+j=k+(j+1) by omega];exact hn.2);simpa using this
theorem V2{t t':Tm}{x:Operand}(h:∀ d,x=.tmp d->t.get d=t'.get d):ev t x=ev t' x:=by
 cases x with
 | tmp d=>simp[ev,h d rfl]
 | _=>rfl
theorem Gn{t t':Tm}:∀{xs:List Operand},(∀ x∈xs,ev t x=ev t' x)->evs t xs=evs t' xs
 | [],_=>rfl
 | x::r,h=>by
  simp only[evs];rw[h x (by simp),Gn (fun y hy=>h y (by simp[hy]))]
theorem Rx{M:Par}{fid:Nat}{C:CH}{t t':Tm}{op:Op}{h:AF}(hx:∀ x∈op.operands.toList,ev t x=ev t' x):Al M fid C t op h=Al M fid C t' op h:=by
 have hb:∀ x:Option Operand,(∀ y,x=some y->ev t y=ev t' y)->x.bind (ev t)=x.bind (ev t'):=fun x hx=>by
  cases x with
  | none=>rfl
  | some y=>exact hx y rfl
 cases op <;> try rfl
 case move x=>simp only[Al,GV,hx x (by simp[Op.operands])]
 case assign x=>simp only[Al,GV,hx x (by simp[Op.operands])]
 case pick c x y=>simp only[Al,FF,hx c (by simp[Op.operands]),hx x (by simp[Op.operands]),hx y (by simp[Op.operands])]
 case box e x=>simp only[Al,HE,hx x (by simp[Op.operands])]
 case build ty ps=>simp only[Al,D4];rw[Gn (fun x h=>hx x (by simpa[Op.operands]using h))]
 case buildSlice ty n ps=>simp only[Al,Ax];rw[Gn (fun x h=>hx x (by simpa[Op.operands]using h))]
 case load ty x=>simp only[Al,FB,hx x (by simp[Op.operands])]
 case store ty x y=>simp only[Al,EG,hx x (by simp[Op.operands]),hx y (by simp[Op.operands])]
 case nilCheck x=>simp only[Al,HF,hx x (by simp[Op.operands])]
 case binOp op ty x y z=>simp only[Al,HG,hx x (by simp[Op.operands]),hx y (by simp[Op.operands])]
 case unOp op ty x=>simp only[Al,xUn,hx x (by simp[Op.operands])]
 case convert src dst x=>simp only[Al,E7,hx x (by simp[Op.operands])]
 case makeInterface ty x=>simp only[Al,D5,hx x (by simp[Op.operands])]
 case makeFunc f first cap=>
  cases f <;> try rfl
  simp only[Al,FG];rw[Gn (fun x h=>hx x (by simp[Op.operands];exact .inl (by simpa using h))),Gn (xs:=cap.toList) (fun x h=>hx x (by simp[Op.operands];exact .inr (by simpa using h)))]
 case makeMap ty r=>cases r <;> rfl
 case makeSlice ty x y=>simp only[Al,BF,hx x (by simp[Op.operands]),hx y (by simp[Op.operands])]
 case slice ty x lo hi mx=>
  have h1:=hb lo (fun y hy=>hx y (by simp[Op.operands,hy]));have h2:=hb hi (fun y hy=>hx y (by simp[Op.operands,hy]));have h3:=hb mx (fun y hy=>hx y (by simp[Op.operands,hy]));have h4:evs t (lo.toList++hi.toList++mx.toList)=evs t' (lo.toList++hi.toList++mx.toList):=Gn (fun y hy=>hx y (by
   simp only[Op.operands];cases lo <;> cases hi <;> cases mx <;> simp_all))
  simp only[Al,DH,hx x (by simp[Op.operands]),h1,h2,h3,h4]
 case fieldAddr ty x f=>simp only[Al,BG,hx x (by simp[Op.operands])]
 case field ty x f=>simp only[Al,D6,hx x (by simp[Op.operands])]
 case indexAddr ty x y=>simp only[Al,BH,hx x (by simp[Op.operands]),hx y (by simp[Op.operands])]
 case index ty x y=>simp only[Al,D7,hx x (by simp[Op.operands]),hx y (by simp[Op.operands])]
 case lookup ty x y ok=>simp only[Al,Ce,hx x (by simp[Op.operands]),hx y (by simp[Op.operands])]
 case mapUpdate ty m k x=>simp only[Al,CX,hx m (by simp[Op.operands]),hx k (by simp[Op.operands]),hx x (by simp[Op.operands])]
 case insert ty m k x=>simp only[Al,CX,hx m (by simp[Op.operands]),hx k (by simp[Op.operands]),hx x (by simp[Op.operands])]
 case extract x i=>simp only[Al,Bw,hx x (by simp[Op.operands])]
 case panic x=>simp only[Al,EH,hx x (by simp[Op.operands])]
 case call c=>
  obtain⟨callee,args,ats⟩:=c;have ha:evs t args.toList=evs t' args.toList:=Gn (fun x h=>hx x (by simp[Op.operands,Call.operands];exact .inr (by simpa using h)));cases callee with
  | value f=>simp only[Al,Ej,ha,hx f (by simp[Op.operands,Call.operands])]
  | builtin b=>simp only[Al,BJ,ha]
  | invoke=>rfl
theorem JY:∀{args:List AV} {h:AF},args.all AV.AA=true->A4 args h=some (args,h)
 | [],h,_=>rfl
 | v::r,h,hn=>by
  simp only[JL,BU]at hn;simp only[A4,hn.1,JY hn.2]
theorem K5{M:Par}{C:CH}{f:FuncId}{args:List AV}{h h':AF}{r:CR}(hf:(M.mode f).fresh=true)(hk:(M.mode f).keepTop=false)(hn:args.all AV.AA=true)(hd:AI M C f args h=some (r,h')) :
 h'=h/\∀ h2,AI M C f args h2=some (r,h2):=by
 unfold AI at hd ⊢;simp only[hf,JY hn,hn,hk]at hd ⊢;split at hd
 .rename_i v hr hc;simp only[DG]at hd ⊢;split at hd
  .rename_i v' h'' hcl;simp only[AN,Bk]at hd;obtain⟨rfl,rfl⟩:=hd;split at hcl
   .rename_i v2 h2 hs;split at hcl
    .rename_i hvn;simp only[AN,Bk]at hcl;obtain⟨rfl,rfl⟩:=hcl;exact⟨rfl,fun h2=>by simp only[hvn]⟩
    .cases hcl
   .cases hcl
  .cases hd
 .rename_i v hr hc;split at hd
  .simp only[AN,Bk]at hd;obtain⟨rfl,rfl⟩:=hd;exact⟨rfl,fun h2=>rfl⟩
  .cases hd
 .cases hd
theorem Aw{h h' h2:AF}{v:AV}{q:Option AV}(hf:OR.ofV h q=some (.val v h')):h'=h/\OR.ofV h2 q=some (.val v h2):=by
 cases q with
 | none=>cases hf
 | some x=>
  simp only[OR.ofV,AN,OR.val.injEq]at hf;exact⟨hf.2.symm,by simp[OR.ofV,hf.1]⟩
theorem Pa{h':AF}{v:AV}{q:Option (AV×AF)}(hf:OR.Dz q=some (.val v h')):q=some (v,h'):=by
 cases q with
 | none=>cases hf
 | some x=>obtain⟨x,y⟩:=x;simp only[OR.Dz,AN,OR.val.injEq]at hf;rw[hf.1,hf.2]
theorem TF{h:AF}{b:Blk}:Nat.beq h.length (h++[b]).length=false:=by
 cases hh:Nat.beq h.length (h++[b]).length with
 | false=>rfl
 | true=>have:=Bl.1 hh;simp at this
theorem V3{p:AV}{h h2:AF}(hb:∀ id,E8 p=some id->h2[id]? = h[id]?):D2 h2 p=D2 h p:=by
 cases p with
 | hp id off=>simp only[D2,hb id rfl]
 | ep id gen sz i k=>simp only[D2,hb id rfl]
 | _=>rfl
theorem Yv{t:Tm}{l:List Operand}{x:AV}(h:evs t l=some [x]):∃ y,l=[y]/\ev t y=some x:=by
 match l,h with
 | [],h=>simp[evs]at h
 | [y],h=>
  simp only[evs]at h;split at h
  .rename_i a b ha hb;simp only[AN]at hb h;subst hb;simp only[List.cons.injEq,and_true]at h;exact⟨y,rfl,by rw[ha,h]⟩
  .cases h
 | y::z::r,h=>
  simp only[evs]at h;split at h
  .rename_i a b ha hb;split at hb
   .simp only[AN]at hb h;subst hb;simp at h
   .cases hb
  .cases h
theorem Lp{M:Par}{fid:Nat}{C:CH}{t:Tm}{op:Op}{h h':AF}{v:AV}(hf:Al M fid C t op h=some (.val v h')){k:Kd}(hk:FH M t op h h'=k) :
 (match k with
  | .st=>h'=h/\∀ h2,Al M fid C t op h2=some (.val v h2)
  | .ld id=>h'=h/\∀ h2,h2[id]? = h[id]? -> Al M fid C t op h2=some (.val v h2)
  | .ch m=>∀ id,id ∉ m->h'[id]? = h[id]?):=by
 have chm:∀ id,id ∉ Da 0 h h'->h'[id]? = h[id]? := fun id hid=>Jz (k:=0) (by simpa using hid)
 have new:∀(b:Blk) id,id ∉ [h.length]->(h++[b])[id]? = h[id]? := fun b id hid=>by
  simp only[List.mem_singleton]at hid;by_cases hl:id<h.length
  .rw[BA hl]
  .rw[P9 (by simp;omega),P9 (by omega)]
 cases op <;> simp only[FH]at hk
 case move x=>subst hk;exact⟨(Aw (h2:=h) hf).1,fun h2=>(Aw hf).2⟩
 case assign x=>subst hk;exact⟨(Aw (h2:=h) hf).1,fun h2=>(Aw hf).2⟩
 case pick c x y=>
  subst hk;simp only[Al,FF]at hf ⊢;split at hf
  .exact⟨(Aw (h2:=h) hf).1,fun h2=>(Aw hf).2⟩
  .exact⟨(Aw (h2:=h) hf).1,fun h2=>(Aw hf).2⟩
  .cases hf
 case alloc e=>
  subst hk;simp only[Al,EF]at hf;split at hf
  .simp only[AN,OR.val.injEq]at hf;obtain⟨_,rfl⟩:=hf;exact new _
  .cases hf
 case box e x=>
  subst hk;simp only[Al,HE]at hf;split at hf
  .simp only[AN,OR.val.injEq]at hf;obtain⟨_,rfl⟩:=hf;exact new _
  .cases hf
 case makeMap ty r=>
  subst hk;cases r with
  | none=>
   simp only[Al,AN,OR.val.injEq]at hf;obtain⟨_,rfl⟩:=hf;exact new _
  | some r=>simp[Al]at hf
 case makeSlice ty x y=>
  subst hk;simp only[Al,BF]at hf;split at hf
  .have hq:=Pa hf;unfold Iq at hq;split at hq
   .split at hq
    .split at hq
     .simp only[A3,AN,Bk]at hq;obtain⟨_,rfl⟩:=hq;exact new _
     .cases hq
    .cases hq
   .cases hq
  .cases hf
 case build ty ps=>
  subst hk;simp only[Al,D4]at hf ⊢;split at hf
  .exact⟨(Aw (h2:=h) hf).1,fun h2=>(Aw hf).2⟩
  .cases hf
 case buildSlice ty n ps=>
  simp only[Al,Ax]at hf;split at hf
  .rename_i vs hvs;have hq:=Pa hf;have hq0:=hq;unfold Ag at hq;split at hq
   .rename_i e hu;split at hq
    .rename_i zero hc hz;split at hq
     .rename_i hzl;split at hq
      .rename_i es hfe;split at hq
       .rename_i hm;simp only[AN,Bk]at hq;obtain⟨rfl,rfl⟩:=hq;rw[JM]at hk;subst hk;refine⟨rfl,fun h2 => ?_⟩;simp only[Al,Ax,hvs,Ag,hu,hc,hz,hzl,hfe,hm,OR.Dz]
       .simp only[A3,AN,Bk]at hq;obtain⟨_,rfl⟩:=hq;rw[TF]at hk;subst hk;exact new _
      .cases hq
     .cases hq
    .cases hq
   .cases hq
  .cases hf
 case load ty x=>
  simp only[Al,FB]at hf;split at hf
  .rename_i p hp;have h1:=Aw (h2:=h) hf;have key:∀ h2,(∀ id,E8 p=some id->h2[id]? = h[id]?)->Al M fid C t (.load ty x) h2=some (.val v h2):=fun h2 hb=>by
    have:CL M.ty h2 ty p=CL M.ty h ty p:=(by unfold CL;rw[V3 hb]);simp only[Al,FB,hp,this];exact(Aw hf).2
   rw[hp]at hk;cases hb:E8 p with
   | none=>
    simp only[DI,KL,hb]at hk;subst hk;exact⟨h1.1,fun h2=>key h2 (fun id hid=>by rw[hb]at hid;cases hid)⟩
   | some id=>
    simp only[DI,KL,hb]at hk;subst hk;exact⟨h1.1,fun h2 he=>key h2 (fun id' hid=>by rw[hb]at hid;cases hid;exact he)⟩
  .cases hf
 case store=>subst hk;exact chm
 case mapUpdate=>subst hk;exact chm
 case insert=>subst hk;exact chm
 case panic=>subst hk;exact chm
 case nilCheck x=>
  subst hk;simp only[Al,HF]at hf ⊢;split at hf
  all_goals first
   | (cases hf;done)
   | (rename_i hx
      simp only[AN,OR.val.injEq]at hf;obtain⟨rfl,rfl⟩:=hf;simp only[hx];exact⟨trivial,fun _=>trivial⟩)
   | skip
 case binOp op ty x y z=>
  subst hk;simp only[Al,HG]at hf ⊢;split at hf
  .exact⟨(Aw (h2:=h) hf).1,fun h2=>(Aw hf).2⟩
  .cases hf
 case unOp op ty x=>
  subst hk;simp only[Al,xUn]at hf ⊢;split at hf
  .exact⟨(Aw (h2:=h) hf).1,fun h2=>(Aw hf).2⟩
  .cases hf
 case convert src dst x=>
  simp only[Al,E7]at hf;split at hf
  .rename_i p hp;have hq:=Pa hf;unfold Gz at hq;split at hq
   .rename_i h1 h2 ;simp only[AN,Bk]at hq;obtain⟨rfl,rfl⟩:=hq;rw[JM]at hk;subst hk;refine⟨rfl,fun h2 => ?_⟩;simp_all[Al,E7,Gz,OR.Dz]
   .simp only[AN,Bk]at hq;obtain⟨rfl,rfl⟩:=hq;rw[JM]at hk;subst hk;refine⟨rfl,fun h2 => ?_⟩;simp_all[Al,E7,Gz,OR.Dz]
   .split at hq
    .simp only[A3,AN,Bk]at hq;obtain⟨_,rfl⟩:=hq;rw[TF]at hk;subst hk;exact new _
    .cases hq
   .cases hq
  .cases hf
 case makeInterface ty x=>
  subst hk;simp only[Al,D5]at hf ⊢;split at hf
  .cases hf
  .simp only[AN,OR.val.injEq]at hf;obtain⟨rfl,rfl⟩:=hf;exact⟨rfl,fun h2=>rfl⟩
  .cases hf
 case makeFunc f first cap=>
  subst hk;cases f <;> simp only[Al,reduceCtorEq]at hf ⊢
  simp only[FG]at hf ⊢;split at hf
  .simp only[AN,OR.val.injEq]at hf;obtain⟨rfl,rfl⟩:=hf;exact⟨rfl,fun h2=>rfl⟩
  .cases hf
 case slice ty x lo hi mx=>
  subst hk;simp only[Al,DH]at hf ⊢;split at hf
  .exact⟨(Aw (h2:=h) hf).1,fun h2=>(Aw hf).2⟩
  .cases hf
 case fieldAddr ty x f=>
  subst hk;simp only[Al,BG]at hf ⊢;split at hf
  .exact⟨(Aw (h2:=h) hf).1,fun h2=>(Aw hf).2⟩
  .cases hf
 case field ty x f=>
  subst hk;simp only[Al,D6]at hf ⊢;split at hf
  .exact⟨(Aw (h2:=h) hf).1,fun h2=>(Aw hf).2⟩
  .cases hf
 case indexAddr ty x f=>
  subst hk;simp only[Al,BH]at hf ⊢;split at hf
  .exact⟨(Aw (h2:=h) hf).1,fun h2=>(Aw hf).2⟩
  .cases hf
 case index ty x f=>
  subst hk;simp only[Al,D7]at hf ⊢;split at hf
  .exact⟨(Aw (h2:=h) hf).1,fun h2=>(Aw hf).2⟩
  .cases hf
 case lookup ty x i ok=>
  simp only[Al,Ce]at hf;split at hf
  .rename_i p q hp hq;have h1:=Aw (h2:=h) hf;have key:∀ h2,(∀ id,E8 p=some id->h2[id]? = h[id]?)->Al M fid C t (.lookup ty x i ok) h2=some (.val v h2):=fun h2 hb=>by
    have:HS M.ty ty p q ok h2=HS M.ty ty p q ok h:=by
     unfold HS;cases p <;> try rfl
     rename_i id;simp only[hb id rfl]
    simp only[Al,Ce,hp,hq,this];exact(Aw hf).2
   rw[hp]at hk;cases hb:E8 p with
   | none=>
    simp only[DI,KL,hb]at hk;subst hk;exact⟨h1.1,fun h2=>key h2 (fun id hid=>by rw[hb]at hid;cases hid)⟩
   | some id=>
    simp only[DI,KL,hb]at hk;subst hk;exact⟨h1.1,fun h2 he=>key h2 (fun id' hid=>by rw[hb]at hid;cases hid;exact he)⟩
  .cases hf
 case extract x i=>
  subst hk;simp only[Al,Bw]at hf ⊢;split at hf
  .exact⟨(Aw (h2:=h) hf).1,fun h2=>(Aw hf).2⟩
  .cases hf
 case call c=>
  obtain⟨callee,args,ats⟩:=c;cases callee with
  | invoke=>simp[Al]at hf
  | value f=>
   simp only[Al,Ej]at hf;split at hf
   .rename_i g fs cap vs hev hevs;simp only[hev,hevs]at hk;split at hk
    .rename_i hc;subst hk;simp only[L3,P6,BU,IA]at hc;split at hf
     .rename_i p hp;refine⟨(Aw (h2:=h) hf).1,fun h2 => ?_⟩;simp only[Al,Ej,hev,hevs,hp];exact(Aw hf).2
     .rename_i hp;rcases hc with⟨p,hc⟩ | ⟨⟨hc1,hc2⟩,hc3⟩
      .rw[hp]at hc;cases hc
      .cases hq:AI M C g (fs++vs++cap) h with
       | none=>rw[hq]at hf;cases hf
       | some rh=>
        obtain⟨r,h1⟩:=rh;obtain⟨e1,e2⟩:=K5 hc1 hc2 hc3 hq;rw[hq]at hf;cases r with
        | pan=>simp[OR.ofC]at hf
        | ret u=>
         simp only[OR.ofC,AN,OR.val.injEq]at hf;obtain⟨rfl,rfl⟩:=hf;refine⟨e1,fun h2 => ?_⟩;simp only[Al,Ej,hev,hevs,hp,e2 h2,OR.ofC]
    .subst hk;exact chm
   .cases hf
  | builtin b=>
   have hst:∀ q:AF->Option AV,(∀ h2,Al M fid C t (.call { callee:=.builtin b,args:=args,argTypes:=ats }) h2=OR.ofV h2 (q h2))->(∀ h2,q h2=q h)->h'=h/\∀ h2,Al M fid C t (.call { callee:=.builtin b,args:=args,argTypes:=ats }) h2=some (.val v h2):=fun q h1 h2=>by
    rw[h1]at hf;refine⟨(Aw (h2:=h) hf).1,fun h3 => ?_⟩;rw[h1,h2];exact(Aw hf).2
   cases b with
   | max=>
    simp only at hk;subst hk;refine hst (fun _=>(evs t args.toList).bind Vj) (fun h2 => ?_) (fun _=>rfl);simp only[Al,BJ];cases evs t args.toList <;> rfl
   | min=>
    simp only at hk;subst hk;refine hst (fun _=>(evs t args.toList).bind Vk) (fun h2 => ?_) (fun _=>rfl);simp only[Al,BJ];cases evs t args.toList <;> rfl
   | len=>
    simp only at hk;simp only[Al,BJ]at hf;split at hf
    .rename_i vs hvs
     match vs,hvs,hf with
     | [],_,hf=>cases hl:ats.toList <;> rw[hl]at hf <;> cases hf
     | _::_::_,_,hf=>cases hl:ats.toList <;> rw[hl]at hf <;> cases hf
     | [x],hvs,hf=>
      obtain⟨y,hy1,hy2⟩:=Yv hvs;have hx:(args[0]?).bind (ev t)=some x:=(by rw[<- Array.getElem?_toList,hy1];simp[hy2]);rw[hx]at hk;have key:∀ h2,(∀ id,x=.hm id->h2[id]? = h[id]?)->Al M fid C t (.call { callee:=.builtin .len,args:=args,argTypes:=ats }) h2=some (.val v h2)/\h'=h:=fun h2 hb=>by
       simp only[Al,BJ,hvs];cases hl:ats.toList with
       | nil=>rw[hl]at hf;cases hf
       | cons t0 u0=>
        rw[hl]at hf;simp only[Ad]at hf ⊢;split at hf
        case h_6 id hu=>
         rw[hb id rfl];split at hf
         .simp only[AN,OR.val.injEq]at hf ⊢;exact⟨⟨hf.1,trivial⟩,hf.2.symm⟩
         .cases hf
        all_goals first
         | (cases hf;done)
         | (simp only[AN,OR.val.injEq]at hf ⊢
            exact⟨⟨hf.1,trivial⟩,hf.2.symm⟩)
      cases x with
      | hm id=>
       simp only at hk;subst hk;exact⟨(key h (fun _ _=>rfl)).2,fun h2 he=>(key h2 (fun id' hid=>by cases hid;exact he)).1⟩
      | _=>simp only at hk;subst hk;exact⟨(key h (fun _ _=>rfl)).2,fun h2=>(key h2 (fun id' hid=>by cases hid)).1⟩
    .cases hf
   | _=>simp only at hk;subst hk;exact chm
 all_goals (first | (simp[Al]at hf;done) | skip)
theorem OT(acc:Array Nat):∀(l:List Edge) (s i:Nat),(l.foldl (fun s e=>if Region.binds .any e then s ||| 2 ^ e.on ||| acc.getD e.on 0 else s) s).testBit i=true ->
 s.testBit i=true\/∃ e∈l,Region.binds .any e=true/\(e.on=i\/(acc.getD e.on 0).testBit i=true)
 | [],s,i,h=> .inl h
 | e::l,s,i,h=>by
  simp only[Mm]at h;rcases OT acc l _ i h with h | ⟨e',he',hb,hh⟩
  .split at h
   .rename_i hb;simp only[Nat.testBit_or,Nat.testBit_two_pow,L3,decide_eq_true_eq]at h;rcases h with(h | h) | h
    .exact .inl h
    .exact .inr ⟨e,by simp,hb,.inl h⟩
    .exact .inr ⟨e,by simp,hb,.inr h⟩
   .exact .inl h
  .exact .inr ⟨e',by simp[he'],hb,hh⟩
def rowOf(acc:Array Nat)(o:Oper):Nat:=o.after.foldl (fun s e=>if Region.binds .any e then s ||| 2 ^ e.on ||| acc.getD e.on 0 else s) 0
theorem OU:∀(l:List Oper) (acc:Array Nat),(l.foldl (fun acc o=>acc.push (rowOf acc o)) acc).size=acc.size+l.length /\
 (∀ k,k<acc.size->(l.foldl (fun acc o=>acc.push (rowOf acc o)) acc)[k]? = acc[k]?) /\
 (∀(j:Nat) o,l[j]? = some o->∃ acc':Array Nat,acc'.size=acc.size+j/\(l.foldl (fun acc o=>acc.push (rowOf acc o)) acc)[acc.size+j]? = some (rowOf acc' o) /\
   ∀ k,k<acc'.size->(l.foldl (fun acc o=>acc.push (rowOf acc o)) acc)[k]? = acc'[k]?)
 | [],acc=>⟨rfl,fun _ _=>rfl,fun j o h=>by simp at h⟩
 | x::l,acc=>by
  obtain⟨h1,h2,h3⟩:=OU l (acc.push (rowOf acc x));simp only[Mm,D8];have hsz:(acc.push (rowOf acc x)).size=acc.size+1:=by simp
  refine⟨by rw[h1,hsz];omega,fun k hk => ?_,fun j o hj => ?_⟩
  .rw[h2 k (by omega),OG,if_neg (by omega)]
  .cases j with
   | zero=>
    simp only[HJ,AN]at hj;subst hj;refine⟨acc,rfl,?_,fun k hk => ?_⟩
    .rw[IZ,h2 acc.size (by omega)];simp
    .rw[h2 k (by omega),OG,if_neg (by omega)]
   | succ j=>
    obtain⟨acc',a1,a2,a3⟩:=h3 j o (by simpa using hj);refine⟨acc',by omega,?_,a3⟩;rw[show acc.size+(j+1)=(acc.push (rowOf acc x)).size+j by omega];exact a2
theorem Ry{ops:Array Oper}{i j:Nat}(h:((Region.before ops).getD j 0).testBit i=true) :
 ∃ o,ops[j]? = some o/\∃ e∈o.after.toList,Region.binds .any e=true/\(e.on=i\/((Region.before ops).getD e.on 0).testBit i=true):=by
 have hb:Region.before ops=ops.toList.foldl (fun acc o=>acc.push (rowOf acc o)) #[]:=by
  unfold Region.before;rw[<- Array.foldl_toList];rfl
 obtain⟨h1,h2,h3⟩:=OU ops.toList #[];rw[<- hb]at h1 h3;simp only[KJ,OH,IB,D1]at h1 h3;by_cases hj:j<ops.size
 .have ho:ops[j]? = some ops[j]:=E6 hj;obtain⟨acc',a1,a2,a3⟩:=h3 j ops[j] (by simp);refine⟨ops[j],ho,?_⟩;rw[Gy,a2,GQ,rowOf,<- Array.foldl_toList]at h;rcases OT acc' _ _ _ h with h | ⟨e,he,hbd,hh⟩
  .simp at h
  .refine⟨e,he,hbd,hh.imp id fun hh => ?_⟩;by_cases hk:e.on<acc'.size
   .rw[Gy,a3 _ hk,<- Gy];exact hh
   .rw[Gy,Array.getElem?_eq_none (by omega)]at hh;simp at hh
 .rw[Gy,Array.getElem?_eq_none (by omega)]at h;simp at h
def El(l:Array Bool)(i:Nat):Prop:=l.getD i false=true
def UX(ops:Array Oper)(l:Array Bool):Prop:=∀ j,El l j->∀ i,((Region.before ops).getD j 0).testBit i=true->El l i
theorem Gp{l:Array Bool}{i j:Nat}(hi:i<l.size):El (l.setIfInBounds i true) j↔j=i\/El l j:=by
 unfold El;simp only[Gy];by_cases h:i=j
 .subst h;simp[OB,hi]
 .rw[OA h];constructor
  .exact .inr
  .rintro(e | h')
   .exact absurd e.symm h
   .exact h'
theorem Ib{ops:Array Oper}{l:Array Bool}(hs:l.size=ops.size){i:Nat}(h:i∈Region.ready .any ops l) :
 ∃ o,ops[i]? = some o/\i<ops.size/\¬ El l i/\∀ e∈o.after.toList,Region.binds .any e=true->El l e.on:=by
 simp only[Region.ready,JI,JJ,BU,IA]at h;obtain⟨h1,h2,h3⟩:=h;have ho:ops[i]? = some ops[i]:=E6 h1;rw[ho]at h3;simp only[E0,GQ,Array.all_eq_true_iff_forall_mem]at h3;refine⟨ops[i],ho,h1,?_,fun e he hb => ?_⟩
 .unfold El;rw[Gy]at h2 ⊢;have:i<l.size:=by omega
  rw[E6 this]at h2 ⊢;simp at h2 ⊢;exact h2
 .have:=h3 e (by simpa using he);simp only[hb,KU,JK]at this;exact this
theorem Rz{ops:Array Oper}{l:Array Bool}(hs:l.size=ops.size)(he:PS ops=true){i:Nat}(hi:i<ops.size)(hn:¬ El l i):∃ j,j∈Region.ready .any ops l:=by
 induction i using Nat.strongRecOn with
 | ind i ih=>
  by_cases hall:∀ j,j<i->El l j
  .refine⟨i,?_⟩;have ho:ops[i]? = some ops[i]:=E6 hi;simp only[Region.ready,JI,JJ,BU,IA,ho,E0,GQ,Array.all_eq_true_iff_forall_mem];refine⟨hi,?_,fun e he' => ?_⟩
   .unfold El at hn;rw[Gy]at hn ⊢;have:i<l.size:=(by omega);rw[E6 this]at hn ⊢;simpa using hn
   .have:=D0.1 he i (by simp[hi]);rw[ho]at this;have h2:=D0.1 this e (by simpa using he');cases hb:Region.binds .any e with
    | false=>rfl
    | true=>
     rw[hb]at h2;simp only[KU,JK]at h2;have:=hall e.on (FQ.1 h2);unfold El at this;rw[this];simp
  .obtain⟨j,hj⟩:=Classical.not_forall.1 hall;have hj1:j<i:=Classical.byContradiction fun h=>hj (fun h'=>absurd h' h)
   exact ih j hj1 (by omega) (fun h=>hj (fun _=>h))
theorem UX.ready{ops:Array Oper}{l:Array Bool}(h:UX ops l)(hs:l.size=ops.size){i:Nat}(hi:i∈Region.ready .any ops l):∀ k,((Region.before ops).getD i 0).testBit k=true->El l k:=by
 intro k hk;obtain⟨o,ho,_,_,hr⟩:=Ib hs hi;obtain⟨o',ho',e,he,hb,hh⟩:=Ry hk;rw[ho]at ho';cases ho';have:=hr e he hb;rcases hh with rfl | hh
 .exact this
 .exact h _ this _ hh
theorem UX.next{ops:Array Oper}{l:Array Bool}(h:UX ops l)(hs:l.size=ops.size){i:Nat}(hi:i∈Region.ready .any ops l):UX ops (l.setIfInBounds i true):=by
 intro j hj k hk;obtain⟨o,ho,hlt,_,hr⟩:=Ib hs hi;rw[Gp (by omega)]at hj ⊢;rcases hj with rfl | hj
 .exact .inr (h.ready hs hi k hk)
 .exact .inr (h _ hj _ hk)
theorem HV{ops:Array Oper}(h:PR ops=true){i j:Nat}{a b:Oper}(hij:i<j)(ha:ops[i]? = some a)(hb:ops[j]? = some b) :
 ((Region.before ops).getD j 0).testBit i=true\/((∀ d,a.dst=some d->d ∉ looks ops b)/\(∀ d,b.dst=some d->d ∉ looks ops a)/\∀ d,a.dst=some d->b.dst≠some d):=by
 have hj:j<ops.size:=(Kn.1 hb).1;have h1:=D0.1 h j (by simp[hj]);have h2:=D0.1 h1 i (by simp[hij]);rw[ha,hb]at h2;simp only[L3,IA,Bool.or_eq_false_iff]at h2;rcases h2 with h2 | ⟨⟨h3,h4⟩,h5⟩
 .exact .inl h2
 .refine .inr ⟨fun d hd hm => ?_,fun d hd hm => ?_,fun d hd hd' => ?_⟩
  .simp only[isDst,hd]at h3;rw[P7 hm]at h3;cases h3
  .simp only[isDst,hd]at h4;rw[P7 hm]at h4;cases h4
  .simp only[S6,hd,hd',JM]at h5;cases h5
theorem M7(a:Kd):BN .st a=false/\BN a .st=false:=by cases a <;> exact⟨rfl,rfl⟩
theorem QR:∀{ks:List Kd} {k i:Nat} {x:Kd},ks[i]? = some x->x≠.st->(k+i,x)∈Bt k ks
 | [],_,_,_,h,_=>by simp at h
 | y::r,k,0,x,h,hx=>by
  simp only[HJ,AN]at h;subst h;cases y with
  | st=>exact absurd rfl hx
  | _=>simp[Bt]
 | y::r,k,i+1,x,h,hx=>by
  have:=QR (k:=k+1) (i:=i) (ks:=r) (by simpa using h) hx;rw[show k+(i+1)=k+1+i by omega];cases y <;> simp[Bt,this]
theorem K6{bef:Array Nat}:∀{ks:List Kd} {k:Nat},GB bef (Bt k ks)=true->∀{i j:Nat} {x y:Kd},i<j->ks[i]? = some x->ks[j]? = some y->BN x y=true->(bef.getD (k+j) 0).testBit (k+i)=true
 | [],_,_,_,_,_,_,_,h,_,_=>by simp at h
 | z::r,k,h,i,j,x,y,hij,hx,hy,hc=>by
  obtain⟨j,rfl⟩:∃ j',j=j'+1:=⟨j - 1,by omega⟩;have hy':r[j]? = some y:=by simpa using hy
  have hyst:y≠.st:=fun e=>by subst e;rw[(M7 x).2]at hc;cases hc
  cases i with
  | zero=>
   simp only[HJ,AN]at hx;subst hx;have hz:z≠.st:=fun e=>by subst e;rw[(M7 y).1]at hc;cases hc
   have hl:Bt k (z::r)=(k,z)::Bt (k+1) r:=(by cases z <;> first | exact absurd rfl hz | rfl);rw[hl]at h;simp only[GB,BU]at h;have:=D0.1 h.1 _ (QR (k:=k+1) hy' hyst);simp only[hc,KU,JK]at this;rw[show k+(j+1)=k+1+j by omega];exact this
  | succ i=>
   have hr:GB bef (Bt (k+1) r)=true:=by
    cases z with
    | st=>exact h
    | _=>simp only[Bt,GB,BU]at h;exact h.2
   have:=K6 hr (i:=i) (j:=j) (by omega) (by simpa using hx) hy' hc;rw[show k+(j+1)=k+1+j by omega,show k+(i+1)=k+1+i by omega];exact this
theorem G7{ops:Array Oper}{ks:List Kd}(h:Hm ops ks=true){i j:Nat}{x y:Kd}(hij:i<j)(hx:ks[i]? = some x)(hy:ks[j]? = some y)(hc:BN x y=true):((Region.before ops).getD j 0).testBit i=true:=by
 have:=K6 (k:=0) h hij hx hy hc;simpa using this
theorem Ic(t:Tm):∀(l:List Nat) (d:Nat),(d∈l->(t.only l).get d=t.get d)/\(d ∉ l->(t.only l).get d=.undef)
 | [],d=>⟨(fun h=>by cases h),fun _=>rfl⟩
 | e::r,d=>by
  obtain⟨h1,h2⟩:=Ic t r d;simp only[Tm.only,Tm.get];cases hb:Nat.beq e d with
  | true=>
   have:=Bl.1 hb;subst this;exact⟨fun _=>rfl,fun h=>absurd (List.mem_cons_self ..) h⟩
  | false=>
   have hne:e≠d:=fun h=>by rw[Bl.2 h]at hb;cases hb
   exact⟨fun h=>h1 (by rcases Cd.1 h with rfl | h;exact absurd rfl hne;exact h),fun h=>h2 (fun hm=>h (Mh _ hm))⟩
section
variable{M:Par}{P:Program}
theorem V4{g:G}{t:Tm}{a:Act}{N:Nat}(hN:a.tmps.size=N)(ht:EU g t a.tmps){dst:Option Nat}{v:AV}{x:Value}(hv:Rel g true v x){t':Tm}(hp:FP N t dst v=some t') :
 EU g t' (a.put dst x).tmps/\(a.put dst x).tmps.size=N/\(a.put dst x).defers=a.defers:=by
 cases dst with
 | none=>
  simp only[FP,AN]at hp;subst hp;exact⟨ht,hN,rfl⟩
 | some d=>
  simp only[FP]at hp;split at hp
  .rename_i hd;have hd:=FQ.1 hd;simp only[AN]at hp;subst hp;refine⟨fun e => ?_,by simp[Act.put,hN],rfl⟩;simp only[Act.put,Tm.get,Gy];by_cases he:d=e
   .subst he;simp only[JM];rw[OB];simp[hN,hd,hv]
   .have:Nat.beq d e=false:=by
     cases hb:Nat.beq d e with
     | false=>rfl
     | true=>exact absurd (Bl.1 hb) he
    simp only[this];rw[OA he];have:=ht e
    rwa [Gy]at this
  .cases hp
theorem Lq(g:G):Rel g true (.tup []) undef:=.tup true [] #[] rfl (fun i c v h=>by simp at h)
theorem It{g:G}{ops:Array Oper}{t:Tm}{tmps:Array Value}{o:Oper}{b:Bool}(ht:EU g t tmps)(h:Bg ops t o=some b):Region.wanted o (yielded ops tmps)=b:=by
 unfold Bg at h;unfold Region.wanted;split at h
 .rename_i hg;simp only[AN]at h;simp[hg,h]
 .rename_i j want hg;simp only[hg];split at h
  .cases h
  .rename_i d hd;have hr:=ht d;unfold yielded;rw[hd,KL];rw[Gy]at hr;split at h
   .rename_i b' hb;rw[hb]at hr;simp only[AN]at h;cases hx:tmps[d]? with
    | none=>rw[hx]at hr;cases hr
    | some y=>
     rw[hx]at hr;simp only[GQ]at hr;cases hr;simp only[<- h];cases b' <;> cases want <;> rfl
   .rename_i hb;rw[hb]at hr;simp only[AN]at h;subst h;cases hx:tmps[d]? with
    | none=>rfl
    | some y=>
     rw[hx]at hr;simp only[GQ]at hr;cases hr;rfl
   .cases h
theorem K7{ops:Array Oper}{t t':Tm}{o:Oper}(h:∀ d,d∈looks ops o->t.get d=t'.get d):Bg ops t o=Bg ops t' o:=by
 unfold Bg;cases hg:o.guard with
 | none=>rfl
 | some jw=>
  obtain⟨j,want⟩:=jw;simp only;cases hd:(ops[j]?).bind (·.dst)with
  | none=>rfl
  | some d=>
   simp only;rw[h d (by simp[looks,Oper.looksAt,hg,hd])]
theorem M8{ops:Array Oper}{fid:Nat}{C:CH}{t t':Tm}{o:Oper}{h:AF}(hh:∀ d,d∈looks ops o->t.get d=t'.get d):Al M fid C t o.op h=Al M fid C t' o.op h:=
 Rx fun x hx=>V2 fun d hd=>hh d (by
  subst hd;simp only[looks,Oper.looksAt];exact List.mem_append_left _ (PL.2 ⟨.tmp d,hx,rfl⟩))
variable(F:Fits M P){C:CH}(hC:JX M P C)(hP:Dc M P)
include F hC hP in
theorem J0{fid N:Nat}{ops:Array Oper}{Q:Exit->Act->World->Prop}{fr:Fr}:∀{l:List Oper} {t:Tm} {h:AF} {ks:List Kd} {ro:RO} {a:Act} {w:World} {g:G},Ar M fid N C ops l t h ks=some ro->Sim g h fr w->EU g t a.tmps->a.tmps.size=N ->
 (match ro with
  | .done t' h' _=>∀ g' a' w',Le g g'->Sim g' h' fr w'->EU g' t' a'.tmps->a'.tmps.size=N->a'.defers=a.defers->Q .normal a' w'
  | .pan v h'=>∀ g' a' w' x,Le g g'->Sim g' h' fr w'->Rel g' true v x->a'.defers=a.defers->Q (.panic [{ v:=x,recovered:=false }]) a' w')->wpList P ops Q l a w
 | [],t,h,ks,ro,a,w,g,hr,sim,ht,hN,hQ=>by
  simp only[Ar,AN]at hr;subst hr;exact wpList_nil (hQ g a w (Le.refl g) sim ht hN rfl)
 | o::l,t,h,ks,ro,a,w,g,hr,sim,ht,hN,hQ=>by
  simp only[Ar]at hr;unfold wpList;split at hr
  .cases hr
  .rename_i hw;rw[It ht hw];simp only[ES,if_false];split at hr
   .rename_i t' hp;obtain⟨p1,p2,p3⟩:=V4 hN ht (Lq g) hp;refine J0 hr sim p1 p2 ?_;cases ro with
    | done=>exact fun g' a' w' b1 b2 b3 b4 b5=>hQ g' a' w' b1 b2 b3 b4 (b5.trans p3)
    | pan=>exact fun g' a' w' x b1 b2 b3 b4=>hQ g' a' w' x b1 b2 b3 (b4.trans p3)
   .cases hr
  .rename_i hw;rw[It ht hw];simp only[if_true]
   left
   split at hr
   .rename_i v h1 hop;split at hr
    .rename_i t' hp;refine Lo F hC hP sim ht hop _ _ fun g1 w1 x b1 b2 b3 => ?_
     obtain⟨p1,p2,p3⟩:=V4 hN (ht.mono b1) b3 hp;refine J0 hr b2 p1 p2 ?_;cases ro with
     | done=>exact fun g' a' w' c1 c2 c3 c4 c5=>hQ g' a' w' (b1.trans c1) c2 c3 c4 (c5.trans p3)
     | pan=>exact fun g' a' w' x c1 c2 c3 c4=>hQ g' a' w' x (b1.trans c1) c2 c3 (c4.trans p3)
    .cases hr
   .rename_i v h1 hop;simp only[AN]at hr;subst hr;refine Lo F hC hP sim ht hop _ _ fun g1 w1 x b1 b2 b3 => ?_
    exact hQ g1 a w1 x b1 b2 b3 rfl
   .cases hr
def Pb(M:Par)(fid N:Nat)(C:CH)(ops:Array Oper)(o:Oper)(t t':Tm)(h h':AF)(k:Kd):Prop:=
 ∃ v,FP N t o.dst v=some t'/\((Bg ops t o=some false/\v=.tup []/\h'=h/\k=.st)\/(Bg ops t o=some true/\Al M fid C t o.op h=some (.val v h')/\k=FH M t o.op h h'))
theorem trace{fid N:Nat}{C:CH}{ops:Array Oper}:∀{l:List Oper} {t t':Tm} {h h':AF} {ks ks':List Kd},Ar M fid N C ops l t h ks=some (.done t' h' ks') ->
 ∃(T:Nat->Tm) (H:Nat->AF) (K:List Kd),T 0=t/\H 0=h/\T l.length=t'/\H l.length=h'/\K.length=l.length/\ks'.reverse=ks.reverse++K /\
  ∀(i:Nat) o,l[i]? = some o->∃ k,K[i]? = some k/\Pb M fid N C ops o (T i) (T (i+1)) (H i) (H (i+1)) k
 | [],t,t',h,h',ks,ks',hr=>by
  simp only[Ar,AN,RO.done.injEq]at hr;obtain⟨rfl,rfl,rfl⟩:=hr;exact⟨fun _=>t,fun _=>h,[],rfl,rfl,rfl,rfl,rfl,by simp,fun i o h=>by simp at h⟩
 | o::l,t,t',h,h',ks,ks',hr=>by
  have key:∀(t1:Tm) (h1:AF) (k:Kd),Pb M fid N C ops o t t1 h h1 k->Ar M fid N C ops l t1 h1 (k::ks)=some (.done t' h' ks') ->
   ∃(T:Nat->Tm) (H:Nat->AF) (K:List Kd),T 0=t/\H 0=h/\T (o::l).length=t'/\H (o::l).length=h'/\K.length=(o::l).length/\ks'.reverse=ks.reverse++K /\
    ∀(i:Nat) o',(o::l)[i]? = some o'->∃ k,K[i]? = some k/\Pb M fid N C ops o' (T i) (T (i+1)) (H i) (H (i+1)) k:=by
   intro t1 h1 k hs hr;obtain⟨T,H,K,e1,e2,e3,e4,e5,e6,e7⟩:=trace hr;refine⟨fun i=>match i with | 0=>t | i+1=>T i,fun i=>match i with | 0=>h | i+1=>H i,k::K,rfl,rfl,e3,e4,by simp[e5],by rw[e6];simp,fun i o' ho => ?_⟩;cases i with
   | zero=>
    simp only[HJ,AN]at ho;subst ho;exact⟨k,rfl,by simp only[e1,e2];exact hs⟩
   | succ i=>exact e7 i o' (by simpa using ho)
  simp only[Ar]at hr;split at hr
  .cases hr
  .rename_i hw;split at hr
   .rename_i t1 hp;exact key t1 h .st ⟨_,hp,.inl ⟨hw,rfl,rfl,rfl⟩⟩ hr
   .cases hr
  .rename_i hw;split at hr
   .rename_i v h1 hop;split at hr
    .rename_i t1 hp;exact key t1 h1 _ ⟨_,hp,.inr ⟨hw,hop,rfl⟩⟩ hr
    .cases hr
   .cases hr
   .cases hr
def M9:Kd->Bool
 | .ch _=>true
 | _=>false
theorem IG{α:Type}(f:Nat->α):∀(p q:Nat),p<=q->(∀ j,p<=j->j<q->f (j+1)=f j)->f q=f p
 | p,0,h,_=>by rw[Lk.1 h]
 | p,q+1,h,hs=>by
  by_cases he:p=q+1
  .rw[he]
  .rw[hs q (by omega) (by omega)];exact IG f p q (by omega) (fun j h1 h2=>hs j h1 (by omega))
theorem QS{N:Nat}{t t':Tm}{dst:Option Nat}{v:AV}(h:FP N t dst v=some t')(d:Nat):(dst=some d->t'.get d=v)/\(dst≠some d->t'.get d=t.get d):=by
 cases dst with
 | none=>simp only[FP,AN]at h;subst h;exact⟨(fun h=>by cases h),fun _=>rfl⟩
 | some e=>
  simp only[FP]at h;split at h
  .simp only[AN]at h;subst h;simp only[Tm.get];cases hb:Nat.beq e d with
   | true=>exact⟨fun _=>rfl,fun hne=>absurd (by rw[Bl.1 hb]) hne⟩
   | false=>exact⟨fun he=>by cases he;simp at hb,fun _=>rfl⟩
  .cases h
end
section
variable{M:Par}{P:Program}
theorem V5{a:Act}{dst:Option Nat}{x:Value}{d:Nat}(h:dst=some d)(hd:d<a.tmps.size):(a.put dst x).tmps.getD d undef=x:=by
 subst h;simp[Act.put,Gy,OB,hd]
theorem UY{a:Act}{dst:Option Nat}{x:Value}{d:Nat}(h:dst≠some d):(a.put dst x).tmps.getD d undef=a.tmps.getD d undef:=by
 cases dst with
 | none=>rfl
 | some e=>
  have:e≠d:=fun he=>h (by rw[he])
  simp[Act.put,Gy,OA this]
theorem V6{a:Act}{dst:Option Nat}{x:Value}:(a.put dst x).tmps.size=a.tmps.size:=by cases dst <;> simp[Act.put]
theorem put_defers{a:Act}{dst:Option Nat}{x:Value}:(a.put dst x).defers=a.defers:=by cases dst <;> rfl
theorem Pc{n j:Nat}(h:El (Array.replicate n false) j):False:=by
 unfold El at h;rw[Gy,Array.getElem?_replicate]at h;split at h <;> simp at h
structure Inv(ops:Array Oper)(T:Nat->Tm)(H:Nat->AF)(K:List Kd)(g0:G)(fr:Fr)(N:Nat)(df:List Deferred)(l:Array Bool)(g:G)(a:Act)(w:World):Prop where
 sz:l.size=ops.size
 shut:UX ops l
 le:Le g0 g
 n:a.tmps.size=N
 df:a.defers=df
 hp:∃ p,p<=ops.size/\(∀(i:Nat) k,K[i]? = some k->M9 k=true->(El l i↔i<p))/\Sim g (H p) fr w
 ht:∀ d,∃ k,k<=ops.size/\(∀(j:Nat) o,ops[j]? = some o->o.dst=some d->(El l j↔j<k))/\Rel g true ((T k).get d) (a.tmps.getD d undef)
variable(F:Fits M P){C:CH}(hC:JX M P C)(hP:Dc M P)
include F hC hP in
theorem UZ{fid N:Nat}{ops:Array Oper}{Q:Exit->Act->World->Prop}{fr:Fr}{t t':Tm}{h h':AF}{ks:List Kd}{a0:Act}{w0:World}{g0:G}(hr:Ar M fid N C ops ops.toList t h []=some (.done t' h' ks))(hd:Hm ops ks.reverse=true)
 (hn:PR ops=true) (he:PS ops=true) (sim0:Sim g0 h fr w0) (ht0:EU g0 t a0.tmps) (hN0:a0.tmps.size=N)
 (hQ:∀ g' a' w',Le g0 g'->Sim g' h' fr w'->EU g' t' a'.tmps->a'.tmps.size=N->a'.defers=a0.defers->Q .normal a' w') :
 wpAny P .any ops Q ops.size (Array.replicate ops.size false) a0 w0:=by
 obtain⟨T,H,K,e1,e2,e3,e4,e5,e6,steps⟩:=trace hr;simp only[List.reverse_nil,FE]at e6;rw[e6]at hd;rw[KJ]at e3 e4 e5;have steps:∀(i:Nat) o,ops[i]? = some o->∃ k,K[i]? = some k/\Pb M fid N C ops o (T i) (T (i+1)) (H i) (H (i+1)) k:=fun i o ho=>steps i o (by simpa using ho)
 have slot:∀ d p q,p<=q->q<=ops.size->(∀ j o,p<=j->j<q->ops[j]? = some o->o.dst≠some d)->(T q).get d=(T p).get d:=fun d p q hpq hq hw=>
  IG (fun m=>(T m).get d) p q hpq fun j h1 h2=>by
   have ho:ops[j]? = some ops[j]:=E6 (by omega);obtain⟨k,hk,v,hput,_⟩:=steps j _ ho;exact(QS hput d).2 (hw j _ h1 h2 ho)
 have still:∀(i:Nat) o k,ops[i]? = some o->K[i]? = some k->M9 k=false->H (i+1)=H i:=fun i o k ho hk hch=>by
  obtain⟨k',hk',v,hput,⟨_,_,h3,_⟩ | ⟨_,hop,hkd⟩⟩:=steps i o ho
  .exact h3
  .rw[hk]at hk';cases hk';have:=Lp hop hkd.symm;cases k with
   | st=>exact this.1
   | ld id=>exact this.1
   | ch m=>cases hch
 have all_done:∀ l g a w,Inv ops T H K g0 fr N a0.defers l g a w->(∀ i,i<ops.size->El l i)->Q .normal a w:=by
  intro l g a w inv hall;obtain⟨p,hp1,hp2,hp3⟩:=inv.hp;have hH:H ops.size=H p:=IG H p ops.size hp1 fun j h1 h2=>by
   have ho:ops[j]? = some ops[j]:=E6 h2;obtain⟨k,hk,_⟩:=steps j _ ho;cases hc:M9 k with
   | false=>exact still j _ k ho hk hc
   | true=>have:=(hp2 j k hk hc).1 (hall j h2);omega
  refine hQ g a w inv.le (by rw[<- e4,hH];exact hp3) (fun d => ?_) inv.n inv.df;obtain⟨k,hk1,hk2,hk3⟩:=inv.ht d;rw[<- e3,slot d k ops.size hk1 (CZ _) (fun j o h1 h2 ho hdst=>by have:=(hk2 j o ho hdst).1 (hall j h2);omega)];exact hk3
 have step:∀ l g a w i,Inv ops T H K g0 fr N a0.defers l g a w->i∈Region.ready .any ops l->∀ K':Act->World->Prop,(∀ g' a' w',Inv ops T H K g0 fr N a0.defers (l.setIfInBounds i true) g' a' w'->K' a' w')->wpOp P ops Q i K' a w:=by
  intro l g a w i inv hi K' hK';obtain⟨o,ho,hlt,hnl,_⟩:=Ib inv.sz hi;have hbit:=inv.shut.ready inv.sz hi;have before_i:∀ j,((Region.before ops).getD i 0).testBit j=true->El l j:=hbit;have after_i:∀ j,El l j->((Region.before ops).getD j 0).testBit i=true->False:=fun j hj hb=>hnl (inv.shut j hj i hb)
  obtain⟨k,hk,v,hput,hcase⟩:=steps i o ho;have hils:i<l.size:=by rw[inv.sz];exact hlt
  have td:EU g ((T i).only (looks ops o)) a.tmps:=fun d=>by
   by_cases hm:d∈looks ops o
   .rw[(Ic (T i) _ d).1 hm];obtain⟨k0,hk1,hk2,hk3⟩:=inv.ht d;have:(T i).get d=(T k0).get d:=by
     rcases Nat.le_total k0 i with hle | hle
     .exact slot d k0 i hle (by omega) fun j o' h1 h2 ho' hdst=>by
       rcases HV hn h2 ho' ho with hb | ⟨c1,_,_⟩
       .have:=(hk2 j o' ho' hdst).1 (before_i j hb);omega
       .exact c1 d hdst hm
     .exact(slot d i k0 hle hk1 fun j o' h1 h2 ho' hdst=>by
       have hlj:=(hk2 j o' ho' hdst).2 h2;by_cases hji:j=i
       .subst hji;exact hnl hlj
       .rcases HV hn (show i<j by omega) ho ho' with hb | ⟨_,c2,_⟩
        .exact after_i j hlj hb
        .exact c2 d hdst hm).symm
    rw[this];exact hk3
   .rw[(Ic (T i) _ d).2 hm];exact .undef _ _
  have agree:∀ d,d∈looks ops o->((T i).only (looks ops o)).get d=(T i).get d:=fun d hm=>(Ic (T i) _ d).1 hm
  obtain⟨p,hp1,hp2,hp3⟩:=inv.hp;have next:∀ g1 w1 x hN,Le g g1->Rel g1 true v x->Sim g1 hN fr w1->(M9 k=true->hN=H (i+1))->(M9 k=false->hN=H p)->K' (a.put o.dst x) w1:=by
   intro g1 w1 x hN b1 b2 b3 b4 b5;refine hK' g1 _ w1 ⟨by simp[inv.sz],inv.shut.next inv.sz hi,inv.le.trans b1,by rw[V6];exact inv.n,by rw[put_defers];exact inv.df,?_,fun d => ?_⟩
   .cases hc:M9 k with
    | true=>
     refine⟨i+1,hlt,fun j kj hkj hcj => ?_,by rw[<- b4 hc];exact b3⟩;rw[Gp hils];have clash:BN k kj=true/\BN kj k=true:=by
      cases k <;> cases kj <;> simp_all[M9,BN]
     by_cases hji:j=i
     .exact⟨fun _=>by omega,fun _=> .inl hji⟩
     .constructor
      .rintro(h | h)
       .exact absurd h hji
       .rcases Nat.lt_or_gt_of_ne hji with hlt' | hgt
        .omega
        .exact(after_i j h (G7 hd hgt hk hkj clash.1)).elim
      .intro h;exact .inr (before_i j (G7 hd (by omega) hkj hk clash.2))
    | false=>
     refine⟨p,hp1,fun j kj hkj hcj => ?_,by rw[<- b5 hc];exact b3⟩;rw[Gp hils];have hji:j≠i:=fun h=>by subst h;rw[hk]at hkj;cases hkj;rw[hc]at hcj;cases hcj
     rw[<- hp2 j kj hkj hcj];exact⟨fun h=>h.resolve_left hji,.inr⟩
   .by_cases hdd:o.dst=some d
    .have hdN:d<a.tmps.size:=by
      rw[hdd]at hput;simp only[FP]at hput;split at hput
      .rename_i hh;rw[inv.n];exact FQ.1 hh
      .cases hput
     refine⟨i+1,hlt,fun j o' ho' hdst => ?_,by rw[V5 hdd hdN,(QS hput d).1 hdd];exact b2⟩;rw[Gp hils];by_cases hji:j=i
     .exact⟨fun _=>by omega,fun _=> .inl hji⟩
     .constructor
      .rintro(h | h)
       .exact absurd h hji
       .rcases Nat.lt_or_gt_of_ne hji with hlt' | hgt
        .omega
        .rcases HV hn hgt ho ho' with hb | ⟨_,_,c3⟩
         .exact(after_i j h hb).elim
         .exact(c3 d hdd hdst).elim
      .intro h;rcases HV hn (show j<i by omega) ho' ho with hb | ⟨_,_,c3⟩
       .exact .inr (before_i j hb)
       .exact(c3 d hdst hdd).elim
    .obtain⟨k0,hk1,hk2,hk3⟩:=inv.ht d;refine⟨k0,hk1,fun j o' ho' hdst => ?_,by rw[UY hdd];exact hk3.mono b1⟩;rw[Gp hils];have hji:j≠i:=fun h=>by subst h;rw[ho]at ho';cases ho';exact hdd hdst
     rw[<- hk2 j o' ho' hdst];exact⟨fun h=>h.resolve_left hji,.inr⟩
  unfold wpOp;rw[ho];simp only;rcases hcase with⟨hw,rfl,_,rfl⟩ | ⟨hw,hop,hkd⟩
  .rw[It td ((K7 agree).trans hw)];simp only[ES,if_false];exact next g w undef (H p) (Le.refl g) (Lq g) hp3 (fun h=>by cases h) (fun _=>rfl)
  .rw[It td ((K7 agree).trans hw)];simp only[if_true]
   left
   have hrest:=Lp hop hkd.symm;have hop':∃ hN,Al M fid C ((T i).only (looks ops o)) o.op (H p)=some (.val v hN)/\(M9 k=true->hN=H (i+1))/\(M9 k=false->hN=H p):=by
    cases k with
    | st=>
     refine⟨H p,(M8 agree).trans (hrest.2 (H p)),(fun h=>by cases h),fun _=>rfl⟩
    | ld id=>
     refine⟨H p,(M8 agree).trans (hrest.2 (H p) ?_),(fun h=>by cases h),fun _=>rfl⟩;have one:∀(j:Nat),j<ops.size->(∀ m,K[j]? = some (.ch m)->id ∉ m)->(H (j+1))[id]? = (H j)[id]? := fun j hj hm=>by
      have hoj:ops[j]? = some ops[j]:=E6 hj;obtain⟨kj,hkj,_,_,⟨_,_,h3,_⟩ | ⟨_,hopj,hkdj⟩⟩:=steps j _ hoj
      .rw[h3]
      .have hrj:=Lp hopj hkdj.symm;cases kj with
       | st=>rw[hrj.1]
       | ld _=>rw[hrj.1]
       | ch m=>exact hrj id (hm m hkj)
     rcases Nat.le_total p i with hle | hle
     .exact(IG (fun m=>(H m)[id]?) p i hle fun j h1 h2=>one j (by omega) fun m hm hin=>by
       have hcl:BN (.ch m) (.ld id)=true:=P7 hin;have:=(hp2 j _ hm rfl).1 (before_i j (G7 hd h2 hm hk hcl));omega).symm
     .exact IG (fun m=>(H m)[id]?) i p hle fun j h1 h2=>one j (by omega) fun m hm hin=>by
       have hlj:=(hp2 j _ hm rfl).2 h2;by_cases hji:j=i
       .subst hji;rw[hk]at hm;cases hm
       .have hcl:BN (.ld id) (.ch m)=true:=P7 hin;exact after_i j hlj (G7 hd (by omega) hk hm hcl)
    | ch m=>
     have hH:H p=H i:=by
      have hpi:¬ i<p:=fun h=>hnl ((hp2 i _ hk rfl).2 h)
      refine(IG H p i (by omega) fun j h1 h2 => ?_).symm;have hoj:ops[j]? = some ops[j]:=E6 (by omega);obtain⟨kj,hkj,_⟩:=steps j _ hoj;cases hc:M9 kj with
      | false=>exact still j _ kj hoj hkj hc
      | true=>
       have hcl:BN kj (.ch m)=true:=(by cases kj <;> simp_all[M9,BN]);have:=(hp2 j kj hkj hc).1 (before_i j (G7 hd h2 hkj hk hcl));omega
     refine⟨H (i+1),by rw[hH];exact(M8 agree).trans hop,fun _=>rfl,(fun h=>by cases h)⟩
   obtain⟨hN,h1,h2,h3⟩:=hop';exact Lo F hC hP hp3 td h1 _ _ fun g1 w1 x b1 b2 b3=>next g1 w1 x hN b1 b3 b2 h2 h3
 have rounds:∀ fuel l g a w,Inv ops T H K g0 fr N a0.defers l g a w->((List.range ops.size).filter fun i => !l.getD i false).length<=fuel->wpAny P .any ops Q fuel l a w:=by
  intro fuel;induction fuel with
  | zero=>
   intro l g a w inv hf;have hall:∀ i,i<ops.size->El l i:=fun i hi=>by
    have hnil:=E5 (Lk.1 hf);have:i ∉ (List.range ops.size).filter fun i => !l.getD i false:=by rw[hnil];simp
    simp only[JI,JJ,hi,true_and,IA,Bool.not_eq_false]at this;exact this
   refine⟨?_,all_done l g a w inv hall⟩;rw[List.eq_nil_iff_forall_not_mem];intro i hi;obtain⟨_,_,hlt,hnl,_⟩:=Ib inv.sz hi;exact hnl (hall i hlt)
  | succ fuel ih=>
   intro l g a w inv hf;refine⟨fun hnil=>all_done l g a w inv fun i hi=>Classical.byContradiction fun hn => ?_,fun i hi=>step l g a w i inv hi _ fun g' a' w' inv'=>ih _ g' a' w' inv' ?_⟩
   .obtain⟨j,hj⟩:=Rz inv.sz he hi hn;rw[hnil]at hj;cases hj
   .obtain⟨_,_,hlt,hnl,_⟩:=Ib inv.sz hi;have hils:i<l.size:=(by rw[inv.sz];exact hlt);have hsub:((List.range ops.size).filter fun j => !(l.setIfInBounds i true).getD j false).length<((List.range ops.size).filter fun j => !l.getD j false).length:=by
     have heq:((List.range ops.size).filter fun j => !(l.setIfInBounds i true).getD j false)=((List.range ops.size).filter fun j => !l.getD j false).filter fun j => !(j == i):=by
      rw[List.filter_filter];apply List.filter_congr;intro j _;have:=Gp (l:=l) (i:=i) (j:=j) hils;unfold El at this;cases h1:(l.setIfInBounds i true).getD j false <;> cases h2:l.getD j false <;> cases h3:j == i <;> simp_all
     rw[heq];apply List.length_filter_lt_length_iff_exists.2;refine⟨i,?_,by simp⟩;simp only[JI,JJ,hlt,true_and,IA];cases h:l.getD i false with
     | false=>rfl
     | true=>exact absurd h hnl
    omega
 refine rounds ops.size _ g0 a0 w0 ⟨by simp,fun j hj => ?_,Le.refl g0,hN0,rfl,⟨0,HN _,fun i k _ _=>⟨fun hj => ?_,fun hj=>by omega⟩,by rw[e2];exact sim0⟩,fun d=>⟨0,HN _,fun j o _ _=>⟨fun hj => ?_,fun hj=>by omega⟩,by rw[e1];exact ht0 d⟩⟩ ?_
 .exact(Pc hj).elim
 .exact(Pc hj).elim
 .exact(Pc hj).elim
 .exact DD (List.length_filter_le _ _) (by simp)
end
end Go.Am
