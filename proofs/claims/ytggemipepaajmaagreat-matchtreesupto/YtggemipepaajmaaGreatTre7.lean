/- Part 7. -/
import Derived.Test.YtggemipepaajmaaGreatTre6
import Derived.Laws.IdiomStrings
set_option linter.all false
namespace Go.Am
open Go
section
variable{M:Par}{P:Program}(F:Fits M P)
def QM(g:G):Option AV->Option Value->Prop
 | none,none=>True
 | some a,some v=>Rel g true a v
 | _,_=>False
theorem Mz{g:G}{a:Option AV}{v:Option Value}(h:QM g a v){d:Nat}{i:Int}(hi:C9 d a=some i) :
 (a=none/\v=none/\i=d)\/∃ k,v=some (.int k i)/\a=some (.int k i):=by
 cases a with
 | none=>
  cases v with
  | none=>simp only[C9,AN]at hi;exact .inl ⟨rfl,rfl,hi.symm⟩
  | some v=>cases h
 | some a=>
  cases v with
  | none=>cases h
  | some v=>
   simp only[C9]at hi;obtain⟨k,h1,h2⟩:=Er h hi;exact .inr ⟨k,by rw[h1],by rw[h2]⟩
theorem Ir{g:G}{lo hi mx:Option AV}{vl vh vm:Option Value}(hl:QM g lo vl)(hh:QM g hi vh)(hm:QM g mx vm){len cap a b:Nat}{l i:Int}(hc:len<=cap)(hmx:(mx.isSome&&hi.isNone)=false)
 (h1:C9 len hi=some i) (h2:F7 i len=some b) (h3:C9 0 lo=some l) (h4:F7 l b=some a) (h5:KX b mx=true) (isS:Bool) (w:World) :
 (Instr.sliceBounds isS len cap vl vh vm).run P w=.ok (a,b,if mx.isSome then b else cap) w:=by
 obtain⟨i0,i1,i2,i3⟩:=Hb h2;obtain⟨l0,l1,l2,l3⟩:=Hb h4;obtain rfl:i=(b:Int):=by omega
 obtain rfl:l=(a:Int):=by omega
 have e1:b<=cap:=by omega
 clear i0 i2 l0 l2 l1 i1;have hb:∀(k:IntKind) (x y:Nat) (c:BoundsCode),x<=y->(Instr.sliceBound (.int k x) y c).run P w=.ok x w:=fun k x y c h=>by
  simp[Instr.sliceBound,asIntOf,h]
 rcases Mz hl h3 with⟨rfl,rfl,h3'⟩ | ⟨kl,rfl,rfl⟩ <;> rcases Mz hh h1 with⟨rfl,rfl,h1'⟩ | ⟨kh,rfl,rfl⟩
 all_goals
  cases mx with
  | none=>
   cases vm with
   | none=>
    try (have h3':a=0:=by omega)
    try (have h1':len=b:=by omega)
    try subst h3'
    try subst h1'
    simp[Instr.sliceBounds,hb _ _ _ _ e1,hb _ _ _ _ l3]
   | some v=>cases hm
  | some m=>
   cases vm with
   | none=>cases hm
   | some v=>
    first
     | (simp at hmx;done)
     | (simp only[KX]at h5
        split at h5
        .rename_i mi hmi;obtain⟨km,rfl,rfl⟩:=Er hm hmi;simp only[decide_eq_true_eq]at h5;subst h5
         try (have h3':a=0:=by omega)
         try subst h3'
         simp[Instr.sliceBounds,hb _ _ _ _ e1,hb _ _ _ _ l3,hb _ _ _ _ (CZ _)]
        .cases h5)
include F in
theorem Rt{g:G}{h:AF}{fr:Fr}{w:World}(_s:Sim g h fr w){t:TypeId}{a v:AV}{x:Value}{lo hi mx:Option AV}{vl vh vm:Option Value}(hx:Rel g true a x)(hl:QM g lo vl)(hh:QM g hi vh)(hm:QM g mx vm)
 (hf:HD M.ty t a lo hi mx=some v):∃ y,(Instr.sliceAt t x vl vh vm).run P w=.ok y w/\Rel g true v y:=by
 unfold HD at hf;split at hf
 .cases hf
 .rename_i hmx;split at hf
  .rename_i s hu;cases hx;split at hf
   .rename_i b l hb hlo;simp only[Gd]at hb;obtain⟨i,hb1,hb2⟩:=hb;cases hup:F7 l b with
    | none=>simp[hup]at hf
    | some a=>
     simp only[hup,E0,AN]at hf;subst hf;have hr:=Ir (P:=P) hl hh hm (CZ s.length) hmx hb1 hb2 hlo hup rfl false w;cases vm with
     | some v=>cases hm
     | none=>
      refine⟨_,?_,.str _ _⟩;have hsz:(⟨s.toArray⟩:ByteArray).size=s.length:=(by simp[ByteArray.size]);have hex:(⟨s.toArray⟩:ByteArray).extract a b=⟨((s.drop a).take (b - a)).toArray⟩:=by
       apply ByteArray.ext;rw[ByteArray.data_extract];simp
      simp[Instr.sliceAt,Instr.slice,Ah F hu,hsz,hr,hex]
   .cases hf
  .rename_i e hu;cases hx;split at hf
   .rename_i he h1 h2 h3;simp only[AN]at hf;subst hf;obtain⟨i,hi⟩:=P6.1 he;have hr:=Ir (P:=P) (len:=0) (cap:=0) (a:=0) (b:=0) hl hh hm (CZ 0) hmx h2 (by rfl) h1 (by rfl) (by
     cases mx with
     | none=>rfl
     | some m=>simp only[C9]at h3;simp[KX,h3]) true w
    refine⟨.slice none 0 0,?_,.AH _⟩;simp[Instr.sliceAt,Instr.slice,Ah F hu,hr,G4 F hi]
   .cases hf
  .rename_i e sz ex es hu;split at hf
   .rename_i b l hc hb hlo;simp only[Gd]at hb;obtain⟨i,hb1,hb2⟩:=hb;simp only[BU,Bl,FQ]at hc;obtain⟨rfl,hp⟩:=hc;split at hf
    .rename_i a' hup hmk;simp only[AN]at hf;subst hf;cases hx with
     | sl _ _ _ _ B o c ad ha vs h0 hxx hs h1 h2 h3=>
      have hr:=Ir (P:=P) hl hh hm h0 hmx hb1 hb2 hlo hup hmk true w;obtain⟨_,_,_,hb3⟩:=Hb hb2;obtain⟨_,_,_,ha3⟩:=Hb hup;rcases ha with rfl | hc0
      rotate_left
      .have hes:es=[]:=E5 (by omega);subst hes;have hb0:b=0:=(by simp at hb3;omega);subst hb0;have ha0:a'=0:=(by omega);subst ha0;have hm0:(if mx.isSome then 0 else c)=0:=(by split <;> omega);refine⟨.slice (some ad) 0 0,?_,?_⟩
       .simp only[Instr.sliceAt,Instr.slice,Sem.run_bind,Ah F hu,Result.andThen_ok,hr,Es F hp,Sem.run_pure,hm0,if_true]
       .exact .sl true _ _ [] B o 0 ad (.inr rfl) vs (HN _) (fun h=>rfl) (fun i e he=>by simp at he) (fun i e he=>by simp at he) (fun i e he=>by simp at he) (fun i e he=>by simp at he)
      have hlen:((es.drop a').take (b - a')).length=b - a':=(by simp;omega);have get':∀(i:Nat) e,((es.drop a').take (b - a'))[i]? = some e->es[a'+i]? = some e:=fun i e he=>by
       have hi:i<b - a':=(by have:=(Ae.1 he).1;omega);rw[Kp hi,H9]at he;exact he
      refine⟨.slice (some (if(if mx.isSome then b else c)=a' then⟨B,o,none⟩else⟨B,o+a' * siz M.ty e,none⟩)) (b - a') ((if mx.isSome then b else c) - a'),?_,?_⟩
      .simp only[Instr.sliceAt,Instr.slice,Sem.run_bind,Ah F hu,Result.andThen_ok,hr,Es F hp,Sem.run_pure];by_cases hm:(if mx.isSome then b else c)=a'
       .rw[if_pos hm,if_pos hm]
       .rw[if_neg hm,if_neg hm];simp[add_plain]
      .generalize hcap:(if mx.isSome then b else c)=m;have hmb:b<=m:=(by subst hcap;split <;> omega);have hex:(mx.isSome||(ex&&Nat.beq b es.length))=true->m=b:=by
        intro h;subst hcap;split
        .rfl
        .rename_i hn;simp only[Bool.not_eq_true]at hn;simp only[hn,JK,BU,Bl]at h;have:=hxx h.1;omega
       by_cases hm:m=a'
       .rw[if_pos hm];have he:(es.drop a').take (b - a')=[]:=E5 (by omega);rw[he,show b - a'=0 by omega];exact .sl true _ _ [] B o _ _ (.inl rfl) vs (HN _) (fun h=>by simp;omega) (fun i e he=>by simp at he) (fun i e he=>by simp at he) (fun i e he=>by simp at he) (fun i e he=>by simp at he)
       .rw[if_neg hm];have:=Rel.sl (g:=g) true (siz M.ty e) (mx.isSome||(ex&&Nat.beq b es.length)) ((es.drop a').take (b - a')) B (o+a' * siz M.ty e) (m - a') _ (.inl rfl) (fun i k=>vs (a'+i) k) (by omega) (fun h=>by rw[hlen,hex h])
         (fun i e he=>hs _ e (get' i e he)) (fun i e' he k x hx=>by
           have:=h1 _ _ (get' i e' he) k x hx;rw[KO]at this;rw[show o+a' * siz M.ty e+i * siz M.ty e+k=o+(a' * siz M.ty e+i * siz M.ty e)+k by omega];exact this) (fun i e he=>h2 _ _ (get' i e he)) (fun i e he=>h3 _ _ (get' i e he))
        rw[hlen]at this;exact this
    .cases hf
   .cases hf
  .rename_i e id gen sz off len ex hu;split at hf
   .rename_i b l hc hb hlo;simp only[Gd]at hb;obtain⟨i,hb1,hb2⟩:=hb;simp only[BU,Bl,FQ]at hc;obtain⟨rfl,hp⟩:=hc;split at hf
    .rename_i a' hup hmk;simp only[BU]at hmk;obtain⟨hmk,hexo⟩:=hmk;simp only[AN]at hf;subst hf;cases hx with
     | hs _ _ _ _ _ _ B c o c' hpl h0 hc ho=>
      have hcl:len<=c':=(by subst hc;split <;> omega);have hr:=Ir (P:=P) hl hh hm hcl hmx hb1 hb2 hlo hup hmk true w;obtain⟨_,_,_,hb3⟩:=Hb hb2;obtain⟨_,_,_,ha3⟩:=Hb hup;refine⟨.slice (some (if(if mx.isSome then b else c')=a' then⟨B,o,none⟩else⟨B,o+a' * siz M.ty e,none⟩)) (b - a') ((if mx.isSome then b else c') - a'),?_,?_⟩
      .simp only[Instr.sliceAt,Instr.slice,Sem.run_bind,Ah F hu,Result.andThen_ok,hr,Es F hp,Sem.run_pure];by_cases hm:(if mx.isSome then b else c')=a'
       .rw[if_pos hm,if_pos hm]
       .rw[if_neg hm,if_neg hm];simp[add_plain]
      .generalize hcap:(if mx.isSome then b else c')=m;have hmc:m<=c':=(by subst hcap;split <;> omega);have hcm:m - a'=if(mx.isSome||ex)=true then b - a' else c - (off+a'):=by
        cases hms:mx.isSome <;> simp only[hms,JK,Bool.true_or,if_true,ES,if_false]at hcap hexo ⊢
        .cases ex with
         | true=>
          simp only[KU,JK,Bl,if_true]at hexo hc ⊢;omega
         | false=>simp only[ES,if_false]at hc ⊢;omega
        .omega
       split
       .rename_i hm;exact .hs id gen _ (off+a') (b - a') _ B c o (m - a') hpl (by omega) hcm (fun h=>by omega)
       .rename_i hm;exact .hs id gen _ (off+a') (b - a') _ B c _ (m - a') hpl (by omega) hcm (fun h=>by rw[ho (by omega),KO])
    .cases hf
   .cases hf
  .cases hf
include F in
theorem PV{g:G}{h h':AF}{fr:Fr}{w:World}(s:Sim g h fr w){src dst:TypeId}{a v:AV}{x:Value}(hx:Rel g true a x)(hf:Gz M.ty src dst a h=some (v,h')) :
 G5 P (do pure (.value (<- convert src dst x))) g h' fr w v:=by
 unfold Gz at hf;split at hf
 .rename_i d k k' n hs hd;simp only[AN,Bk]at hf;obtain⟨rfl,rfl⟩:=hf;cases hx;refine .val s (.int k (k.wrap n)) ?_ (by rw[<- JD];exact .int _ _ _);simp[convert,Ah F hs,Ah F hd,Conv.intToInt]
 .rename_i d b hs hd;simp only[AN,Bk]at hf;obtain⟨rfl,rfl⟩:=hf;cases hx;refine .val s _ ?_ (.str _ _);simp[convert,Ah F hs,Ah F hd]
 .rename_i e b hs hd;split at hf
  .rename_i he;simp only[A3,AN,Bk]at hf;obtain⟨rfl,rfl⟩:=hf;cases hx;obtain⟨r1,r2⟩:=OO (g:=g) true b;have hr:=run_bytes_of_string (P:=P) w src dst e ⟨b.toArray⟩ (JU F hs) (JU F hd) (JU F he);have hge:=grownCap_ge w (ByteArray.size ⟨b.toArray⟩) 0 e;generalize grownCap w (ByteArray.size ⟨b.toArray⟩) 0 e=cap at hr hge;have hbs:(ByteArray.size ⟨b.toArray⟩)=b.length:=(by simp[ByteArray.size]);have hrow:bytesRow ⟨b.toArray⟩ cap=(b.toArray.map fun c=>Value.int .u8 c.toNat)++Array.replicate (cap - b.length) (.int .u8 0):=by
    simp[bytesRow,hbs]
   rw[hbs]at hr hge;have hsz:(bytesRow ⟨b.toArray⟩ cap).size=cap * 1:=(by rw[hrow];simp;omega);obtain⟨g',q1,q2,q3⟩:=Jx (s.drew (w.drawn+1)) e (c:=cap) (vs:=bytesRow ⟨b.toArray⟩ cap) (IE b) hsz (by rw[C0];exact hge) (fun i l he k x v hx hv=>by
    have hil:=(Ae.1 he).1;have hlk:=(Ae.1 hx).1;have hl1:=(IE b).get he;rw[C0]at hil;rw[hrow,Km (by simp;omega)]at hv;exact JT (IE b) r1 he hx hv) (fun i y hy=>by
    rw[hrow]at hy;by_cases hi:i<(b.toArray.map fun c=>Value.int .u8 c.toNat).size
    .rw[Km hi]at hy;exact r2 i y hy
    .rw[S4 (by omega),Array.getElem?_replicate]at hy;split at hy
     .cases hy;rfl
     .cases hy) ((bytesRow ⟨b.toArray⟩ cap).size,(bytesRow ⟨b.toArray⟩ cap).size+1) (fun o ho hh=>by simp only at hh;omega)
   refine⟨_,_,g',.inl (by rw[Sem.run_bind,hr];rfl),q1,q2,?_⟩;simpa[C0]using q3
  .cases hf
 .cases hf
theorem get_map{w:World}{B:Nat}{ms:Array MapEntry}{c:Nat}(h:w.heap[B]? = some (.map ms c)):(getObj B).run P w=.ok (.map ms c) w:=by simp[getObj,Sem.run,h]
theorem TC{w:World}{B:Nat}{ms:Array MapEntry}{c:Nat}(h:w.heap[B]? = some (.map ms c))(o:Obj):(setObj B o).run P w=.ok () { w with heap:=w.heap.setIfInBounds B o }:=by
 simp[setObj,Sem.run,h]
theorem OP{g:G}{d:TypeDesc}{a b:AV}{x y:Value}(hx:Rel g true a x)(hy:Rel g true b y){r:Bool}(h:En (some d) a b=some r):Instr.sameNow d x y=some r:=by
 unfold En at h;split at h
 .rename_i s t hd;simp only[AN]at hd h;subst hd;cases hx;cases hy;simp only[Instr.sameNow,AN];rw[<- h,Kt];show(s.toArray == t.toArray)=true↔_;simp
 .rename_i s t hd;simp only[AN]at hd h;subst hd;cases hx;cases hy;simp only[Instr.sameNow,AN];exact h
 .rename_i k0 k m k' n hd;simp only[AN]at hd;subst hd;split at h
  .rename_i hk;simp only[decide_eq_true_eq]at hk;simp only[AN]at h;subst hk;cases hx;cases hy;simp only[Instr.sameNow,if_true,AN];exact h
  .cases h
 .cases h
def KRel(g:G)(es:List (AV×AV))(ms:List MapEntry):Prop:=ms.length=es.length/\∀(i:Nat) p m,es[i]? = some p->ms[i]? = some m->Rel g true p.1 m.key/\Rel g true p.2 m.val
theorem M1{g:G}{d:TypeDesc}{k:AV}{y:Value}(hk:Rel g true k y):∀{es:List (AV×AV)} {ms:List MapEntry} (i:Nat),KRel g es ms->∀{r:Option AV},G0 (some d) k es=some r ->
 (r=none/\Instr.findNow d y ms i=some none/\MJ (some d) k k es=es++[(k,k)])\/(∃ v j m x,r=some v/\ms[j]? = some m/\es[j]? = some (x,v)/\En (some d) k x=some true/\Instr.findNow d y ms i=some (some (i+j,m.val))/\Rel g true v m.val/\∀ u,MJ (some d) k u es=es.set j (k,u))
 | [],[],i,_,r,h=>by simp only[G0,AN]at h;subst h;exact .inl ⟨rfl,rfl,rfl⟩
 | [],m::ms,_,h,_,_=>by have:=h.1;simp at this
 | p::es,[],_,h,_,_=>by have:=h.1;simp at this
 | (k',v)::es,m::ms,i,h,r,hf=>by
  obtain⟨h1,h2⟩:=h.2 0 _ _ rfl rfl;have ht:KRel g es ms:=⟨by have:=h.1;simpa using this,fun i p m hp hm=>h.2 (i+1) p m (by simpa using hp) (by simpa using hm)⟩;simp only[G0]at hf;split at hf
  .rename_i he;simp only[AN]at hf;subst hf;have:=OP hk h1 he;exact .inr ⟨v,0,m,k',rfl,rfl,rfl,he,by simp[Instr.findNow,this],h2,fun u=>by simp[MJ,he]⟩
  .rename_i he;have hs:=OP hk h1 he;rcases M1 hk (i+1) ht hf with⟨a1,a2,a3⟩ | ⟨w,j,m',x,a1,a2,a3,a4,a5,a6,a7⟩
   .exact .inl ⟨a1,by simp[Instr.findNow,hs,a2],by simp[MJ,he,a3]⟩
   .exact .inr ⟨w,j+1,m',x,a1,by simpa using a2,by simpa using a3,a4,by simp[Instr.findNow,hs,a5];omega,a6,fun u=>by simp[MJ,he,a7]⟩
  .cases hf
theorem L8{d:Option TypeDesc}{k:AV}:∀{es:List (AV×AV)},G0 d k es=some none->∀ u,MJ d k u es=es++[(k,u)]
 | [],_,u=>rfl
 | (k',v)::es,h,u=>by
  simp only[G0]at h;split at h
  .cases h
  .rename_i he;simp[MJ,he,L8 h u]
  .cases h
include F in
theorem K2{g:G}{kt:TypeId}{k:AV}{y:Value}(hk:Rel g true k y){r:Bool}(h:En (und M.ty kt) k k=some r)(e:Bool)(n:Nat)(w:World):(Instr.checkKey e (n+1) kt y).run P w=.ok () w:=by
 cases hu:und M.ty kt with
 | none=>simp[hu,En]at h
 | some d=>
  rw[hu]at h;unfold En at h;split at h
  .rename_i hd _;obtain rfl:=Option.some.inj hd;cases hk;simp[Instr.checkKey,Ah F hu]
  .rename_i hd _;obtain rfl:=Option.some.inj hd;cases hk;simp[Instr.checkKey,Ah F hu]
  .rename_i hd _;obtain rfl:=Option.some.inj hd;cases hk;simp[Instr.checkKey,Ah F hu]
  .cases h
include F in
theorem UT{e:TypeId}{z:AV}(hz:zeroV M.ty e=some z)(w:World):∃ zv,(zeroValue e).run P w=.ok zv w/\∀ g b,Rel g b z zv:=by
 unfold zeroV at hz;split at hz
 .rename_i i hi;simp only[Gd]at hz;obtain⟨zc,hz1,hz2⟩:=hz;obtain⟨info,h1,h2,h3,h4⟩:=QD F hi w;obtain⟨zv,h5,_,h6⟩:=h4 _ hz1;exact⟨zv,by simp[zeroValue,h1,h5],fun g b=>Jv g b (h6 _ hz2)⟩
 .cases hz
include F in
theorem QN{g:G}{h:AF}{fr:Fr}{w:World}(s:Sim g h fr w){t:TypeId}{m k v:AV}{x y:Value}{ok:Bool}(hx:Rel g true m x)(hy:Rel g true k y)(hf:HS M.ty t m k ok h=some v) :
 ∃ z,(Instr.lookup t x y ok).run P w=.ok z w/\Rel g true v z:=by
 unfold HS at hf;split at hf
 .rename_i kt e hu;split at hf
  .cases hf
  .rename_i es hes;split at hf
   .rename_i r z hr hz;have hkey:∃ b,En (und M.ty kt) k k=some b:=by
     cases hq:En (und M.ty kt) k k with
     | none=>simp[hq]at hr
     | some b=>exact⟨b,rfl⟩
    obtain⟨bq,hq⟩:=hkey;simp only[hq]at hr;cases hd:und M.ty kt with
    | none=>rw[hd]at hq;simp[En]at hq
    | some d=>
     have hms:∃ ms:Array MapEntry,KRel g es ms.toList/\((x=.map none/\ms = #[])\/∃ B clk,x=.map (some B)/\w.heap[B]? = some (.map ms clk)):=by
      cases hx <;> simp only[reduceCtorEq]at hes
      .simp only[AN]at hes;subst hes;exact⟨#[],⟨rfl,fun i p m hp=>by simp at hp⟩,.inl ⟨rfl,rfl⟩⟩
      .rename_i id B c hpl;split at hes
       .rename_i es' hk;simp only[AN]at hes;subst hes;obtain⟨B',c',ms,clk,h1,h2,h3,h4,h5⟩:=s.blk id _ hk;rw[hpl]at h1;simp only[AN,Bk]at h1;obtain⟨rfl,rfl⟩:=h1;exact⟨ms,⟨by simpa using h3,fun i p m hp hm=>h4 i p m hp (by simpa using hm)⟩,.inr ⟨B,clk,rfl,h2⟩⟩
       .cases hes
     obtain⟨ms,hK,hxm⟩:=hms;rw[hd]at hr;have hfin:∀ z',Rel g true v z'->(Instr.lookup t x y ok).run P w=.ok z' w->∃ z,(Instr.lookup t x y ok).run P w=.ok z w/\Rel g true v z:=fun z' h1 h2=>⟨z',h2,h1⟩
     have hck:=K2 F hy hq ms.isEmpty 9999 w;rcases M1 hy 0 hK hr with⟨rfl,k2,_⟩ | ⟨u,j,m',x',rfl,k2,k3,k4,k5,k6,k7⟩
     .obtain⟨zv,hzr,hzrel⟩:=UT F hz w;have hfk:(Instr.findKey kt y ms.toList).run P w=.ok none w:=by
       simp[Instr.findKey,Ah F hd,k2]
      have hlk:(Instr.lookup t x y ok).run P w=.ok (if ok then .tuple #[zv,.bool false]else zv) w:=by
       rcases hxm with⟨rfl,rfl⟩ | ⟨B,clk,rfl,hB⟩
       .simp at hck hfk;simp[Instr.lookup,Ah F hu,hck,hfk,hzr]
       .simp[Instr.lookup,Ah F hu,hck,hfk,hzr,get_map hB]
      cases ok with
      | true=>
       simp only[AN,Option.getD_none,Option.isSome_none]at hf;subst hf;exact hfin _ (.tup true _ _ rfl fun i c v hc hv=>by
        have:=Au.cons (g:=g) (b:=true) (hzrel g true) (Au.cons (.bool true false) (Au.nil _ _));exact this.2 i c v hc hv) hlk
      | false=>
       simp only[AN,Option.getD_none]at hf;subst hf;exact hfin _ (hzrel g true) hlk
     .have hfk:(Instr.findKey kt y ms.toList).run P w=.ok (some (0+j,m'.val)) w:=by
       simp[Instr.findKey,Ah F hd,k5]
      have hlk:(Instr.lookup t x y ok).run P w=.ok (if ok then .tuple #[m'.val,.bool true]else m'.val) w:=by
       rcases hxm with⟨rfl,rfl⟩ | ⟨B,clk,rfl,hB⟩
       .simp at k2
       .simp[Instr.lookup,Ah F hu,hck,hfk,get_map hB]
      cases ok with
      | true=>
       simp only[AN,GQ,Option.isSome_some]at hf;subst hf;exact hfin _ (.tup true _ _ rfl fun i c v hc hv=>by
        have:=Au.cons (g:=g) (b:=true) k6 (Au.cons (.bool true true) (Au.nil _ _));exact this.2 i c v hc hv) hlk
      | false=>
       simp only[AN,GQ]at hf;subst hf;exact hfin _ k6 hlk
   .cases hf
 .cases hf
theorem PW{g:G}{d:Option TypeDesc}{a b:AV}{x y:Value}(hx:Rel g true a x)(hy:Rel g true b y)(h:En d a b=some true)(n:Nat):Instr.sameBits n y x=true:=by
 unfold En at h;split at h
 .simp only[AN,beq_iff_eq]at h;subst h;cases hx;cases hy;have hb:∀ q:Array UInt8,((⟨q⟩:ByteArray) == ⟨q⟩)=true:=fun q=>by show(q == q)=true;simp
  cases n <;> simp only[Instr.sameBits,hb]
 .simp only[AN,beq_iff_eq]at h;subst h;cases hx;cases hy;cases n <;> simp[Instr.sameBits]
 .split at h
  .rename_i hk;simp only[decide_eq_true_eq]at hk;simp only[AN,beq_iff_eq]at h;subst hk;subst h;cases hx;cases hy;cases n <;> simp[Instr.sameBits]
  .cases h
 .cases h
include F in
theorem L9{g:G}{h h':AF}{fr:Fr}{w:World}(s:Sim g h fr w){t:TypeId}{m k v:AV}{x y z:Value}(hx:Rel g true m x)(hy:Rel g true k y)(hz:Rel g true v z)(hf:MP M.ty t m k v h=some h') :
 G5 P (do Instr.mapUpdate t x y z;pure .skip) g h' fr w (.tup []):=by
 unfold MP at hf;split at hf
 .rename_i kt e id hu;split at hf
  .rename_i es hk;split at hf
   .rename_i r hr;simp only[AN]at hf;subst hf;have hkey:∃ b,En (und M.ty kt) k k=some b:=by
     cases hq:En (und M.ty kt) k k with
     | none=>simp[hq]at hr
     | some b=>exact⟨b,rfl⟩
    obtain⟨bq,hq⟩:=hkey;simp only[hq]at hr;cases hd:und M.ty kt with
    | none=>rw[hd]at hq;simp[En]at hq
    | some d=>
     rw[hd]at hr;cases hx with
     | hm _ B c hpl=>
      obtain⟨B',c',ms,clk,h1,h2,h3,h4,h5⟩:=s.blk id _ hk;rw[hpl]at h1;simp only[AN,Bk]at h1;obtain⟨rfl,rfl⟩:=h1;have hK:KRel g es ms.toList:=⟨by simpa using h3,fun i p m hp hm=>h4 i p m hp (by simpa using hm)⟩;have hid:id<h.length:=(Ae.1 hk).1;have hBlt:B<w.heap.size:=(Kn.1 h2).1;have fin:∀(es':List (AV×AV)) (ms':Array MapEntry) (clk':Nat),ms'.size=es'.length->(∀(i:Nat) p m,es'[i]? = some p->ms'[i]? = some m->Rel g true p.1 m.key/\Rel g true p.2 m.val) ->
       (Instr.mapUpdate t (.map (some B)) y z).run P w=.ok () { w with heap:=w.heap.setIfInBounds B (.map ms' clk') }->G5 P (do Instr.mapUpdate t (.map (some B)) y z;pure .skip) g (h.set id (.mp es')) fr w (.tup []):=by
       intro es' ms' clk' hs hr' hrun;have hot:∀ b,b≠B->(w.heap.setIfInBounds B (.map ms' clk'))[b]? = w.heap[b]? := fun b hb=>by rw[OA (Ne.symm hb)]
       refine⟨undef,{ w with heap:=w.heap.setIfInBounds B (.map ms' clk') },g,.inr ⟨by simp[hrun],rfl⟩,Le.refl g,s.upd id _ hid g rfl (fun _ _ _=>rfl) (Le.refl g) (by simp) (fun b hb hne=>hot b (fun e=>hne 0 c (by rw[e];exact hpl))) (fun b o u hm => ?_) (fun gen b c hp=> .inl ⟨gen,c,hp⟩)
        ⟨B,c,ms',clk',hpl,by simp[hBlt],hs,hr',h5⟩ rfl rfl rfl,.tup true [] #[] rfl (fun i c v h=>by simp at h)⟩
       have hc:=s.mem b o u hm;have hb:b≠B:=fun e=>by
        subst e;unfold World.cell? at hc;simp[h2]at hc
       unfold World.cell? at hc ⊢;rw[hot b hb];exact hc
      have hck:=K2 F hy hq false 9999 w;rcases M1 hy 0 hK hr with⟨rfl,k2,_⟩ | ⟨u,j,m',x',rfl,k2,k3,k4,k5,k6,k7⟩
      .rw[L8 hr v];refine fin _ (ms.push { key:=y,val:=z,born:=clk }) (clk+1) (by simp[h3]) (fun i p m hp hm => ?_) ?_
       .by_cases hi:i<es.length
        .rw[BA hi]at hp;rw[OG,if_neg (by omega)]at hm;exact h4 i p m hp hm
        .rw[EL (by omega)]at hp;have:i=es.length:=by
          have:=(Ae.1 hp).1;simp at this;omega
         subst this;rw[OG,if_pos h3.symm]at hm;simp at hp;cases hp;cases hm;exact⟨hy,hz⟩
       .have hfk:(Instr.findKey kt y ms.toList).run P w=.ok none w:=by
         simp[Instr.findKey,Ah F hd,k2]
        simp[Instr.mapUpdate,Ah F hu,get_map h2,hck,hfk,TC h2]
      .rw[k7 v];have hmj:ms[j]? = some m':=(by simpa using k2);have hrel:=h4 j _ _ k3 hmj;refine fin _ (ms.modify j fun e => { e with key:=y,val:=z }) clk (by simp[h3]) (fun i p m hp hm => ?_) ?_
       .have hje:=(Ae.1 k3).1;by_cases hi:j=i
        .subst hi;rw[ER hje]at hp;cases hp;rw[OD,if_pos rfl,hmj]at hm;simp at hm;subst hm;exact⟨hy,hz⟩
        .rw[BT hi]at hp;rw[OD,if_neg hi]at hm;exact h4 i p m hp hm
       .have hfk:(Instr.findKey kt y ms.toList).run P w=.ok (some (j,m'.val)) w:=by
         simp[Instr.findKey,Ah F hd,k5]
        have hsb:=PW hy hrel.1 k4 10000;simp[Instr.mapUpdate,Ah F hu,get_map h2,hck,hfk,TC h2,Instr.keyThatStays,hmj,hsb]
   .cases hf
  .cases hf
 .cases hf
include F in
theorem Vw{g:G}{h:AF}{fr:Fr}{w:World}(s:Sim g h fr w){t ty:TypeId}{ts:Array TypeId}(ht:ts[0]? = some t){a:AV}{x:Value}(hx:Rel g true a x){r:OR}(hf:Ad M.ty .len (t::ts.toList.tail) [a] h=some r) :
 ∃ n:Nat,r=.val (.int .i64 n) h/\(Builtin.len_ ts ty #[x]).run P w=.ok (.int .i64 n) w:=by
 simp only[Ad]at hf;split at hf <;> (try simp only[AN]at hf) <;> (try subst hf)
 .rename_i b hu;cases hx;have hsz:(ByteArray.mk b.toArray).size=b.length:=by simp[ByteArray.size]
  exact⟨b.length,rfl,by simp[Builtin.len_,ht,Ah F hu,goInt,hsz]⟩
 .rename_i e hu;cases hx;exact⟨0,rfl,by simp[Builtin.len_,ht,Ah F hu,goInt]⟩
 .rename_i e sz ex es hu;cases hx;exact⟨_,rfl,by simp[Builtin.len_,ht,Ah F hu,goInt]⟩
 .rename_i e _ _ _ _ l _ hu;cases hx;exact⟨_,rfl,by simp[Builtin.len_,ht,Ah F hu,goInt]⟩
 .rename_i k e hu;cases hx;exact⟨0,rfl,by simp[Builtin.len_,ht,Ah F hu,goInt]⟩
 .rename_i k e id hu;split at hf
  .rename_i es hk;simp only[AN]at hf;subst hf;cases hx with
   | hm _ B c hpl=>
    obtain⟨B',c',ms,clk,h1,h2,h3,h4,h5⟩:=s.blk id _ hk;rw[hpl]at h1;simp only[AN,Bk]at h1;obtain⟨rfl,rfl⟩:=h1;exact⟨_,rfl,by simp[Builtin.len_,ht,Ah F hu,goInt,get_map h2,h3]⟩
  .cases hf
 .rename_i n e hu;exact⟨n,rfl,by simp[Builtin.len_,ht,Ah F hu,goInt]⟩
 .cases hf
include F in
theorem Vx{g:G}{h:AF}{w:World}{t ty:TypeId}{ts:Array TypeId}(ht:ts[0]? = some t){a:AV}{x:Value}(hx:Rel g true a x){r:OR}(hf:Ad M.ty .cap (t::ts.toList.tail) [a] h=some r) :
 ∃ n:Nat,r=.val (.int .i64 n) h/\(Builtin.cap_ ts ty #[x]).run P w=.ok (.int .i64 n) w:=by
 simp only[Ad]at hf;split at hf <;> (try simp only[AN]at hf) <;> (try subst hf)
 .rename_i e hu;cases hx;exact⟨0,rfl,by simp[Builtin.cap_,ht,Ah F hu,goInt]⟩
 .rename_i e sz es hu;cases hx with
  | sl _ _ _ _ _ _ c _ _ _ _ hxx=>
   have:=hxx rfl;subst this;exact⟨_,rfl,by simp[Builtin.cap_,ht,Ah F hu,goInt]⟩
 .rename_i e _ _ _ _ l hu;cases hx with
  | hs _ _ _ _ _ _ _ _ _ c' _ _ hc=>
   simp only[if_true]at hc;subst hc;exact⟨_,rfl,by simp[Builtin.cap_,ht,Ah F hu,goInt]⟩
 .cases hf
theorem Vy{g:G}{w:World}{ty:TypeId}{ts:Array TypeId}{als:List AV}{xs:Array Value}(hx:Au g true als xs){v:AV}(hf:Vj als=some v):∃ y,(Builtin.max_ ts ty xs).run P w=.ok y w/\Rel g true v y:=by
 unfold Vj at hf;split at hf
 .rename_i k a k' b;simp only[AN]at hf;subst hf;obtain⟨h1,h2⟩:=hx;obtain⟨xs⟩:=xs
  match xs,h1 with
  | [x,y],_=>
   have e1:=h2 0 _ _ rfl rfl;have e2:=h2 1 _ _ rfl rfl;cases e1;cases e2;exact⟨_,by simp[Builtin.max_,Builtin.max2] <;> rfl,.int _ _ _⟩
 .cases hf
theorem Vz{g:G}{w:World}{ty:TypeId}{ts:Array TypeId}{als:List AV}{xs:Array Value}(hx:Au g true als xs){v:AV}(hf:Vk als=some v):∃ y,(Builtin.min_ ts ty xs).run P w=.ok y w/\Rel g true v y:=by
 unfold Vk at hf;split at hf
 .rename_i k a k' b;simp only[AN]at hf;subst hf;obtain⟨h1,h2⟩:=hx;obtain⟨xs⟩:=xs
  match xs,h1 with
  | [x,y],_=>
   have e1:=h2 0 _ _ rfl rfl;have e2:=h2 1 _ _ rfl rfl;cases e1;cases e2;exact⟨_,by simp[Builtin.min_,Builtin.min2] <;> rfl,.int _ _ _⟩
 .cases hf
end
theorem Sim.lock{g:G}{h:AF}{fr:Fr}{w:World}(s:Sim g h fr w){id gen B c n:Nat}{vs:Array Value}{T:TypeId}{fz:Nat×Nat}(hpl:g.pl id gen=some (B,c))(hb:w.heap[B]? = some (.cells vs T fz))(hid:id<h.length)(k':Blk)
 (hblk:∀ g':G,Le g g'->g'.pl=g.pl->(∀ o,n<=o->g'.mu B o=g.mu B o)->Gl g' id k' w) :
 ∃ g',g'.pl=g.pl/\Le g g'/\Sim g' (h.set id k') fr w/\∀ o v,o<n->vs[o]? = some v->g'.mu B o=some v:=by
 let g':G:=⟨fun b o=>if b=B/\o<n then vs[o]? else g.mu b o,g.pl⟩;have hle:Le g g':=⟨fun b o v hm=>by
  by_cases hh:b=B/\o<n
  .obtain⟨rfl,ho⟩:=hh;have:=s.mem _ _ _ hm;rw[cell_of hb]at this;simp[g',ho,this]
  .simp only[g'];rw[if_neg hh];exact hm,fun _ _ _ h=>h⟩
 have hne:∀ b,b≠B->∀ o,g'.mu b o=g.mu b o:=fun b hb o=>by simp only[g'];rw[if_neg (fun h=>hb h.1)]
 refine⟨g',rfl,hle,⟨fun b o v hm => ?_,fun id' k hk => ?_,fun id' hid' gen=>s.out id' (by rw[Fy]at hid';exact hid') gen,s.inj,s.lt,fun b hF => ?_,s.frS,s.os,s.tape,s.output⟩,fun o v ho hv=>by simp[g',ho,hv]⟩
 .by_cases hh:b=B/\o<n
  .obtain⟨rfl,ho⟩:=hh;rw[cell_of hb];simpa[g',ho]using hm
  .simp only[g']at hm;rw[if_neg hh]at hm;exact s.mem _ _ _ hm
 .by_cases he:id'=id
  .subst he;rw[ER hid]at hk;cases hk;exact hblk g' hle rfl (fun o ho=>by simp only[g'];rw[if_neg (fun h=>by omega)])
  .rw[BT (Ne.symm he)]at hk;exact(s.blk id' k hk).mono hle (fun _=>rfl) (fun gen' B' c' hp o=>hne B' (s.inj _ _ _ _ _ _ _ _ he hp hpl) o) (fun _ _ _ _=>rfl)
 .obtain⟨h1,h2,h3,h4⟩:=s.frF b hF;exact⟨h1,h2,fun o=>by rw[hne b (fun e=>h4 id gen c (e ▸ hpl))];exact h3 o,h4⟩
theorem Sim.V0{g:G}{h:AF}{fr:Fr}{w:World}(s:Sim g h fr w){id:Nat}(hid:id<h.length)(k':Blk)(hblk:Gl g id k' w):Sim g (h.set id k') fr w:=by
 refine⟨s.mem,fun id' k hk => ?_,fun id' hid' gen=>s.out id' (by rw[Fy]at hid';exact hid') gen,s.inj,s.lt,s.frF,s.frS,s.os,s.tape,s.output⟩;by_cases he:id'=id
 .subst he;rw[ER hid]at hk;cases hk;exact hblk
 .rw[BT (Ne.symm he)]at hk;exact s.blk id' k hk
theorem Au.ar{g:G}{b:Bool}{cs:List AV}{vs:Array Value}(s:vs.size=cs.length)(h:∀(i:Nat) c v,cs[i]? = some c->vs[i]? = some v->Rel g b c v):Au g b cs vs.toList.toArray:=by
 rw[HK];exact⟨s,h⟩
def bj(g:G)(b:Bool)(es:List (List AV))(V:Nat->List Value):Prop:=∀(i:Nat) (e:List AV),es[i]? = some e->Au g b e (V i).toArray
theorem Au.head{g:G}{b:Bool}{c:AV}{v:Value}{cs:List AV}{vs:List Value}(h:Au g b (c::cs) (v::vs).toArray):Rel g b c v/\Au g b cs vs.toArray:=
 ⟨h.2 0 c v rfl (by simp),by have:=h.1;simp at this ⊢;exact this,fun i c' v' hc hv=>h.2 (i+1) c' v' (by simpa using hc) (by simpa using hv)⟩
theorem KZ{es:List (List AV)}(h:es.all AG=true){i:Nat}{e:List AV}(he:es[i]? = some e){k:Nat}{x:AV}(hx:e[k]? = some x):x.AA=true:=
 GD (D0.1 h e (C2 he)) hx
theorem dB{g:G}{B sz:Nat}{es:List (List AV)}{vs:Array Value}(hm:∀ o v,o<es.length * sz->vs[o]? = some v->g.mu B o=some v)(hsz:es.length * sz<=vs.size)(hl:∀(i:Nat) (e:List AV),es[i]? = some e->e.length=sz)
 (h1:∀(i:Nat) v,vs[i]? = some v->one v=true) (hr:∀(i:Nat) (e:List AV),es[i]? = some e->∀ k x v,e[k]? = some x->vs[i * sz+k]? = some v->Rel g false x v) (i:Nat) (e:List AV) (he:es[i]? = some e) (k:Nat) (x:AV) (hx:e[k]? = some x) :
 ∃ v,vs[i * sz+k]? = some v/\g.mu B (i * sz+k)=some v/\one v=true/\Rel g false x v:=by
 have hi:=(Ae.1 he).1;have hk:k<sz:=by rw[<- hl i e he];exact(Ae.1 hx).1
 have hmul:(i+1) * sz<=es.length * sz:=GK _ hi;rw[Ge]at hmul;have hv:vs[i * sz+k]? = some vs[i * sz+k]:=E6 (by omega);exact⟨_,hv,hm _ _ (by omega) hv,h1 _ _ hv,hr i e he k x _ hx hv⟩
theorem TD{g:G}{h:AF}{fr:Fr}{w:World}(s:Sim g h fr w){id sz:Nat}{lk:Bool}{es es':List (List AV)}(hk:h[id]? = some (.arr sz lk es))(hlen:es'.length=es.length)
 (hl:∀(i:Nat) (e:List AV),es'[i]? = some e->e.length=sz)
 (hr:∀ B c vs T fz,g.pl id es.length=some (B,c)->w.heap[B]? = some (.cells vs T fz)->∀(i:Nat) (e:List AV),es'[i]? = some e->∀ k x v,e[k]? = some x->vs[i * sz+k]? = some v->Rel g false x v) :
 ∃(g':G) (B c:Nat) (vs:Nat->Option Value),g'.pl=g.pl/\Le g g'/\Sim g' (h.set id (.arr sz true es')) fr w/\g.pl id es.length=some (B,c)/\es.length<=c /\
  ∀(i:Nat) (e:List AV),es'[i]? = some e->∀ k x,e[k]? = some x->∃ v,vs (i * sz+k)=some v/\g'.mu B (i * sz+k)=some v/\one v=true/\Rel g' false x v:=by
 have hid:id<h.length:=(Ae.1 hk).1;obtain⟨B,c,vs,T,fz,q1,q2,q3,q4,q5,q6,q7,q8,q9,q10⟩:=s.blk id _ hk;have hr':=hr B c vs T fz q1 q2;obtain⟨g',p1,p2,p3,p4⟩:=s.lock (n:=es.length * sz) q1 q2 hid (.arr sz true es') (fun g' a b d=>
  ⟨B,c,vs,T,fz,by rw[b,hlen];exact q1,q2,q3,by omega,q5,hl,q7,fun i e he k x v hx hv=>((hr' i e he k x v hx hv).mono a).up,
   fun o ho=>by
    have ho:=ho rfl;rw[hlen]at ho;rw[d o ho];exact q9 o (fun _=>ho),fun gen hgen=>by rw[b];exact q10 gen (by omega)⟩)
 refine⟨g',B,c,fun o=>vs[o]?,p1,p2,p3,q1,q4,fun i e he k x hx => ?_⟩;exact dB (fun o v ho hv=>p4 o v (by rw[<- hlen];exact ho) hv) (by rw[q3,hlen];exact GK _ q4) hl q7 (fun i e he k x v hx hv=>(hr' i e he k x v hx hv).mono p2) i e he k x hx
theorem Au.imm{g g':G}{cs:List AV}{vs:Array Value}(h:Au g true cs vs)(hn:AG cs=true)(hm:∀ B o x,g.mu B o=some x->g'.mu B o=some x)(b:Bool):Au g' b cs vs:=
 ⟨h.1,fun i c v hc hv=>(h.2 i c v hc hv).ID (GD hn hc) hm⟩
theorem JV{fr:Fr}{w:World}:∀ n:Nat,
 (∀{v v':AV} {h h':AF} {g:G} {x:Value},snap n v h=some (v',h')->Sim g h fr w->Rel g true v x->∃ g',g'.pl=g.pl/\Le g g'/\Sim g' h' fr w/\h'.length=h.length/\Rel g' false v' x) /\
 (∀{cs cs':List AV} {h h':AF} {g:G} {xs:List Value},GS n cs h=some (cs',h')->Sim g h fr w->Au g true cs xs.toArray->∃ g',g'.pl=g.pl/\Le g g'/\Sim g' h' fr w/\h'.length=h.length/\Au g' false cs' xs.toArray) /\
 (∀{es es':List (List AV)} {h h':AF} {g:G} {V:Nat->List Value},GU n es h=some (es',h')->Sim g h fr w->bj g true es V->∃ g',g'.pl=g.pl/\Le g g'/\Sim g' h' fr w/\h'.length=h.length/\bj g' false es' V/\es'.length=es.length)
 | 0=>⟨fun h=>by simp[snap]at h,fun h=>by simp[GS]at h,fun h=>by simp[GU]at h⟩
 | n+1=>by
  obtain⟨ih1,ih2,ih3⟩ := @JV fr w n;refine⟨?_,?_,?_⟩
  .intro v v' h h' g x hs sim hx;have plain:v.AA=true->(v',h')=(v,h)->∃ g',g'.pl=g.pl/\Le g g'/\Sim g' h' fr w/\h'.length=h.length/\Rel g' false v' x:=fun hn he=>by
    cases he;exact⟨g,rfl,Le.refl g,sim,rfl,hx.AA hn⟩
   cases v with
   | undef=>simp only[snap,AN]at hs;exact plain rfl hs.symm
   | bool=>simp only[snap,AN]at hs;exact plain rfl hs.symm
   | int=>simp only[snap,AN]at hs;exact plain rfl hs.symm
   | str=>simp only[snap,AN]at hs;exact plain rfl hs.symm
   | ED=>simp only[snap,AN]at hs;exact plain rfl hs.symm
   | ro=>simp only[snap,AN]at hs;exact plain rfl hs.symm
   | AH=>simp only[snap,AN]at hs;exact plain rfl hs.symm
   | sl=>simp only[snap,AN]at hs;exact plain rfl hs.symm
   | Ga=>simp only[snap,AN]at hs;exact plain rfl hs.symm
   | Gc=>simp only[snap,AN]at hs;exact plain rfl hs.symm
   | I7=>simp only[snap,AN]at hs;exact plain rfl hs.symm
   | hm=>simp[snap]at hs
   | iface t u=>
    simp only[snap,Dx]at hs;obtain⟨⟨u',h1⟩,hs1,hs2⟩:=hs;simp only[Bk]at hs2;obtain⟨rfl,rfl⟩:=hs2;cases hx with
    | iface _ _ _ y hy=>
     obtain⟨g',a1,a2,a3,a4,a5⟩:=ih1 hs1 sim hy;exact⟨g',a1,a2,a3,a4,.iface false t u' y a5⟩
   | agg cs=>
    simp only[snap]at hs;split at hs
    .rename_i hn;simp only[AN]at hs;exact plain (by simpa[AV.AA]using hn) hs.symm
    .simp only[Dx]at hs;obtain⟨⟨u',h1⟩,hs1,hs2⟩:=hs;simp only[Bk]at hs2;obtain⟨rfl,rfl⟩:=hs2;cases hx with
     | agg _ _ vs sz h1 h2=>
      obtain⟨g',a1,a2,a3,a4,a5⟩:=ih2 (xs:=vs.toList) hs1 sim (Au.ar sz h2);simp only[HK]at a5;exact⟨g',a1,a2,a3,a4,.agg false u' vs a5.1 h1 a5.2⟩
   | tup cs=>
    simp only[snap]at hs;split at hs
    .rename_i hn;simp only[AN]at hs;exact plain (by simpa[AV.AA]using hn) hs.symm
    .simp only[Dx]at hs;obtain⟨⟨u',h1⟩,hs1,hs2⟩:=hs;simp only[Bk]at hs2;obtain⟨rfl,rfl⟩:=hs2;cases hx with
     | tup _ _ vs sz h2=>
      obtain⟨g',a1,a2,a3,a4,a5⟩:=ih2 (xs:=vs.toList) hs1 sim (Au.ar sz h2);simp only[HK]at a5;exact⟨g',a1,a2,a3,a4,.tup false u' vs a5.1 a5.2⟩
   | fn f fs cs=>
    simp only[snap]at hs;split at hs
    .rename_i hn;simp only[AN]at hs;exact plain (by simpa[AV.AA]using hn) hs.symm
    .split at hs
     .rename_i fs' h1 hs1;simp only[Dx]at hs;obtain⟨⟨cs',h2⟩,hs2,hs3⟩:=hs;simp only[Bk]at hs3;obtain⟨rfl,rfl⟩:=hs3;cases hx with
      | fn _ _ _ _ us vs s1 s2 k1 k2=>
       obtain⟨g1,a1,a2,a3,a4,a5⟩:=ih2 (xs:=us.toList) hs1 sim (Au.ar s1 k1);obtain⟨g2,b1,b2,b3,b4,b5⟩:=ih2 (xs:=vs.toList) hs2 a3 ((Au.ar s2 k2).mono a2);simp only[HK]at a5 b5;have a5':=a5.mono b2;exact⟨g2,b1.trans a1,a2.trans b2,b3,by omega,.fn false f fs' cs' us vs a5'.1 b5.1 a5'.2 b5.2⟩
     .cases hs
   | hp id off=>
    simp only[snap]at hs;split at hs
    .rename_i lk cs hk;split at hs
     .rename_i cs' h1 hs1;split at hs
      .rename_i lk' cs0 hk1;simp only[AN,Bk]at hs;obtain⟨rfl,rfl⟩:=hs;cases hx with
       | hp _ _ B c hpl=>
        obtain⟨B',c',vs,T,q1,q2,q3,q4,q5,q6⟩:=sim.blk id _ hk;rw[hpl]at q1;simp only[AN,Bk]at q1;obtain⟨rfl,rfl⟩:=q1;obtain⟨g1,a1,a2,a3,a4,a5⟩:=ih2 (xs:=vs.toList) hs1 sim (by simpa using q3);simp only[HK]at a5;have hid:id<h1.length:=(Ae.1 hk1).1;obtain⟨g2,p1,p2,p3,p4⟩:=a3.lock (n:=vs.size) (id:=id) (gen:=0) (c:=c) (by rw[a1];exact hpl) q2 hid (.var true cs') (fun g' d1 d2 d3=>
         ⟨B,c,vs,T,by rw[d2,a1];exact hpl,q2,⟨a5.1,fun i c v hc hv=>((a5.2 i c v hc hv).mono d1).up⟩,q4,(fun hh=>by cases hh),fun gen hgen=>by rw[d2,a1];exact q6 gen hgen⟩)
        refine⟨g2,p1.trans a1,a2.trans p2,p3,by rw[Fy];exact a4,.ro false _ B off (fun i=>vs.getD (off+i) undef) (fun i c hc => ?_) (fun i c hc => ?_) (fun i c hc => ?_)⟩
        all_goals
         rw[H9]at hc;have hlt:off+i<vs.size:=(by rw[a5.1];exact(Ae.1 hc).1);have hv:vs[off+i]? = some vs[off+i]:=E6 hlt;have hd:vs.getD (off+i) undef=vs[off+i]:=(by simp[hlt]);rw[hd]
        .exact p4 _ _ hlt hv
        .exact q4 _ _ hv
        .exact(a5.2 _ _ _ hc hv).mono p2
      .cases hs
     .cases hs
    .cases hs
   | ep id gen sz i k=>
    simp only[snap]at hs;split at hs
    .rename_i sz' lk es hk;split at hs
     .rename_i hc;simp only[BU,Bl]at hc;obtain⟨⟨hgen,rfl⟩,hn⟩:=hc;simp only[Dx]at hs;obtain⟨e,he,hs⟩:=hs;simp only[Bk]at hs;obtain⟨rfl,rfl⟩:=hs;cases hx with
      | ep _ _ _ _ _ B c hpl=>
       obtain⟨B',c',vs',T,fz,q1,q2,q3,q4,q5,q6,q7,q8,q9,q10⟩:=sim.blk id _ hk;obtain⟨g',B2,c2,vs,p1,p2,p3,p4,p5,p6⟩:=TD sim hk rfl q6 (fun B1 c1 vs1 T1 fz1 e1 e2 i e he k x v hx hv=>by
        rw[q1]at e1;simp only[AN,Bk]at e1;obtain⟨rfl,rfl⟩:=e1;rw[q2]at e2;simp only[AN,Obj.cells.injEq]at e2;obtain⟨rfl,rfl,rfl⟩:=e2;exact(q8 i e he k x v hx hv).AA (KZ hn he hx))
       rw[hgen,hpl]at p4;simp only[AN,Bk]at p4;obtain⟨rfl,rfl⟩:=p4;refine⟨g',p1,p2,p3,by rw[Fy],.ro false _ B (i * sz'+k) (fun m=>(vs (i * sz'+(k+m))).getD undef) (fun m x hx => ?_) (fun m x hx => ?_) (fun m x hx => ?_)⟩
       all_goals
        rw[H9]at hx;obtain⟨v,r1,r2,r3,r4⟩:=p6 i e he _ x hx;simp only[r1,GQ]
       .rw[Kv];exact r2
       .exact r3
       .exact r4
     .cases hs
    .cases hs
   | hs id gen sz off len ex=>
    simp only[snap]at hs;split at hs
    .rename_i sz' lk es hk;have fin:∀(g1:G) (h1:AF) (lk1:Bool) (es es':List (List AV)),g1.pl=g.pl->Le g g1->Sim g1 h1 fr w->h1.length=h.length->h1[id]? = some (.arr sz' lk1 es)->es.length=gen->sz'=sz->off+len<=es.length->es'.length=es.length ->
      (∀(i:Nat) (e:List AV),es'[i]? = some e->e.length=sz)->(∀ B c vs T fz,g1.pl id es.length=some (B,c)->w.heap[B]? = some (.cells vs T fz)->∀(i:Nat) (e:List AV),es'[i]? = some e->∀ k x v,e[k]? = some x->vs[i * sz+k]? = some v->Rel g1 false x v) ->
      ∃ g',g'.pl=g.pl/\Le g g'/\Sim g' (h1.set id (.arr sz' true es')) fr w/\(h1.set id (.arr sz' true es')).length=h.length/\Rel g' false (.sl sz ex ((es'.drop off).take len)) x:=by
      intro g1 h1 lk1 es es' a1 a2 a3 a4 hk1 hgen hszz hle hlen hl hr;subst hszz;cases hx with
      | hs _ _ _ _ _ _ B c o c' hpl h0 hc ho=>
       obtain⟨g',B2,c2,vs,p1,p2,p3,p4,p5,p6⟩:=TD a3 hk1 hlen hl hr;rw[hgen,a1,hpl]at p4;simp only[AN,Bk]at p4;obtain⟨rfl,rfl⟩:=p4;have hlen2:((es'.drop off).take len).length=len:=(by simp;omega);have get':∀(i:Nat) e,((es'.drop off).take len)[i]? = some e->es'[off+i]? = some e/\i<len:=fun i e he=>by
        have hi:i<len:=(by have:=(Ae.1 he).1;omega);rw[Kp hi,H9]at he;exact⟨he,hi⟩
       have hcc:len<=c':=(by subst hc;split <;> omega);have hoo:∀ i,i<len->o=off * sz':=fun i hi=>ho (by omega)
       refine⟨g',p1.trans a1,a2.trans p2,p3,by rw[Fy];exact a4,?_⟩;have:=Rel.sl (g:=g') false sz' ex ((es'.drop off).take len) B o c' _ (.inl rfl) (fun i k=>(vs ((off+i) * sz'+k)).getD undef) (by omega) (fun hx=>by subst hc;rw[hx];simp[hlen2]) (fun i e he=>hl _ e (get' i e he).1) (fun i e he k x hx => ?_) (fun i e he k x hx => ?_) (fun i e he k x hx => ?_)
       .rw[hlen2]at this;exact this
       all_goals
        obtain⟨he,hi⟩:=get' i e he;obtain⟨v,r1,r2,r3,r4⟩:=p6 _ e he _ x hx;simp only[r1,GQ]
       .rw[hoo i hi,<- KO];exact r2
       .exact r3
       .exact r4
     split at hs
     .rename_i hc;simp only[BU,Bl,Gb]at hc;obtain⟨⟨⟨hgen,hszz⟩,hle⟩,hn⟩:=hc;simp only[AN,Bk]at hs;obtain⟨rfl,rfl⟩:=hs;obtain⟨B',c',vs',T,fz,q1,q2,q3,q4,q5,q6,q7,q8,q9,q10⟩:=sim.blk id _ hk;refine fin g h lk es es rfl (Le.refl g) sim rfl hk hgen hszz hle rfl (by rw[<- hszz];exact q6) (fun B1 c1 vs1 T1 fz1 e1 e2 i e he k x v hx hv => ?_);rw[q1]at e1;simp only[AN,Bk]at e1;obtain⟨rfl,rfl⟩:=e1;rw[q2]at e2;simp only[AN,Obj.cells.injEq]at e2;obtain⟨rfl,rfl,rfl⟩:=e2;rw[<- hszz]at hv;exact(q8 i e he k x v hx hv).AA (KZ hn he hx)
     .split at hs
      .rename_i hc;simp only[BU,Bl,Gb]at hc;obtain⟨⟨hgen,hszz⟩,hle⟩:=hc;split at hs
       .rename_i es' h1 hs1;split at hs
        .rename_i sz2 lk2 es2 hk2;split at hs
         .rename_i hc2;simp only[BU,Bl]at hc2;obtain⟨hz2,hl2⟩:=hc2;simp only[AN,Bk]at hs;obtain⟨rfl,rfl⟩:=hs;obtain⟨B',c',vs',T,fz,q1,q2,q3,q4,q5,q6,q7,q8,q9,q10⟩:=sim.blk id _ hk;obtain⟨g1,a1,a2,a3,a4,a5,a6⟩:=ih3 (V:=fun i=>(vs'.extract (i * sz') (i * sz'+sz')).toList) hs1 sim (fun i e he=>by
           rw[HK];have hie:=(Ae.1 he).1;have hmul:(i+1) * sz'<=c' * sz':=GK _ (by omega);rw[Ge]at hmul;refine⟨by rw[q6 i e he];simp;omega,fun k x v hx hv => ?_⟩;rw[OC]at hv;split at hv
           .exact q8 i e he k x v hx hv
           .cases hv)
          have hl':∀(i:Nat) (e:List AV),es'[i]? = some e->e.length=sz':=fun i e he=>by
           have hie:=(Ae.1 he).1;have hmul:(i+1) * sz'<=c' * sz':=GK _ (by omega);rw[Ge]at hmul;have:=(a5 i e he).1;simp at this;omega
          subst hz2;refine fin g1 h1 lk2 es2 es' a1 a2 a3 a4 hk2 (by omega) hszz (by omega) (by omega) (by rw[<- hszz];exact hl') (fun B1 c1 vs1 T1 fz1 e1 e2 i e he k x v hx hv => ?_);rw[hl2,a1,q1]at e1;simp only[AN,Bk]at e1;obtain⟨rfl,rfl⟩:=e1;rw[q2]at e2;simp only[AN,Obj.cells.injEq]at e2;obtain⟨rfl,rfl,rfl⟩:=e2;rw[<- hszz]at hv;have hk':k<sz2:=(by rw[<- hl' i e he];exact(Ae.1 hx).1);refine(a5 i e he).2 k x v hx ?_;rw[HK,OC,if_pos]
          .exact hv
          .have:=(Kn.1 hv).1;omega
         .cases hs
        .cases hs
       .cases hs
      .cases hs
    .cases hs
  .intro cs cs' h h' g xs hs sim hx;cases cs with
   | nil=>
    simp only[GS,AN,Bk]at hs;obtain⟨rfl,rfl⟩:=hs;exact⟨g,rfl,Le.refl g,sim,rfl,⟨hx.1,fun i c v hc=>by simp at hc⟩⟩
   | cons c cs=>
    simp only[GS]at hs;split at hs
    .rename_i c' h1 hs1;split at hs
     .rename_i cs2 h2 hs2;simp only[AN,Bk]at hs;obtain⟨rfl,rfl⟩:=hs;cases xs with
      | nil=>have:=hx.1;simp at this
      | cons x xs=>
       obtain⟨k1,k2⟩:=hx.head;obtain⟨g1,a1,a2,a3,a4,a5⟩:=ih1 hs1 sim k1;obtain⟨g2,b1,b2,b3,b4,b5⟩:=ih2 hs2 a3 (k2.mono a2);exact⟨g2,b1.trans a1,a2.trans b2,b3,by omega,Au.cons (a5.mono b2) b5⟩
     .cases hs
    .cases hs
  .intro es es' h h' g V hs sim hx;cases es with
   | nil=>
    simp only[GU,AN,Bk]at hs;obtain⟨rfl,rfl⟩:=hs;exact⟨g,rfl,Le.refl g,sim,rfl,fun i e he=>by simp at he,rfl⟩
   | cons e es=>
    simp only[GU]at hs;split at hs
    .rename_i e' h1 hs1;split at hs
     .rename_i es2 h2 hs2;simp only[AN,Bk]at hs;obtain⟨rfl,rfl⟩:=hs;obtain⟨g1,a1,a2,a3,a4,a5⟩:=ih2 hs1 sim (hx 0 e rfl);obtain⟨g2,b1,b2,b3,b4,b5,b6⟩:=ih3 (V:=fun i=>V (i+1)) hs2 a3 (fun i e he=>(hx (i+1) e (by simpa using he)).mono a2);refine⟨g2,b1.trans a1,a2.trans b2,b3,by omega,fun i e he => ?_,by simp[b6]⟩;cases i with
      | zero=>simp at he;exact he ▸ a5.mono b2
      | succ i=>exact b5 i e (by simpa using he)
     .cases hs
    .cases hs
end Go.Am
