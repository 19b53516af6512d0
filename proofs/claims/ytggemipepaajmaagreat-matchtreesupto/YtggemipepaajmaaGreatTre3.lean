/- Part 3. -/
import Derived.Test.YtggemipepaajmaaGreatTre2
import Derived.Laws.World
set_option linter.all false
namespace Go.Am
open Go
theorem Bl{a b:Nat}:Nat.beq a b=true↔a=b:=⟨P8,fun h=>h ▸ JM a⟩
theorem Gb{a b:Nat}:Nat.ble a b=true↔a<=b:=⟨Nat.le_of_ble_eq_true,Nat.ble_eq_true_of_le⟩
theorem FQ{a b:Nat}:Nat.blt a b=true↔a<b:=⟨Nat.le_of_ble_eq_true,Nat.ble_eq_true_of_le⟩
structure G where
 mu:Nat->Nat->Option Value
 pl:Nat->Nat->Option (Nat×Nat)
def one:Value->Bool
 | .agg _=>false
 | .tuple _=>false
 | _=>true
inductive Rel(g:G):Bool->AV->Value->Prop where
 | undef (b:Bool) (v:Value):Rel g b .undef v
 | bool (b:Bool) (x:Bool):Rel g b (.bool x) (.bool x)
 | int (b:Bool) (k:IntKind) (n:Int):Rel g b (.int k n) (.int k n)
 | str (b:Bool) (s:List UInt8):Rel g b (.str s) (.string ⟨s.toArray⟩)
 | ED (b:Bool):Rel g b .ED (.pointer none)
 | ro (b:Bool) (cs:List AV) (B o:Nat) (vs:Nat->Value) (h1:∀ i c,cs[i]? = some c->g.mu B (o+i)=some (vs i))
  (h2:∀ i c,cs[i]? = some c->one (vs i)=true) (h3:∀ i c,cs[i]? = some c->Rel g false c (vs i)):Rel g b (.ro cs) (.pointer (some ⟨B,o,none⟩))
 | hp (id off B c:Nat) (h:g.pl id 0=some (B,c)):Rel g true (.hp id off) (.pointer (some ⟨B,off,none⟩))
 | ep (id gen sz i k B c:Nat) (h:g.pl id gen=some (B,c)):Rel g true (.ep id gen sz i k) (.pointer (some ⟨B,i * sz+k,none⟩))
 | AH (b:Bool):Rel g b .AH (.slice none 0 0)
 | sl (b:Bool) (sz:Nat) (ex:Bool) (es:List (List AV)) (B o c:Nat) (ad:Addr) (ha:ad=⟨B,o,none⟩\/c=0) (vs:Nat->Nat->Value) (h0:es.length<=c) (hx:ex=true->c=es.length)
  (hs:∀(i:Nat) (e:List AV),es[i]? = some e->e.length=sz)
  (h1:∀ i e,es[i]? = some e->∀ k x,e[k]? = some x->g.mu B (o+i * sz+k)=some (vs i k))
  (h2:∀ i e,es[i]? = some e->∀ k x,e[k]? = some x->one (vs i k)=true)
  (h3:∀ i e,es[i]? = some e->∀ k x,e[k]? = some x->Rel g false x (vs i k)):Rel g b (.sl sz ex es) (.slice (some ad) es.length c)
 | hs (id gen sz off len:Nat) (ex:Bool) (B c o c':Nat) (h:g.pl id gen=some (B,c)) (h0:off+len<=c) (hc:c'=if ex then len else c - off) (ho:c'≠0->o=off * sz) :
  Rel g true (.hs id gen sz off len ex) (.slice (some ⟨B,o,none⟩) len c')
 | Ga (b:Bool):Rel g b .Ga (.map none)
 | hm (id B c:Nat) (h:g.pl id 0=some (B,c)):Rel g true (.hm id) (.map (some B))
 | fn (b:Bool) (f:FuncId) (fs cs:List AV) (us vs:Array Value) (s1:us.size=fs.length) (s2:vs.size=cs.length)
  (h1:∀(i:Nat) c v,fs[i]? = some c->us[i]? = some v->Rel g b c v) (h2:∀(i:Nat) c v,cs[i]? = some c->vs[i]? = some v->Rel g b c v):Rel g b (.fn f fs cs) (.func (.func f) us vs)
 | Gc (b:Bool):Rel g b .Gc .nilFunc
 | iface (b:Bool) (t:TypeId) (a:AV) (v:Value) (h:Rel g b a v):Rel g b (.iface t a) (.iface t v)
 | I7 (b:Bool):Rel g b .I7 .nilIface
 | agg (b:Bool) (cs:List AV) (vs:Array Value) (s:vs.size=cs.length) (h1:∀(i:Nat) v,vs[i]? = some v->one v=true)
  (h2:∀(i:Nat) c v,cs[i]? = some c->vs[i]? = some v->Rel g b c v):Rel g b (.agg cs) (.agg vs)
 | tup (b:Bool) (cs:List AV) (vs:Array Value) (s:vs.size=cs.length) (h2:∀(i:Nat) c v,cs[i]? = some c->vs[i]? = some v->Rel g b c v):Rel g b (.tup cs) (.tuple vs)
structure Le(g g':G):Prop where
 mu:∀ b o v,g.mu b o=some v->g'.mu b o=some v
 pl:∀ id gen x,g.pl id gen=some x->g'.pl id gen=some x
theorem Le.refl(g:G):Le g g:=⟨fun _ _ _ h=>h,fun _ _ _ h=>h⟩
theorem Le.trans{a b c:G}(h:Le a b)(k:Le b c):Le a c:=⟨fun _ _ _ x=>k.mu _ _ _ (h.mu _ _ _ x),fun _ _ _ x=>k.pl _ _ _ (h.pl _ _ _ x)⟩
theorem Rel.mono{g g':G}(hg:Le g g'){b:Bool}{a:AV}{v:Value}(h:Rel g b a v):Rel g' b a v:=by
 induction h with
 | undef=>exact .undef _ _
 | bool=>exact .bool _ _
 | int=>exact .int _ _ _
 | str=>exact .str _ _
 | ED=>exact .ED _
 | ro b cs B o vs h1 h2 h3 ih=>exact .ro b cs B o vs (fun i c hc=>hg.mu _ _ _ (h1 i c hc)) h2 ih
 | hp id off B c h=>exact .hp id off B c (hg.pl _ _ _ h)
 | ep id gen sz i k B c h=>exact .ep id gen sz i k B c (hg.pl _ _ _ h)
 | AH=>exact .AH _
 | sl b sz ex es B o c ad ha vs h0 hx hs h1 h2 h3 ih=>exact .sl b sz ex es B o c ad ha vs h0 hx hs (fun i e he k x hx=>hg.mu _ _ _ (h1 i e he k x hx)) h2 ih
 | hs id gen sz off len ex B c o c' h h0 hc ho=>exact .hs id gen sz off len ex B c o c' (hg.pl _ _ _ h) h0 hc ho
 | Ga=>exact .Ga _
 | hm id B c h=>exact .hm id B c (hg.pl _ _ _ h)
 | fn b f fs cs us vs s1 s2 h1 h2 ih1 ih2=>exact .fn b f fs cs us vs s1 s2 ih1 ih2
 | Gc=>exact .Gc _
 | iface b t a v h ih=>exact .iface b t a v ih
 | I7=>exact .I7 _
 | agg b cs vs s h1 h2 ih=>exact .agg b cs vs s h1 ih
 | tup b cs vs s h2 ih=>exact .tup b cs vs s ih
theorem Rel.imm{g:G}{b:Bool}{a:AV}{v:Value}(h:Rel g b a v):b=false->∀(g':G),(∀ B o x,g.mu B o=some x->g'.mu B o=some x)->∀ b',Rel g' b' a v:=by
 induction h with
 | undef=>exact fun _ _ _ _=> .undef _ _
 | bool=>exact fun _ _ _ _=> .bool _ _
 | int=>exact fun _ _ _ _=> .int _ _ _
 | str=>exact fun _ _ _ _=> .str _ _
 | ED=>exact fun _ _ _ _=> .ED _
 | ro b cs B o vs h1 h2 h3 ih=>exact fun _ g' hm b'=> .ro b' cs B o vs (fun i c hc=>hm _ _ _ (h1 i c hc)) h2 (fun i c hc=>ih i c hc rfl g' hm false)
 | hp id off B c h=>exact fun h=>by cases h
 | ep id gen sz i k B c h=>exact fun h=>by cases h
 | AH=>exact fun _ _ _ _=> .AH _
 | sl b sz ex es B o c ad ha vs h0 hx hs h1 h2 h3 ih=>exact fun _ g' hm b'=> .sl b' sz ex es B o c ad ha vs h0 hx hs (fun i e he k x hx=>hm _ _ _ (h1 i e he k x hx)) h2 (fun i e he k x hx=>ih i e he k x hx rfl g' hm false)
 | hs id gen sz off len ex B c o c' h h0 hc ho=>exact fun h=>by cases h
 | Ga=>exact fun _ _ _ _=> .Ga _
 | hm id B c h=>exact fun h=>by cases h
 | fn b f fs cs us vs s1 s2 h1 h2 ih1 ih2=>exact fun hb g' hm b'=> .fn b' f fs cs us vs s1 s2 (fun i c v hc hv=>ih1 i c v hc hv hb g' hm b') (fun i c v hc hv=>ih2 i c v hc hv hb g' hm b')
 | Gc=>exact fun _ _ _ _=> .Gc _
 | iface b t a v h ih=>exact fun hb g' hm b'=> .iface b' t a v (ih hb g' hm b')
 | I7=>exact fun _ _ _ _=> .I7 _
 | agg b cs vs s h1 h2 ih=>exact fun hb g' hm b'=> .agg b' cs vs s h1 (fun i c v hc hv=>ih i c v hc hv hb g' hm b')
 | tup b cs vs s h2 ih=>exact fun hb g' hm b'=> .tup b' cs vs s (fun i c v hc hv=>ih i c v hc hv hb g' hm b')
theorem GD{cs:List AV}(h:AG cs=true){i:Nat}{c:AV}(hc:cs[i]? = some c):c.AA=true:=by
 induction cs generalizing i with
 | nil=>simp at hc
 | cons a r ih=>
  simp only[AG,BU]at h;cases i with
  | zero=>simp at hc;exact hc ▸ h.1
  | succ i=>exact ih h.2 (by simpa using hc)
theorem Rel.AA{g:G}{b:Bool}{a:AV}{v:Value}(h:Rel g b a v):a.AA=true->Rel g false a v:=by
 induction h with
 | undef=>exact fun _=> .undef _ _
 | bool=>exact fun _=> .bool _ _
 | int=>exact fun _=> .int _ _ _
 | str=>exact fun _=> .str _ _
 | ED=>exact fun _=> .ED _
 | ro b cs B o vs h1 h2 h3 ih=>exact fun _=> .ro false cs B o vs h1 h2 h3
 | hp id off B c h=>exact fun h=>by simp[AV.AA]at h
 | ep id gen sz i k B c h=>exact fun h=>by simp[AV.AA]at h
 | AH=>exact fun _=> .AH _
 | sl b sz ex es B o c ad ha vs h0 hx hs h1 h2 h3 ih=>exact fun _=> .sl false sz ex es B o c ad ha vs h0 hx hs h1 h2 h3
 | hs id gen sz off len ex B c o c' h h0 hc ho=>exact fun h=>by simp[AV.AA]at h
 | Ga=>exact fun _=> .Ga _
 | hm id B c h=>exact fun h=>by simp[AV.AA]at h
 | fn b f fs cs us vs s1 s2 h1 h2 ih1 ih2=>
  intro h;simp only[AV.AA,BU]at h;exact .fn false f fs cs us vs s1 s2 (fun i c v hc hv=>ih1 i c v hc hv (GD h.1 hc)) (fun i c v hc hv=>ih2 i c v hc hv (GD h.2 hc))
 | Gc=>exact fun _=> .Gc _
 | iface b t a v h ih=>exact fun hn=> .iface false t a v (ih (by simpa[AV.AA]using hn))
 | I7=>exact fun _=> .I7 _
 | agg b cs vs s h1 h2 ih=>
  intro h;simp only[AV.AA]at h;exact .agg false cs vs s h1 (fun i c v hc hv=>ih i c v hc hv (GD h hc))
 | tup b cs vs s h2 ih=>
  intro h;simp only[AV.AA]at h;exact .tup false cs vs s (fun i c v hc hv=>ih i c v hc hv (GD h hc))
theorem Rel.up{g:G}{a:AV}{v:Value}(h:Rel g false a v):Rel g true a v:=h.imm rfl g (fun _ _ _ h=>h) true
theorem Rel.ID{g g':G}{b b':Bool}{a:AV}{v:Value}(h:Rel g b a v)(hn:a.AA=true)(hm:∀ B o x,g.mu B o=some x->g'.mu B o=some x):Rel g' b' a v:=
 (h.AA hn).imm rfl g' hm b'
theorem Rel.one{g:G}{b:Bool}{a:AV}{v:Value}(h:Rel g b a v)(hc:a.KW=true):one v=true:=by
 cases h <;> simp_all[AV.KW,Am.one]
def Au(g:G)(b:Bool)(cs:List AV)(vs:Array Value):Prop:=vs.size=cs.length/\∀(i:Nat) c v,cs[i]? = some c->vs[i]? = some v->Rel g b c v
theorem Au.mono{g g':G}(hg:Le g g'){b:Bool}{cs:List AV}{vs:Array Value}(h:Au g b cs vs):Au g' b cs vs:=⟨h.1,fun i c v hc hv=>(h.2 i c v hc hv).mono hg⟩
theorem Au.nil(g:G)(b:Bool):Au g b [] #[]:=⟨rfl,fun i c v h=>by simp at h⟩
theorem Au.cons{g:G}{b:Bool}{c:AV}{v:Value}{cs:List AV}{vs:List Value}(h:Rel g b c v)(hs:Au g b cs vs.toArray):Au g b (c::cs) (v::vs).toArray:=by
 refine⟨by have:=hs.1;simp at this ⊢;exact this,fun i c' v' hc hv => ?_⟩;cases i with
 | zero=>simp at hc hv;exact hc ▸ hv ▸ h
 | succ i=>exact hs.2 i c' v' (by simpa using hc) (by simpa using hv)
theorem Au.append{g:G}{b:Bool}{cs ds:List AV}{us vs:Array Value}(h:Au g b cs us)(k:Au g b ds vs):Au g b (cs++ds) (us++vs):=by
 refine⟨by simp[h.1,k.1],fun i c v hc hv => ?_⟩;by_cases hi:i<cs.length
 .rw[BA hi]at hc;rw[Km (by rw[h.1];exact hi)]at hv;exact h.2 i c v hc hv
 .rw[EL (by omega)]at hc;rw[S4 (by rw[h.1];omega)]at hv;rw[h.1]at hv;exact k.2 _ c v hc hv
def noneFrozen(n:Nat)(fr:Nat×Nat):Prop:=∀ o,o<n->¬ (fr.1<=o/\o<fr.2)
def Gl(g:G)(id:Nat)(k:Blk)(w:World):Prop:=
 match k with
 | .var lk cs=>∃ B c vs T,g.pl id 0=some (B,c)/\w.heap[B]? = some (.cells vs T (0,0))/\Au g true cs vs/\(∀(i:Nat) v,vs[i]? = some v->one v=true) /\
  (lk=false->∀ o,g.mu B o=none)/\∀ gen,0<gen->g.pl id gen=none
 | .arr sz lk es=>∃ B c vs T fr,g.pl id es.length=some (B,c)/\w.heap[B]? = some (.cells vs T fr)/\vs.size=c * sz/\es.length<=c/\noneFrozen vs.size fr /\
  (∀(i:Nat) (e:List AV),es[i]? = some e->e.length=sz)/\(∀(i:Nat) v,vs[i]? = some v->one v=true) /\
  (∀(i:Nat) (e:List AV),es[i]? = some e->∀ k x v,e[k]? = some x->vs[i * sz+k]? = some v->Rel g true x v) /\
  (∀ o,(lk=true->es.length * sz<=o)->g.mu B o=none)/\∀ gen,es.length<gen->g.pl id gen=none
 | .mp es=>∃ B c ms clk,g.pl id 0=some (B,c)/\w.heap[B]? = some (.map ms clk)/\ms.size=es.length /\
  (∀(i:Nat) p m,es[i]? = some p->ms[i]? = some m->Rel g true p.1 m.key/\Rel g true p.2 m.val)/\∀ gen,0<gen->g.pl id gen=none
 | .hole=>∀ gen,g.pl id gen=none
theorem Gl.mono{g g':G}{id:Nat}{k:Blk}{w w':World}(h:Gl g id k w)(hg:Le g g')(hp:∀ gen,g'.pl id gen=g.pl id gen)
 (hm:∀ gen B c,g.pl id gen=some (B,c)->∀ o,g'.mu B o=g.mu B o) (hw:∀ gen B c,g.pl id gen=some (B,c)->w'.heap[B]? = w.heap[B]?):Gl g' id k w':=by
 cases k with
 | var lk cs=>
  obtain⟨B,c,vs,T,h1,h2,h3,h4,h5,h6⟩:=h;exact⟨B,c,vs,T,by rw[hp];exact h1,by rw[hw _ _ _ h1];exact h2,h3.mono hg,h4,fun hl o=>by rw[hm _ _ _ h1];exact h5 hl o,fun gen hgen=>by rw[hp];exact h6 gen hgen⟩
 | arr sz lk es=>
  obtain⟨B,c,vs,T,fr,h1,h2,h3,h4,h5,h6,h7,h8,h9,h10⟩:=h;exact⟨B,c,vs,T,fr,by rw[hp];exact h1,by rw[hw _ _ _ h1];exact h2,h3,h4,h5,h6,h7,fun i e he k x v hx hv=>(h8 i e he k x v hx hv).mono hg,
   fun o ho=>by rw[hm _ _ _ h1];exact h9 o ho,fun gen hgen=>by rw[hp];exact h10 gen hgen⟩
 | mp es=>
  obtain⟨B,c,ms,clk,h1,h2,h3,h4,h5⟩:=h;exact⟨B,c,ms,clk,by rw[hp];exact h1,by rw[hw _ _ _ h1];exact h2,h3,fun i p m hp hm=>⟨(h4 i p m hp hm).1.mono hg,(h4 i p m hp hm).2.mono hg⟩,fun gen hgen=>by rw[hp];exact h5 gen hgen⟩
 | hole=>exact fun gen=>by rw[hp];exact h gen
structure Fr where
 F:Nat->Prop
 w0:World
 mu0:Nat->Nat->Option Value
structure Sim(g:G)(h:AF)(fr:Fr)(w:World):Prop where
 mem:∀ B o v,g.mu B o=some v->w.cell? ⟨B,o,none⟩=some v
 blk:∀(id:Nat) k,h[id]? = some k->Gl g id k w
 out:∀ id,h.length<=id->∀ gen,g.pl id gen=none
 inj:∀ id id' gen gen' B B' c c',id≠id'->g.pl id gen=some (B,c)->g.pl id' gen'=some (B',c')->B≠B'
 lt:∀ id gen B c,g.pl id gen=some (B,c)->B<w.heap.size
 frF:∀ B,fr.F B->B<w.heap.size/\w.heap[B]? = fr.w0.heap[B]? /\ (∀ o,g.mu B o=fr.mu0 B o)/\∀ id gen c,g.pl id gen≠some (B,c)
 frS:fr.w0.heap.size<=w.heap.size
 os:w.os=fr.w0.os
 tape:w.tape=fr.w0.tape
 output:w.output=fr.w0.output
theorem Sim.Kz{g:G}{h:AF}{fr:Fr}{w:World}(s:Sim g h fr w){B o:Nat}{v:Value}(hm:g.mu B o=some v):B<w.heap.size:=by
 have:=s.mem B o v hm;unfold World.cell? at this;by_cases hB:B<w.heap.size
 .exact hB
 .simp[Array.getElem?_eq_none (Nat.le_of_not_lt hB)]at this
theorem Sim.drew{g:G}{h:AF}{fr:Fr}{w:World}(s:Sim g h fr w)(n:Nat):Sim g h fr { w with drawn:=n }:=
 ⟨fun B o v hm=>s.mem B o v hm,fun id k hk=>(s.blk id k hk).mono (Le.refl g) (fun _=>rfl) (fun _ _ _ _ _=>rfl) (fun _ _ _ _=>rfl),s.out,s.inj,s.lt,s.frF,s.frS,s.os,s.tape,s.output⟩
theorem Sim.push{g:G}{h:AF}{fr:Fr}{w:World}(s:Sim g h fr w)(o:Obj):Sim g h fr { w with heap:=w.heap.push o }:=by
 have old:∀ B,B<w.heap.size->(w.heap.push o)[B]? = w.heap[B]? := fun B hB=>by rw[OG,if_neg (by omega)]
 refine⟨fun B o' v hm => ?_,fun id k hk=>(s.blk id k hk).mono (Le.refl g) (fun _=>rfl) (fun _ _ _ _ _=>rfl) (fun gen B c hp=>old B (s.lt _ _ _ _ hp)),s.out,s.inj,
  fun id gen B c hp=>by have:=s.lt id gen B c hp;simp;omega,fun B hB => ?_,by have:=s.frS;simp;omega,s.os,s.tape,s.output⟩
 .have h1:=s.mem B o' v hm;have h2:=s.Kz hm;unfold World.cell? at h1 ⊢;rw[old B h2];exact h1
 .obtain⟨h1,h2,h3,h4⟩:=s.frF B hB;exact⟨by simp;omega,by rw[old B h1];exact h2,h3,h4⟩
theorem QC{w:World}{o:Obj}{B:Nat}(h:B<w.heap.size):(w.heap.push o)[B]? = w.heap[B]? := by rw[OG,if_neg (by omega)]
theorem K0{w:World}{o:Obj}:(w.heap.push o)[w.heap.size]? = some o:=by simp
theorem Sim.own{g:G}{h:AF}{fr:Fr}{w:World}(s:Sim g h fr w)(k:Blk)(gen0 B c:Nat)(hB:B<w.heap.size)(hmu:∀ o,g.mu B o=none)(hF:¬ fr.F B)
 (hun:∀ id gen c,g.pl id gen≠some (B,c))
 (hblk:∀ g':G,Le g g'->g'.mu=g.mu->g'.pl h.length gen0=some (B,c)->(∀ gen,gen≠gen0->g'.pl h.length gen=none)->Gl g' h.length k w) :
 ∃ g',Le g g'/\g'.mu=g.mu/\Sim g' (h++[k]) fr w/\g'.pl h.length gen0=some (B,c):=by
 let g':G:=⟨g.mu,fun id gen=>if id=h.length then(if gen=gen0 then some (B,c)else none)else g.pl id gen⟩;have hpl:∀ id,id≠h.length->∀ gen,g'.pl id gen=g.pl id gen:=fun id hid gen=>by simp[g',hid]
 have hle:Le g g':=⟨fun _ _ _ h=>h,fun id gen x hx=>by
  by_cases hid:id=h.length
  .rw[hid,s.out _ (CZ _)]at hx;cases hx
  .rw[hpl id hid];exact hx⟩
 have hnew:g'.pl h.length gen0=some (B,c):=by simp[g']
 refine⟨g',hle,rfl,⟨s.mem,fun id k' hk => ?_,fun id hid gen => ?_,fun id id' gen gen' b b' x x' hne h1 h2 => ?_,fun id gen b x hx => ?_,fun b hb => ?_,s.frS,s.os,s.tape,s.output⟩,hnew⟩
 .by_cases hid:id<h.length
  .rw[BA hid]at hk;exact(s.blk id k' hk).mono hle (hpl id (by omega)) (fun _ _ _ _ _=>rfl) (fun _ _ _ _=>rfl)
  .have hid':id=h.length:=by
    have:=(Ae.1 hk).1;simp at this;omega
   subst hid';simp at hk;subst hk;exact hblk g' hle rfl hnew (fun gen hgen=>by simp[g',hgen])
 .simp only[FZ,D8,IB]at hid;rw[hpl id (by omega)];exact s.out id (by omega) gen
 .by_cases ha:id=h.length <;> by_cases hb:id'=h.length
  .omega
  .subst ha;rw[hpl id' hb]at h2;simp only[g',if_true]at h1;split at h1
   .simp only[AN,Bk]at h1;intro e;exact hun id' gen' x' (by rw[h2,<- e,<- h1.1])
   .cases h1
  .subst hb;rw[hpl id ha]at h1;simp only[g',if_true]at h2;split at h2
   .simp only[AN,Bk]at h2;intro e;exact hun id gen x (by rw[h1,e,<- h2.1])
   .cases h2
  .rw[hpl id ha]at h1;rw[hpl id' hb]at h2;exact s.inj id id' gen gen' b b' x x' hne h1 h2
 .by_cases ha:id=h.length
  .subst ha;simp only[g',if_true]at hx;split at hx
   .simp only[AN,Bk]at hx;omega
   .cases hx
  .rw[hpl id ha]at hx;exact s.lt id gen b x hx
 .obtain⟨h1,h2,h3,h4⟩:=s.frF b hb;refine⟨h1,h2,h3,fun id gen x hx => ?_⟩;by_cases ha:id=h.length
  .subst ha;simp only[g',if_true]at hx;split at hx
   .simp only[AN,Bk]at hx;exact hF (hx.1 ▸ hb)
   .cases hx
  .rw[hpl id ha]at hx;exact h4 id gen x hx
theorem Sim.alloc{g:G}{h:AF}{fr:Fr}{w:World}(s:Sim g h fr w)(o:Obj)(k:Blk)(gen0 c:Nat)
 (hblk:∀ g':G,Le g g'->g'.mu=g.mu->(∀ o,g.mu w.heap.size o=none)->g'.pl h.length gen0=some (w.heap.size,c)->(∀ gen,gen≠gen0->g'.pl h.length gen=none) ->
   Gl g' h.length k { w with heap:=w.heap.push o }) :
 ∃ g',Le g g'/\Sim g' (h++[k]) fr { w with heap:=w.heap.push o }/\g'.pl h.length gen0=some (w.heap.size,c):=by
 have hmu:∀ o,g.mu w.heap.size o=none:=fun o'=>by
  cases hm:g.mu w.heap.size o' with
  | none=>rfl
  | some v=>have:=s.Kz hm;omega
 obtain⟨g',h1,_,h2,h3⟩:=(s.push o).own k gen0 w.heap.size c (by simp) hmu (fun hF=>by have:=(s.frF _ hF).1;omega) (fun id gen c hx=>by have:=s.lt _ _ _ _ hx;omega)
  (fun g' a b c d=>hblk g' a b hmu c d)
 exact⟨g',h1,h2,h3⟩
theorem Sim.imm{g:G}{h:AF}{fr:Fr}{w:World}(s:Sim g h fr w)(vs:Array Value)(T:TypeId) :
 ∃ g',Le g g'/\g'.pl=g.pl/\Sim g' h fr { w with heap:=w.heap.push (.cells vs T (0,0)) }/\∀(i:Nat) v,vs[i]? = some v->g'.mu w.heap.size i=some v:=by
 have hmu:∀ o,g.mu w.heap.size o=none:=fun o'=>by
  cases hm:g.mu w.heap.size o' with
  | none=>rfl
  | some v=>have:=s.Kz hm;omega
 let g':G:=⟨fun B o=>if B=w.heap.size then vs[o]? else g.mu B o,g.pl⟩;have hle:Le g g':=⟨fun B o v hm=>by
  by_cases hB:B=w.heap.size
  .rw[hB,hmu]at hm;cases hm
  .simp[g',hB,hm],fun _ _ _ h=>h⟩
 have s':=s.push (.cells vs T (0,0));refine⟨g',hle,rfl,⟨fun B o v hm => ?_,fun id k hk=>(s'.blk id k hk).mono hle (fun _=>rfl) (fun gen B c hp o => ?_) (fun _ _ _ _=>rfl),s'.out,s'.inj,s'.lt,fun B hB => ?_,s'.frS,s'.os,s'.tape,s'.output⟩,fun i v hv=>by simp[g',hv]⟩
 .by_cases hB:B=w.heap.size
  .subst hB;simp only[g',if_true]at hm;simp[World.cell?,hm]
  .simp only[g',hB,if_false]at hm;exact s'.mem B o v hm
 .have:=s.lt id gen B c hp;simp[g',show B≠w.heap.size by omega]
 .obtain⟨h1,h2,h3,h4⟩:=s'.frF B hB;have:=(s.frF B hB).1;exact⟨h1,h2,fun o=>by simp only[g',show B≠w.heap.size by omega,if_false];exact h3 o,h4⟩
theorem Sim.upd{g:G}{h:AF}{fr:Fr}{w w':World}(s:Sim g h fr w)(id:Nat)(k':Blk)(hid:id<h.length)(g':G)(hmu:g'.mu=g.mu)(hpl:∀ id',id'≠id->∀ gen,g'.pl id' gen=g.pl id' gen)
 (hle:Le g g') (hsz:w.heap.size<=w'.heap.size)
 (hother:∀ B,B<w.heap.size->(∀ gen c,g.pl id gen≠some (B,c))->w'.heap[B]? = w.heap[B]?)
 (hmem:∀ B o v,g.mu B o=some v->w'.cell? ⟨B,o,none⟩=some v)
 (hnew:∀ gen B c,g'.pl id gen=some (B,c)->(∃ gen c,g.pl id gen=some (B,c))\/(w.heap.size<=B/\B<w'.heap.size))
 (hblk:Gl g' id k' w') (hos:w'.os=w.os) (ht:w'.tape=w.tape) (ho:w'.output=w.output):Sim g' (h.set id k') fr w':=by
 have own_ne:∀ id' gen gen' B B' c c',id'≠id->g.pl id' gen=some (B,c)->g'.pl id gen'=some (B',c')->B≠B':=by
  intro id' gen gen' B B' c c' hne h1 h2;rcases hnew gen' B' c' h2 with⟨g0,c0,h3⟩ | ⟨h3,_⟩
  .exact s.inj id' id gen g0 B B' c c0 hne h1 h3
  .have:=s.lt _ _ _ _ h1;omega
 refine⟨fun B o v hm=>hmem B o v (by rw[<- hmu];exact hm),fun id' k hk => ?_,fun id' hid' gen => ?_,fun id1 id2 gen gen' B B' c c' hne h1 h2 => ?_,fun id' gen B c hp => ?_,fun B hB => ?_,
  by have:=s.frS;omega,by rw[hos,s.os],by rw[ht,s.tape],by rw[ho,s.output]⟩
 .by_cases he:id'=id
  .subst he;rw[ER hid]at hk;cases hk;exact hblk
  .rw[BT (Ne.symm he)]at hk;refine(s.blk id' k hk).mono hle (hpl id' he) (fun gen B c hp o=>by rw[hmu]) (fun gen B c hp=>hother B (s.lt _ _ _ _ hp) (fun gen' c' hp' => ?_));exact s.inj id' id gen gen' B B c c' he hp hp' rfl
 .rw[Fy]at hid';rw[hpl id' (by omega)];exact s.out id' hid' gen
 .by_cases ha:id1=id <;> by_cases hb:id2=id
  .omega
  .subst ha;rw[hpl id2 hb]at h2;exact fun e=>own_ne id2 gen' gen B' B c' c hb h2 h1 e.symm
  .subst hb;rw[hpl id1 ha]at h1;exact own_ne id1 gen gen' B B' c c' ha h1 h2
  .rw[hpl id1 ha]at h1;rw[hpl id2 hb]at h2;exact s.inj id1 id2 gen gen' B B' c c' hne h1 h2
 .by_cases ha:id'=id
  .subst ha;rcases hnew gen B c hp with⟨g0,c0,h3⟩ | ⟨_,h3⟩
   .have:=s.lt _ _ _ _ h3;omega
   .exact h3
  .rw[hpl id' ha]at hp;have:=s.lt _ _ _ _ hp;omega
 .obtain⟨h1,h2,h3,h4⟩:=s.frF B hB;refine⟨by omega,by rw[hother B h1 (fun gen c=>h4 id gen c)];exact h2,fun o=>by rw[hmu];exact h3 o,fun id' gen c hp => ?_⟩;by_cases ha:id'=id
  .subst ha;rcases hnew gen B c hp with⟨g0,c0,h5⟩ | ⟨h5,_⟩
   .exact h4 id' g0 c0 h5
   .omega
  .rw[hpl id' ha]at hp;exact h4 id' gen c hp
theorem add_plain(B o i:Nat):(⟨B,o,none⟩:Addr).add i=⟨B,o+i,none⟩:=by
 unfold Addr.add;split
 .rename_i h;subst h;rfl
 .rfl
theorem cell_of{w:World}{B o:Nat}{vs:Array Value}{T:TypeId}{fr:Nat×Nat}(h:w.heap[B]? = some (.cells vs T fr)):w.cell? ⟨B,o,none⟩=vs[o]? := by
 unfold World.cell?;simp[h]
theorem cz{g:G}{h:AF}{fr:Fr}{w:World}(s:Sim g h fr w){p:AV}{x:Value}(hp:Rel g true p x){cs:List AV}(hr:D2 h p=some cs) :
 ∃ B o,x=.pointer (some ⟨B,o,none⟩)/\∀(i:Nat) c,cs[i]? = some c->∃ v,w.cell? ⟨B,o+i,none⟩=some v/\one v=true/\Rel g true c v:=by
 cases hp with
 | ro _ cs' B o vs h1 h2 h3=>
  simp only[D2,AN]at hr;subst hr;exact⟨B,o,rfl,fun i c hc=>⟨vs i,s.mem _ _ _ (h1 i c hc),h2 i c hc,(h3 i c hc).up⟩⟩
 | hp id off B c hpl=>
  simp only[D2]at hr;split at hr
  .rename_i lk cs' hk;simp only[AN]at hr;subst hr;obtain⟨B',c',vs,T,h1,h2,h3,h4,h5,h6⟩:=s.blk id _ hk;rw[hpl]at h1;simp only[AN,Bk]at h1;obtain⟨rfl,rfl⟩:=h1;refine⟨B,off,rfl,fun i c' hc => ?_⟩;rw[H9]at hc;have hlt:off+i<vs.size:=(by rw[h3.1];exact(Ae.1 hc).1);have hv:vs[off+i]? = some vs[off+i]:=E6 hlt;exact⟨vs[off+i],by rw[cell_of h2];exact hv,h4 _ _ hv,h3.2 _ _ _ hc hv⟩
  .cases hr
 | ep id gen sz i k B c hpl=>
  simp only[D2]at hr;split at hr
  .rename_i sz' lk es hk;split at hr
   .rename_i hgen;simp only[BU,Bl]at hgen;obtain⟨hgen,rfl⟩:=hgen;obtain⟨B',c',vs,T,fr',h1,h2,h3,h4,h5,h6,h7,h8,h9,h10⟩:=s.blk id _ hk;rw[hgen,hpl]at h1;simp only[AN,Bk]at h1;obtain⟨rfl,rfl⟩:=h1;cases he:es[i]? with
    | none=>simp[he]at hr
    | some e=>
     simp only[he,E0,AN]at hr;subst hr;have hie:=(Ae.1 he).1;have hel:=h6 i e he;refine⟨B,i * sz'+k,rfl,fun m x hx => ?_⟩;rw[H9]at hx;have hm:=(Ae.1 hx).1;have hlt:i * sz'+(k+m)<vs.size:=by
      rw[h3];have h1:(i+1) * sz'<=c * sz':=GK _ (by omega);rw[Ge]at h1;omega
     have hv:vs[i * sz'+(k+m)]? = some vs[i * sz'+(k+m)]:=E6 hlt;exact⟨_,by rw[cell_of h2,Kv];exact hv,h7 _ _ hv,h8 i e he _ _ _ hx hv⟩
   .cases hr
  .cases hr
 | _=>simp[D2]at hr
end Go.Am
