/- The abstract machine of this claim, part 17. -/
import Derived.Test.YtggemipepaajmaaGreatVal16
import Derived.WalkKit
import Derived.ProofKit
import Derived.OpenShut
import Derived.ShutString
import Derived.JoinedCond
set_option linter.unusedSimpArgs false
set_option linter.unusedVariables false
set_option linter.unusedSectionVars false
set_option linter.unnecessarySimpa false
namespace Go.Proofs.Am12.MatchValues
open Go Go.Am Go.Proofs.YtggemipepaajmaaGreat
open Go.ChangeShapes Go.WideShapes Go.ChangeAt Go.RowKit
open Go.ChangeMaps (open_string shut_string)
def kinds:List TypeId:=[28,22,25,26,103,3,9,23,62,100,101,106,104,109,34,32]
theorem kinds_ok:kinds.all (tyOK MX.ty kinds)=true:=by kernel_rfl
theorem told {H:Type} {d d2:DataW H} {xs ys:List AV} (h:Shp MX 28 d xs) (hb:Rows.uptoBulk d<1048577) (h2:Shp MX 34 d2 ys) (hb2:Rows.uptoBulk d2<1048577):∃ n h',callF MX n 7 [.agg xs,.agg ys] []=some (.ret (.bool true),h'):=by
 obtain ⟨k,hx,hs⟩:=task_shp d xs h hb
 obtain ⟨u,hy,hsu⟩:=dv_shp d2 ys h2 hb2
 obtain ⟨hr,hrun⟩:=law7 hx hs hy hsu
 obtain ⟨n,hn⟩:=callW_some.1 (callW_run eff_7 hrun)
 exact ⟨n,hr,hn⟩
theorem own:ownKnob Tryz.prog.godebug=none:=by kernel_rfl
theorem laidOut:laidOutB Tryz.prog=true:=by kernel_rfl
theorem calls {H:Type} {enc:TypeId×Value→H} {W:World} {cs cs2:Array Value} {d d2:DataW H} {ps ps2:List MemPlace} {fuel fuel2:Nat} (h:DataW.trod enc Tryz.prog W 0 (fun _=>true) true fuel 28 cs.toList=some (d,ps)) (hb:Rows.uptoBulk d<1048577)
  (h2:DataW.trod enc Tryz.prog W 0 (fun _=>true) true fuel2 34 cs2.toList=some (d2,ps2)) (hb2:Rows.uptoBulk d2<1048577) :
  Calls Tryz.prog 7 #[.agg cs,.agg cs2] W fun e W'=>e=.returned (.bool true)∧Below W.heap.size W W':=by
 obtain ⟨xs,a1,a2,a3,a4⟩:=read_rel fitsX kinds_ok fuel (by decide) h
 rw [Array.toArray_toList] at a1
 obtain ⟨ys,b1,b2,b3,b4⟩:=read_rel fitsX kinds_ok fuel2 (by decide) h2
 rw [Array.toArray_toList] at b1
 obtain ⟨n,h',hc⟩:=told a4 hb b4 hb2
 have hrel:RelL (gOf W) true [.agg xs,.agg ys] #[.agg cs,.agg cs2]:=by
  refine ⟨rfl,fun i c v hc hv => ?_⟩
  cases i with
  | zero=>
   simp at hc hv
   subst hc;subst hv
   exact .agg true xs cs a1.1 (fun i v hv=>a2 v (by simpa using Array.mem_of_getElem? hv)) (fun i c v hc hv=>(a1.2 i c v hc hv).up)
  | succ i=>
   cases i with
   | zero=>
    simp at hc hv
    subst hc;subst hv
    exact .agg true ys cs2 b1.1 (fun i v hv=>b2 v (by simpa using Array.mem_of_getElem? hv)) (fun i c v hc hv=>(b1.2 i c v hc hv).up)
   | succ i=>simp at hc
 refine ((callF_ok fitsX primX effOKX n 7 _ _ _ _ hc).2 (gOf W) (frOf W) W _ (sim_start W) hrel).mono fun e w' he => ?_
 obtain ⟨g',b1,b2,b3⟩:=he
 cases e with
 | returned x=>
  refine ⟨?_,sim_below b2⟩
  cases b3
  rfl
 | panicked=>exact b3.elim
 | outgrown=>exact b3.elim
set_option maxRecDepth 100000 in
theorem lifted (os:Os) (started:os.Started) (H:Type) (enc:TypeId×Value→H) (F:Stop.Interp) :
  ReturnsInHanded {} Tryz.checked os 7 .any ((Rows.OpenSpec.upto Rows.matchValuesSpec).pre6 enc Tryz.prog Tryz.f7 Rows.matchValuesUptoRow.domain false) (((Rows.OpenSpec.upto Rows.matchValuesSpec).at F).post enc Tryz.prog Tryz.f7 false true false false):=by
 refine returnsInHanded_of_cond (C:=Tryz.checked) (s:=Rows.OpenSpec.upto Rows.matchValuesSpec) (k:=Rows.uptoSmall) rfl own started (by kernel_rfl) Tryz.func7
  (OpenSpec.witness (enc:=enc) (C:=Tryz.checked) (s:=Rows.OpenSpec.upto Rows.matchValuesSpec) (k:=Rows.uptoSmall) rfl false ⟨#[],#[.agg #[.slice none 0 0,.int .i64 0,.int .i64 0,.string ByteArray.empty,.slice none 0 0,.slice none 0 0],.agg #[.string ByteArray.empty,.int .i64 0,.slice none 0 0]],[]⟩ 8 (by kernel_rfl) (by kernel_rfl) (by kernel_rfl)
    (x:=([.agg [.nil,.agg [.lit (.int .i64 0),.lit (.int .i64 0),.lit (.string []),.nil],.nil],.agg [.lit (.string []),.lit (.int .i64 0),.nil]],[],[])) (by kernel_rfl) rfl (by kernel_rfl)) ?_
 intro W base args ds gs before hval0 hW _ hk _
 have hval:∀ (j:Nat) t v,Tryz.f7.params[j]? = some t→args[j]? = some v→Value.okWide Tryz.prog W .any base t v:=hval0
 have hW':=hW
 obtain ⟨p,q,hA0,hV,rfl,hfz,hnd⟩:=hW
 have hA:DataW.TrodAll enc Tryz.prog W 0 (fun _=>true) true Tryz.f7.params.toList args.toList ds p:=hA0
 rw [Tryz.params7] at hA hval
 obtain ⟨v0,vs0,d0,ds0,p0,q0,hargs,rfl,rfl,h0,r0⟩:=trodAll_cons hA
 obtain ⟨v1,vs1,d1,ds1,p1,q1,hargs1,rfl,rfl,h1,r1⟩:=trodAll_cons r0
 obtain ⟨rfl,rfl,rfl⟩:=trodAll_nil r1
 obtain rfl:args = #[v0,v1]:=by cases args;simp_all
 obtain ⟨rfl,rfl⟩:=trodVars_none hV
 have k0:=h0
 have k1:=h1
 have lt0:∀ x∈p0,x.block<W.heap.size:=by obtain ⟨m,hm⟩:=k0;exact DataW.trod_lt m _ _ _ hm
 have lt1:∀ x∈p1,x.block<W.heap.size:=by obtain ⟨m,hm⟩:=k1;exact DataW.trod_lt m _ _ _ hm
 have hv0:=hval 0 28 v0 rfl rfl
 have hv1:=hval 1 34 v1 rfl rfl
 unfold Value.okWide at hv0 hv1
 rw [Tryz.underlying28] at hv0
 rw [Tryz.underlying34] at hv1
 obtain ⟨cs,rfl,_,_⟩:=hv0
 obtain ⟨cs1,rfl,_,_⟩:=hv1
 obtain ⟨fuel,hf⟩:=h0
 obtain ⟨fuel1,hf1⟩:=h1
 have hb:Rows.uptoBulk d0<1048577∧Rows.uptoBulk d1<1048577:=by
  have h:Rows.uptoBulkAll [d0,d1]≤1048576:=of_decide_eq_true hk
  simp only [Rows.uptoBulkAll] at h
  omega
 clear hA0 hval0
 refine (calls hf hb.1 hf1 hb.2).mono fun e W' ⟨he,bel⟩ => ?_
 subst he
 exact ⟨_,rfl,_,_,_,[],_,[],hW',trodAll_mk1 (shut_bool Tryz.underlying4 _),(trodAll_cons_mk (Below.trod laidOut (by kernel_rfl) (of_decide_eq_true (by kernel_rfl)) k0 bel lt0) (trodAll_cons_mk (Below.trod laidOut (by kernel_rfl) (of_decide_eq_true (by kernel_rfl)) k1 bel lt1) trodAll_mk0)),rfl,bel.frame _,fun h=>by cases h⟩
theorem proved:Rows.MatchValuesUptoSaid:=
 OpenClaim.holds_of_cond 7 Tryz.f7 rfl rfl rfl rfl rfl rfl rfl ⟨rfl,rfl,rfl,rfl,rfl⟩ rfl rfl rfl rfl rfl (by kernel_rfl) Tryz.func7 (by kernel_rfl)
  (of_decide_eq_true (by kernel_rfl)) (by unfold Func.isWrapper;first | (rw [if_pos (by decide +kernel)];kernel_rfl) | (rw [if_neg (by decide +kernel)];exact ⟨rfl,rfl⟩))
  (fun os started H enc _ F=>lifted os started H enc F)
end Go.Proofs.Am12.MatchValues
namespace Go.Proofs.YtggemipepaajmaaGreat.lawMatchValues
open Go.Proofs.YtggemipepaajmaaGreat
theorem proved:Rows.MatchValuesUptoSaid:=Go.Proofs.Am12.MatchValues.proved
end Go.Proofs.YtggemipepaajmaaGreat.lawMatchValues
