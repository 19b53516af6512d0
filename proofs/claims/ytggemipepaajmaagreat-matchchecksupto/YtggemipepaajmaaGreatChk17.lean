/- Proved: the statement MatchChecks (Rows.MatchChecksUptoSaid): for every argument whose reading is of small bulk (at most 2^20) the law returns true. No other conditions. -/
import Derived.Test.YtggemipepaajmaaGreatChk16
import Derived.WalkKit
import Derived.ProofKit
import Derived.OpenShut
import Derived.ShutString
import Derived.JoinedCond
set_option linter.unusedSimpArgs false
set_option linter.unusedVariables false
set_option linter.unusedSectionVars false
set_option linter.unnecessarySimpa false
namespace Go.Proofs.Am12.MatchChecks
open Go Go.Am Go.Proofs.YtggemipepaajmaaGreat
open Go.ChangeShapes Go.WideShapes Go.ChangeAt Go.RowKit
open Go.ChangeMaps (open_string shut_string)
def kinds:List TypeId:=[28,22,25,26,103,3,9,23,62,100,101,106,104,109,34,32,49,90,39,88,99]
theorem LI:kinds.all (TZ MX.ty kinds)=true:=by kernel_rfl
theorem told {H:Type} {d dt d2:DataW H} {xs ts ys:List AV} (h:Shp MX 28 d xs) (hb:Rows.uptoBulk d<1048577) (ht:Shp MX 49 dt ts) (hbt:Rows.uptoBulk dt<1048577) (h2:Shp MX 34 d2 ys) (hb2:Rows.uptoBulk d2<1048577):∃ tv,ts=[tv]∧∃ n h',C9 MX n 9 [.agg xs,tv,.agg ys] []=some (.ret (.bool true),h'):=by
 obtain ⟨k,hx,hs⟩:=Td d xs h hb
 obtain ⟨u,hy,hsu⟩:=Yi d2 ys h2 hb2
 obtain ⟨t,tv,rfl,ht,htl,hst⟩:=UQ dt ts ht hbt
 obtain ⟨hr,hrun⟩:=law9 hx hs ht htl hst hy hsu
 obtain ⟨n,hn⟩:=Fm.1 (HB eff_9 hrun)
 exact ⟨tv,rfl,n,hr,hn⟩
theorem own:ownKnob Tryz.prog.godebug=none:=by kernel_rfl
theorem laidOut:laidOutB Tryz.prog=true:=by kernel_rfl
theorem calls {H:Type} {enc:TypeId×Value→H} {W:World} {cs cs2:Array Value} {v1:Value} {d dt d2:DataW H} {ps pt ps2:List MemPlace} {fuel fuelt fuel2:Nat} (h:DataW.trod enc Tryz.prog W 0 (fun _=>true) true fuel 28 cs.toList=some (d,ps)) (hb:Rows.uptoBulk d<1048577)
  (ht:DataW.trod enc Tryz.prog W 0 (fun _=>true) true fuelt 49 [v1]=some (dt,pt)) (hbt:Rows.uptoBulk dt<1048577)
  (h2:DataW.trod enc Tryz.prog W 0 (fun _=>true) true fuel2 34 cs2.toList=some (d2,ps2)) (hb2:Rows.uptoBulk d2<1048577) :
  Calls Tryz.prog 9 #[.agg cs,v1,.agg cs2] W fun e W'=>e=.returned (.bool true)∧Below W.heap.size W W':=by
 obtain ⟨xs,a1,a2,a3,a4⟩:=Hx Pd LI fuel (by decide) h
 rw [Array.toArray_toList] at a1
 obtain ⟨ts,t1,t2,t3,t4⟩:=Hx Pd LI fuelt (by decide) ht
 obtain ⟨ys,b1,b2,b3,b4⟩:=Hx Pd LI fuel2 (by decide) h2
 rw [Array.toArray_toList] at b1
 obtain ⟨tv,rfl,n,h',hc⟩:=told a4 hb t4 hbt b4 hb2
 have hrel:Aw (gOf W) true [.agg xs,tv,.agg ys] #[.agg cs,v1,.agg cs2]:=by
  refine ⟨rfl,fun i c v hc hv => ?_⟩
  cases i with
  | zero=>
   simp at hc hv
   subst hc;subst hv
   exact .agg true xs cs a1.1 (fun i v hv=>a2 v (by simpa using Array.mem_of_getElem? hv)) (fun i c v hc hv=>(a1.2 i c v hc hv).up)
  | succ i=>
   cases i with
   | zero=>
    simp at hc hv
    subst hc;subst hv
    exact (t1.2 0 tv v1 rfl rfl).up
   | succ i=>
    cases i with
    | zero=>
     simp at hc hv
     subst hc;subst hv
     exact .agg true ys cs2 b1.1 (fun i v hv=>b2 v (by simpa using Array.mem_of_getElem? hv)) (fun i c v hc hv=>(b1.2 i c v hc hv).up)
    | succ i=>simp at hc
 refine ((Hq Pd primX Xl n 9 _ _ _ _ hc).2 (gOf W) (frOf W) W _ (Q9 W) hrel).mono fun e w' he => ?_
 obtain ⟨g',b1,b2,b3⟩:=he
 cases e with
 | returned x=>
  refine ⟨?_,RA b2⟩
  cases b3
  rfl
 | panicked=>exact b3.elim
 | outgrown=>exact b3.elim
set_option maxRecDepth 100000 in
theorem lifted (os:Os) (started:os.Started) (H:Type) (enc:TypeId×Value→H) (F:Stop.Interp) :
  ReturnsInHanded {} Tryz.checked os 9 .any ((Rows.OpenSpec.upto Rows.matchChecksSpec).pre6 enc Tryz.prog Tryz.f9 Rows.matchChecksUptoRow.domain false) (((Rows.OpenSpec.upto Rows.matchChecksSpec).at F).post enc Tryz.prog Tryz.f9 false true false false):=by
 refine returnsInHanded_of_cond (C:=Tryz.checked) (s:=Rows.OpenSpec.upto Rows.matchChecksSpec) (k:=Rows.uptoSmall) rfl own started (by kernel_rfl) Tryz.func9
  (OpenSpec.witness (enc:=enc) (C:=Tryz.checked) (s:=Rows.OpenSpec.upto Rows.matchChecksSpec) (k:=Rows.uptoSmall) rfl false ⟨#[],#[.agg #[.slice none 0 0,.int .i64 0,.int .i64 0,.string ByteArray.empty,.slice none 0 0,.slice none 0 0],.slice none 0 0,.agg #[.string ByteArray.empty,.int .i64 0,.slice none 0 0]],[]⟩ 8 (by kernel_rfl) (by kernel_rfl) (by kernel_rfl)
    (x:=([.agg [.nil,.agg [.lit (.int .i64 0),.lit (.int .i64 0),.lit (.string []),.nil],.nil],.nil,.agg [.lit (.string []),.lit (.int .i64 0),.nil]],[],[])) (by kernel_rfl) rfl (by kernel_rfl)) ?_
 intro W base args ds gs before hval0 hW _ hk _
 have hval:∀ (j:Nat) t v,Tryz.f9.params[j]? = some t→args[j]? = some v→Value.okWide Tryz.prog W .any base t v:=hval0
 have hW':=hW
 obtain ⟨p,q,hA0,hV,rfl,hfz,hnd⟩:=hW
 have hA:DataW.TrodAll enc Tryz.prog W 0 (fun _=>true) true Tryz.f9.params.toList args.toList ds p:=hA0
 rw [Tryz.params9] at hA hval
 obtain ⟨v0,vs0,d0,ds0,p0,q0,hargs,rfl,rfl,h0,r0⟩:=trodAll_cons hA
 obtain ⟨vt,vst,dt,dst,pt,qt,hargst,rfl,rfl,ht,rt⟩:=trodAll_cons r0
 obtain ⟨v1,vs1,d1,ds1,p1,q1,hargs1,rfl,rfl,h1,r1⟩:=trodAll_cons rt
 obtain ⟨rfl,rfl,rfl⟩:=trodAll_nil r1
 obtain rfl:args = #[v0,vt,v1]:=by cases args;simp_all
 obtain ⟨rfl,rfl⟩:=trodVars_none hV
 have k0:=h0
 have k1:=h1
 have kt:=ht
 have lt0:∀ x∈p0,x.block<W.heap.size:=by obtain ⟨m,hm⟩:=k0;exact DataW.trod_lt m _ _ _ hm
 have ltt:∀ x∈pt,x.block<W.heap.size:=by obtain ⟨m,hm⟩:=kt;exact DataW.trod_lt m _ _ _ hm
 have lt1:∀ x∈p1,x.block<W.heap.size:=by obtain ⟨m,hm⟩:=k1;exact DataW.trod_lt m _ _ _ hm
 have hv0:=hval 0 28 v0 rfl rfl
 have hvt:=hval 1 49 vt rfl rfl
 have hv1:=hval 2 34 v1 rfl rfl
 have hct:vt.cells = #[vt]:=by
  cases vt with
  | agg cs=>simp [Value.okWide,Tryz.underlying49,Cell.okWide,Cell.ok] at hvt
  | _=>rfl
 unfold Value.okWide at hv0 hv1
 rw [Tryz.underlying28] at hv0
 rw [Tryz.underlying34] at hv1
 obtain ⟨cs,rfl,_,_⟩:=hv0
 obtain ⟨cs1,rfl,_,_⟩:=hv1
 obtain ⟨fuel,hf⟩:=h0
 obtain ⟨fuel1,hf1⟩:=h1
 obtain ⟨fuelt,hft⟩:=ht
 rw [hct] at hft
 have hb:Rows.uptoBulk d0<1048577∧Rows.uptoBulk dt<1048577∧Rows.uptoBulk d1<1048577:=by
  have h:Rows.uptoBulkAll [d0,dt,d1]≤1048576:=of_decide_eq_true hk
  simp only [Rows.uptoBulkAll] at h
  omega
 clear hA0 hval0
 refine (calls hf hb.1 hft hb.2.1 hf1 hb.2.2).mono fun e W' ⟨he,bel⟩ => ?_
 subst he
 exact ⟨_,rfl,_,_,_,[],_,[],hW',trodAll_mk1 (shut_bool Tryz.underlying4 _),(trodAll_cons_mk (Below.trod laidOut (by kernel_rfl) (of_decide_eq_true (by kernel_rfl)) k0 bel lt0) (trodAll_cons_mk (Below.trod laidOut (by kernel_rfl) (of_decide_eq_true (by kernel_rfl)) kt bel ltt) (trodAll_cons_mk (Below.trod laidOut (by kernel_rfl) (of_decide_eq_true (by kernel_rfl)) k1 bel lt1) trodAll_mk0))),rfl,bel.frame _,fun h=>by cases h⟩
theorem proved:Rows.MatchChecksUptoSaid:=
 OpenClaim.holds_of_cond 9 Tryz.f9 rfl rfl rfl rfl rfl rfl rfl ⟨rfl,rfl,rfl,rfl,rfl⟩ rfl rfl rfl rfl rfl (by kernel_rfl) Tryz.func9 (by kernel_rfl)
  (of_decide_eq_true (by kernel_rfl)) (by unfold Func.isWrapper;first | (rw [if_pos (by decide +kernel)];kernel_rfl) | (rw [if_neg (by decide +kernel)];exact ⟨rfl,rfl⟩))
  (fun os started H enc _ F=>lifted os started H enc F)
end Go.Proofs.Am12.MatchChecks
namespace Go.Proofs.YtggemipepaajmaaGreat.lawMatchChecks
open Go.Proofs.YtggemipepaajmaaGreat
theorem proved:Rows.MatchChecksUptoSaid:=Go.Proofs.Am12.MatchChecks.proved
end Go.Proofs.YtggemipepaajmaaGreat.lawMatchChecks
