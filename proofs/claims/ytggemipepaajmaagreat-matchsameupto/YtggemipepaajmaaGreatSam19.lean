/- Part 19. -/
import Derived.Test.YtggemipepaajmaaGreatSam18
set_option linter.all false
namespace Go.Proofs.Am12
open Go Go.Am Tryz
attribute [local simp] Dc Bn Ec Dd CQ Dx Dy Ey BZ Ap Bh Av Gb FR EN HO D9 A5 FN EO HP HQ xUn FC EA FT BG DQ BH EB BI EC Ce Ca Bv BL EP Eo
 ev evs C4 DP OR.ofV OR.D4 OR.ofC Fg Tm.get Tm.init Tm.only Ay A6 Bt finish CK DS Hb D3 D7 unA Bz Bc B6 Bd Cp Cq Cr Be Cs Ct Bf Cu Cv Bg B7 AL CP Bb Cn Co Bx Ez E0 E1 Dz D0 Fo F7 F8 Fp stA BA DY Bo DR FD Gp B8 C1 CI FU Gq
set_option maxHeartbeats 1000000
attribute [local simp] DE CT Cb Bl DF DG DH DI DJ DK DL Ef Cg Eg Dh FW FX Gi Di Eh Dj BQ Dk BR Dl B9 Ei Ch FY FZ Fa Ci Dm Dn Fb Gj Fc Gk Gl Dp BS Cj CA Dq Dr Ck
noncomputable def EZ:Code:=f8.body.getD .skip
noncomputable def hd8(n:Nat):Code:=sub EZ (List.replicate n 1++[0])
theorem bF:EZ=.seq (hd8 0) (.seq (hd8 1) (.seq (hd8 2) (.seq (hd8 3) (.seq (hd8 4) (.seq (.seq (sub EZ [1,1,1,1,1,0,0]) (sub EZ [1,1,1,1,1,0,1])) (.seq (hd8 6) (.seq (hd8 7) (.seq (hd8 8) (.seq (hd8 9) (.seq (hd8 10) (sub EZ (List.replicate 11 1)))))))))))):=rfl
theorem run8{a b:AV}{H:AE}(h:AX MX 8 149 (AG MX) EZ (Tm.init 0 [a,b],[])=some (.ret,([(4,.bool true)],H))):AJ MX 8 [a,b] []=some (.ret (.bool true),H):=by
 have hb:f8.body=some EZ:=rfl;have hn:f8.ntmps=149:=rfl;have hr:f8.results = #[.tmp 4]:=rfl;simp only[AJ,fn_8,hb,hn,h];simp[hr]
def TM(tv av vw:AV)(i a c er n:Int)(m9:Nat):List (Nat×AV):=[(2,.hp 0 0),(5,tv),(9,.hp m9 0),(10,.bool false),(11,vw),(12,.int .i64 i),(13,.int .i64 a),(17,.int .i64 c),(18,.int .i64 er)]
def RJ(tv av vw:AV)(i a c er n:Int)(m9:Nat):List (Nat×AV):=(124,.tup [])::(123,.tup [])::(122,.tup [])::(121,.tup [])::(120,.bool false)::(119,.bool false)::TM tv av vw i a c er n m9
def TN(tv av vw:AV)(i a c er n:Int)(m9:Nat):List (Nat×AV):=(131,.tup [])::(130,.tup [])::(129,.tup [])::(128,.tup [])::(127,.tup [])::(126,.tup [])::(125,.tup [])::RJ tv av vw i a c er n m9
def Up(tv av vw:AV)(i a c er n:Int)(m9:Nat):List (Nat×AV):=(136,.tup [])::(135,.tup [])::(134,.tup [])::(133,.tup [])::(132,.tup [])::TN tv av vw i a c er n m9
def XY(tv av vw:AV)(i a c er n:Int)(m9:Nat):List (Nat×AV):=(140,.tup [])::(139,.tup [])::(138,.tup [])::(137,.tup [])::Up tv av vw i a c er n m9
def bG(tv av vw:AV)(i a c er n:Int)(m9:Nat):List (Nat×AV):=(146,.tup [])::(145,.tup [])::(144,.tup [])::(143,.tup [])::(142,.tup [])::(141,.tup [])::XY tv av vw i a c er n m9
def T8n6(tv av vw:AV)(i a c er n:Int)(m9:Nat):List (Nat×AV):=(148,.bool false)::(147,.tup [])::bG tv av vw i a c er n m9
def TP(tv av vw:AV)(i a c er n:Int)(m9:Nat):List (Nat×AV):=[(2,.hp 0 0),(5,tv),(9,.hp m9 0),(10,.bool true),(11,vw),(12,.int .i64 i),(13,.int .i64 a),(17,.int .i64 c),(18,.int .i64 er)]
def RK(tv av vw:AV)(i a c er n:Int)(m9:Nat):List (Nat×AV):=(124,.int .i64 a)::(123,.bool false)::(122,.bool false)::(121,.int .i64 er)::(120,.bool true)::(119,.bool true)::TP tv av vw i a c er n m9
def TQ(tv av vw:AV)(i a c er n:Int)(m9:Nat):List (Nat×AV):=(131,.bool false)::(130,.bool false)::(129,.bool false)::(128,.int .i64 a)::(127,.int .i64 c)::(126,.bool true)::(125,.bool true)::RK tv av vw i a c er n m9
def Uq(tv av vw:AV)(i a c er n:Int)(m9:Nat):List (Nat×AV):=(136,.tup [])::(135,.bool false)::(134,.bool false)::(133,.int .i64 a)::(132,.bool false)::TQ tv av vw i a c er n m9
def XZ(tv av vw:AV)(i a c er n:Int)(m9:Nat):List (Nat×AV):=(140,.bool false)::(139,.bool false)::(138,.tup [])::(137,.tup [])::Uq tv av vw i a c er n m9
def bH(tv av vw:AV)(i a c er n:Int)(m9:Nat):List (Nat×AV):=(146,.bool false)::(145,.tup [])::(144,.tup [])::(143,.tup [])::(142,.tup [])::(141,.tup [])::XZ tv av vw i a c er n m9
def T8a6(tv av vw:AV)(i a c er n:Int)(m9:Nat):List (Nat×AV):=(148,.bool false)::(147,.bool false)::bH tv av vw i a c er n m9
def TR(tv av vw:AV)(i a c er n:Int)(m9:Nat):List (Nat×AV):=[(2,.hp 0 0),(5,tv),(9,.hp m9 0),(10,.bool true),(11,vw),(12,.int .i64 i),(13,.int .i64 a),(17,.int .i64 c),(18,.int .i64 er)]
def RL(tv av vw:AV)(i a c er n:Int)(m9:Nat):List (Nat×AV):=(124,.int .i64 a)::(123,.bool false)::(122,.bool false)::(121,.int .i64 er)::(120,.bool true)::(119,.bool true)::TR tv av vw i a c er n m9
def TT(tv av vw:AV)(i a c er n:Int)(m9:Nat):List (Nat×AV):=(131,.bool false)::(130,.bool false)::(129,.tup [])::(128,.tup [])::(127,.tup [])::(126,.bool false)::(125,.bool false)::RL tv av vw i a c er n m9
def Ur(tv av vw:AV)(i a c er n:Int)(m9:Nat):List (Nat×AV):=(136,.int .i64 c)::(135,.bool true)::(134,.bool true)::(133,.int .i64 a)::(132,.bool false)::TT tv av vw i a c er n m9
def Xa(tv av vw:AV)(i a c er n:Int)(m9:Nat):List (Nat×AV):=(140,.bool false)::(139,.bool false)::(138,.bool false)::(137,.int .i64 a)::Ur tv av vw i a c er n m9
def bI(tv av vw:AV)(i a c er n:Int)(m9:Nat):List (Nat×AV):=(146,.bool false)::(145,.tup [])::(144,.tup [])::(143,.tup [])::(142,.tup [])::(141,.tup [])::Xa tv av vw i a c er n m9
def T8b6(tv av vw:AV)(i a c er n:Int)(m9:Nat):List (Nat×AV):=(148,.bool false)::(147,.bool false)::bI tv av vw i a c er n m9
def TU(tv av vw:AV)(i a c er n:Int)(m9:Nat):List (Nat×AV):=[(2,.hp 0 0),(5,tv),(9,.hp m9 0),(10,.bool true),(11,vw),(12,.int .i64 i),(13,.int .i64 a),(17,.int .i64 c),(18,.int .i64 er)]
def RM(tv av vw:AV)(i a c er n:Int)(m9:Nat):List (Nat×AV):=(124,.int .i64 a)::(123,.bool false)::(122,.bool false)::(121,.int .i64 er)::(120,.bool true)::(119,.bool true)::TU tv av vw i a c er n m9
def TV(tv av vw:AV)(i a c er n:Int)(m9:Nat):List (Nat×AV):=(131,.bool false)::(130,.bool false)::(129,.tup [])::(128,.tup [])::(127,.tup [])::(126,.bool false)::(125,.bool false)::RM tv av vw i a c er n m9
def Us(tv av vw:AV)(i a c er n:Int)(m9:Nat):List (Nat×AV):=(136,.int .i64 c)::(135,.bool true)::(134,.bool true)::(133,.int .i64 a)::(132,.bool false)::TV tv av vw i a c er n m9
def Xb(tv av vw:AV)(i a c er n:Int)(m9:Nat):List (Nat×AV):=(140,.bool true)::(139,.bool true)::(138,.bool true)::(137,.int .i64 a)::Us tv av vw i a c er n m9
def bJ(tv av vw:AV)(i a c er n:Int)(m9:Nat):List (Nat×AV):=(146,.bool false)::(145,.bool false)::(144,.int .i64 n)::(143,av)::(142,.hp 0 5)::(141,.int .i64 c)::Xb tv av vw i a c er n m9
def T8c6(tv av vw:AV)(i a c er n:Int)(m9:Nat):List (Nat×AV):=(148,.bool false)::(147,.bool false)::bJ tv av vw i a c er n m9
section
variable{dv pv av tv tw vw pq ow:AV}{kk kv d e pk pw i n a c er:Int}{knm pn:Bytes}{R X H H':AE}{m9:Nat}
theorem s8_0(hc:av.cells=some [av])(hq:pq.cells=some [pq]):AX MX 8 149 (AG MX) (hd8 0) (Tm.init 0 [.agg [dv,.int .i64 kk,.int .i64 kv,.str knm,pv,av],.agg [.int .i64 pk,.int .i64 pw,.str pn,pq]],[])=some (.nrm,([(2,.hp 0 0),(3,.hp 1 0)],[.var false [dv,.int .i64 kk,.int .i64 kv,.str knm,pv,av],.var false [.int .i64 pk,.int .i64 pw,.str pn,pq]])):=by
 simp[f8,hd8,EZ,sub,List.replicate,hc,hq]
theorem s8_1  : AX MX 8 149 (AG MX) (hd8 1) ([(2,.hp 0 0),(3,.hp 1 0)],H)=some (.nrm,([(2,.hp 0 0),(3,.hp 1 0),(20,.bool false)],H)):=by
 simp[f8,hd8,EZ,sub,List.replicate,aa,Ig,Kz]
theorem s8_2a(h11:∀ h,AH MX (AG MX) 11 [.agg [dv,.int .i64 kk,.int .i64 kv,.str knm,pv,av]] h=some (.ret (.bool false),h)):AX MX 8 149 (AG MX) (hd8 2) ([(2,.hp 0 0),(3,.hp 1 0),(20,.bool false)],.var false [dv,.int .i64 kk,.int .i64 kv,.str knm,pv,av]::.var false [.int .i64 pk,.int .i64 pw,.str pn,pq]::R)=some (.ret,([(4,.bool true)],.var false [dv,.int .i64 kk,.int .i64 kv,.str knm,pv,av]::.var false [.int .i64 pk,.int .i64 pw,.str pn,pq]::R)):=by
 simp[f8,hd8,EZ,sub,List.replicate,h11]
theorem s8_2b(h11:∀ h,AH MX (AG MX) 11 [.agg [dv,.int .i64 kk,.int .i64 kv,.str knm,pv,av]] h=some (.ret (.bool true),h))(h12:∀ h,AH MX (AG MX) 12 [.agg [dv,.int .i64 kk,.int .i64 kv,.str knm,pv,av]] h=some (.ret (.int .i64 d),h))(hd:(d == 0)=false):AX MX 8 149 (AG MX) (hd8 2) ([(2,.hp 0 0),(3,.hp 1 0),(20,.bool false)],.var false [dv,.int .i64 kk,.int .i64 kv,.str knm,pv,av]::.var false [.int .i64 pk,.int .i64 pw,.str pn,pq]::R)=some (.ret,([(4,.bool true)],.var false [dv,.int .i64 kk,.int .i64 kv,.str knm,pv,av]::.var false [.int .i64 pk,.int .i64 pw,.str pn,pq]::R)):=by
 have hd0:¬ d=0:=by simpa using hd
 have hd1:(d != 0)=true:=by simpa using hd0
 simp[f8,hd8,EZ,sub,List.replicate,h11,h12,hd0,hd1]
theorem s8_2c(h11:∀ h,AH MX (AG MX) 11 [.agg [dv,.int .i64 kk,.int .i64 kv,.str knm,pv,av]] h=some (.ret (.bool true),h))(h12:∀ h,AH MX (AG MX) 12 [.agg [dv,.int .i64 kk,.int .i64 kv,.str knm,pv,av]] h=some (.ret (.int .i64 0),h))(h13:∀ h,AH MX (AG MX) 13 [.agg [dv,.int .i64 kk,.int .i64 kv,.str knm,pv,av]] h=some (.ret (.bool false),h)):AX MX 8 149 (AG MX) (hd8 2) ([(2,.hp 0 0),(3,.hp 1 0),(20,.bool false)],.var false [dv,.int .i64 kk,.int .i64 kv,.str knm,pv,av]::.var false [.int .i64 pk,.int .i64 pw,.str pn,pq]::R)=some (.ret,([(4,.bool true)],.var false [dv,.int .i64 kk,.int .i64 kv,.str knm,pv,av]::.var false [.int .i64 pk,.int .i64 pw,.str pn,pq]::R)):=by
 simp[f8,hd8,EZ,sub,List.replicate,h11,h12,h13]
theorem s8_2d(h11:∀ h,AH MX (AG MX) 11 [.agg [dv,.int .i64 kk,.int .i64 kv,.str knm,pv,av]] h=some (.ret (.bool true),h))(h12:∀ h,AH MX (AG MX) 12 [.agg [dv,.int .i64 kk,.int .i64 kv,.str knm,pv,av]] h=some (.ret (.int .i64 0),h))(h13:∀ h,AH MX (AG MX) 13 [.agg [dv,.int .i64 kk,.int .i64 kv,.str knm,pv,av]] h=some (.ret (.bool true),h)):AX MX 8 149 (AG MX) (hd8 2) ([(2,.hp 0 0),(3,.hp 1 0),(20,.bool false)],.var false [dv,.int .i64 kk,.int .i64 kv,.str knm,pv,av]::.var false [.int .i64 pk,.int .i64 pw,.str pn,pq]::R)=some (.nrm,([(2,.hp 0 0),(3,.hp 1 0),(33,.bool false)],.var false [dv,.int .i64 kk,.int .i64 kv,.str knm,pv,av]::.var false [.int .i64 pk,.int .i64 pw,.str pn,pq]::R)):=by
 simp[f8,hd8,EZ,sub,List.replicate,h11,h12,h13]
theorem s8_3{O:List AV}(h15:AH MX (AG MX) 15 [.agg [dv,.int .i64 kk,.int .i64 kv,.str knm,pv,av]] (.var false [dv,.int .i64 kk,.int .i64 kv,.str knm,pv,av]::.var false [.int .i64 pk,.int .i64 pw,.str pn,pq]::R)=some (.ret (.agg O),H))(h27:AH MX (AG MX) 27 [.agg O] H=some (.ret (.tup [tv,.int .i64 e]),H')):AX MX 8 149 (AG MX) (hd8 3) ([(2,.hp 0 0),(3,.hp 1 0),(33,.bool false)],.var false [dv,.int .i64 kk,.int .i64 kv,.str knm,pv,av]::.var false [.int .i64 pk,.int .i64 pw,.str pn,pq]::R)=some (.nrm,([(2,.hp 0 0),(3,.hp 1 0),(5,tv),(6,.int .i64 e)],H')):=by
 simp[f8,hd8,EZ,sub,List.replicate,h15,h27]
theorem s8_4e  : AX MX 8 149 (AG MX) (hd8 4) ([(2,.hp 0 0),(3,.hp 1 0),(5,tv),(6,.int .i64 8)],H)=some (.ret,([(4,.bool true)],H)):=by
 simp[f8,hd8,EZ,sub,List.replicate]
theorem s8_4  : AX MX 8 149 (AG MX) (hd8 4) ([(2,.hp 0 0),(3,.hp 1 0),(5,tv),(6,.int .i64 0)],H)=some (.nrm,([(2,.hp 0 0),(3,.hp 1 0),(5,tv),(6,.int .i64 0),(41,.bool false)],H)):=by
 simp[f8,hd8,EZ,sub,List.replicate]
theorem s8_5a{O:List AV}(h15:AH MX (AG MX) 15 [.agg [dv,.int .i64 kk,.int .i64 kv,.str knm,pv,av]] (.var false [dv,.int .i64 kk,.int .i64 kv,.str knm,pv,av]::.var false [.int .i64 pk,.int .i64 pw,.str pn,pq]::R)=some (.ret (.agg O),H))(h51:∀ h,AH MX (AG MX) 51 [tv] h=some (.ret tw,h))(h50:AH MX (AG MX) 50 [.agg O,tw] H=some (.ret (.tup [.int .i64 0,.int .i64 0]),H'))(htn:tv.AA=true):AX MX 8 149 (AG MX) (sub EZ [1,1,1,1,1,0,0]) ([(2,.hp 0 0),(3,.hp 1 0),(5,tv),(6,.int .i64 0),(41,.bool false)],.var false [dv,.int .i64 kk,.int .i64 kv,.str knm,pv,av]::.var false [.int .i64 pk,.int .i64 pw,.str pn,pq]::R)=some (.nrm,([(2,.hp 0 0),(3,.hp 1 0),(5,tv),(7,.int .i64 0),(8,.int .i64 0)],H')):=by
 simp[f8,hd8,EZ,sub,List.replicate,h15,h51,h50,htn]
theorem s8_5b  : AX MX 8 149 (AG MX) (sub EZ [1,1,1,1,1,0,1]) ([(2,.hp 0 0),(3,.hp 1 0),(5,tv),(7,.int .i64 0),(8,.int .i64 0)],H)=some (.nrm,([(2,.hp 0 0),(3,.hp 1 0),(5,tv),(57,.bool false)],H)):=by
 simp[f8,hd8,EZ,sub,List.replicate]
theorem s8_6{ov opv:AV}(c1:ov.cells=some [ov])(c2:opv.cells=some [opv])(c3:ow.cells=some [ow])(h15:AH MX (AG MX) 15 [.agg [dv,.int .i64 kk,.int .i64 kv,.str knm,pv,av]] (.var false [dv,.int .i64 kk,.int .i64 kv,.str knm,pv,av]::.var false [.int .i64 pk,.int .i64 pw,.str pn,pq]::R)=some (.ret (.agg [ov,.int .i64 kk,.int .i64 kv,.str knm,opv,ow]),H)):AX MX 8 149 (AG MX) (hd8 6) ([(2,.hp 0 0),(3,.hp 1 0),(5,tv),(57,.bool false)],.var false [dv,.int .i64 kk,.int .i64 kv,.str knm,pv,av]::.var false [.int .i64 pk,.int .i64 pw,.str pn,pq]::R)=some (.nrm,([(2,.hp 0 0),(3,.hp 1 0),(5,tv),(9,.hp H.length 0)],(H++[.var false [ov,.int .i64 kk,.int .i64 kv,.str knm,opv,ow]]))):=by
 simp[f8,hd8,EZ,sub,List.replicate,h15,c1,c2,c3,BD,Fu]
theorem s8_7{ov opv ow':AV}(hH:H[m9]? = some (.var false [ov,.int .i64 kk,.int .i64 kv,.str knm,opv,ow]))(h1:H[1]? = some (.var false [.int .i64 pk,.int .i64 pw,.str pn,pq]))(hqn:pq.AA=true)(hap:apA 4 56 ow (.sl 4 true [[.int .i64 pk,.int .i64 pw,.str pn,pq]]) H=some (ow',H'))(hH':H'[m9]? = some (.var false [ov,.int .i64 kk,.int .i64 kv,.str knm,opv,ow]))(hc:ow'.cells=some [ow']):AX MX 8 149 (AG MX) (hd8 7) ([(2,.hp 0 0),(3,.hp 1 0),(5,tv),(9,.hp m9 0)],H)=some (.nrm,([(2,.hp 0 0),(5,tv),(9,.hp m9 0)],(H'.set m9 (.var false [ov,.int .i64 kk,.int .i64 kv,.str knm,opv,ow'])))):=by
 simp[f8,hd8,EZ,sub,List.replicate,hH,h1,hqn,hap,hH',hc,bsA,Ag,AF,AV.AA]
theorem s8_8{ov opv:AV}(hH:H[m9]? = some (.var false [ov,.int .i64 kk,.int .i64 kv,.str knm,opv,ow]))(h12:AH MX (AG MX) 12 [.agg [ov,.int .i64 kk,.int .i64 kv,.str knm,opv,ow]] H=some (.ret (.int .i64 d),H')):AX MX 8 149 (AG MX) (hd8 8) ([(2,.hp 0 0),(5,tv),(9,.hp m9 0)],H)=some (.nrm,([(2,.hp 0 0),(5,tv),(9,.hp m9 0),(10,.bool (d == 0))],H')):=by
 simp[f8,hd8,EZ,sub,List.replicate,hH,h12]
theorem s8_9{b:Bool}(h0:H[0]? = some (.var false [dv,.int .i64 kk,.int .i64 kv,.str knm,pv,av]))(h38:∀ h,AH MX (AG MX) 38 [.agg [dv,.int .i64 kk,.int .i64 kv,.str knm,pv,av]] h=some (.ret vw,h)):AX MX 8 149 (AG MX) (hd8 9) ([(2,.hp 0 0),(5,tv),(9,.hp m9 0),(10,.bool b)],H)=some (.nrm,([(2,.hp 0 0),(5,tv),(9,.hp m9 0),(10,.bool b),(11,vw)],H)):=by
 simp[f8,hd8,EZ,sub,List.replicate,h0,h38]
theorem s8_10{b cd:Bool}{n i:Int}(hlp:E5 MX 8 149 (AG MX) (AL f8 0) ([(2,.hp 0 0),(5,tv),(9,.hp m9 0),(10,.bool b),(11,vw),(12,.int .i64 (0:Nat))],H)=some (.ext 0,([(2,.hp 0 0),(5,tv),(9,.hp m9 0),(10,.bool b),(11,vw),(12,.int .i64 i),(74,.bool cd)],H'))):AX MX 8 149 (AG MX) (hd8 10) ([(2,.hp 0 0),(5,tv),(9,.hp m9 0),(10,.bool b),(11,vw)],H)=some (.nrm,([(2,.hp 0 0),(5,tv),(9,.hp m9 0),(10,.bool b),(11,vw),(12,.int .i64 i),(74,.bool cd)],H')):=by
 simp[f8]at hlp;simp[f8,hd8,EZ,sub,List.replicate,hlp]
theorem s8_11{b cd:Bool}:AX MX 8 149 (AG MX) (sub EZ (List.replicate 11 1)) ([(2,.hp 0 0),(5,tv),(9,.hp m9 0),(10,.bool b),(11,vw),(12,.int .i64 i),(74,.bool cd)],H)=some (.ret,([(4,.bool true)],H)):=by
 simp[f8,hd8,EZ,sub,List.replicate]
theorem body8:AL f8 0=.seq (sub (AL f8 0) [0]) (.seq (.block 1 (.seq (sub (AL f8 0) [1,0,0,0]) (.seq (sub (AL f8 0) [1,0,0,1,0]) (.seq (sub (AL f8 0) [1,0,0,1,1,0]) (.seq (sub (AL f8 0) [1,0,0,1,1,1,0]) (.seq (.region 23 (Ab f8 23) false) (.cond (.tmp 148) (condT (sub (AL f8 0) [1,0,0,1,1,1,1,1])) .skip))))))) (sub (AL f8 0) [1,1])):=rfl
theorem r8_0{b:Bool}(hvl:∀ h,Bi vw h=some (.val (.int .i64 n) h))(hi:i<n):AX MX 8 149 (AG MX) (sub (AL f8 0) [0]) ([(2,.hp 0 0),(5,tv),(9,.hp m9 0),(10,.bool b),(11,vw),(12,.int .i64 i)],H)=some (.nrm,([(2,.hp 0 0),(5,tv),(9,.hp m9 0),(10,.bool b),(11,vw),(12,.int .i64 i),(74,.bool true)],H)):=by
 simp[f8,hd8,EZ,sub,List.replicate,hvl,hi]
theorem r8_x{b:Bool}(hvl:∀ h,Bi vw h=some (.val (.int .i64 n) h))(hi:¬ i<n):AX MX 8 149 (AG MX) (AL f8 0) ([(2,.hp 0 0),(5,tv),(9,.hp m9 0),(10,.bool b),(11,vw),(12,.int .i64 i)],H)=some (.ext 0,([(2,.hp 0 0),(5,tv),(9,.hp m9 0),(10,.bool b),(11,vw),(12,.int .i64 i),(74,.bool false)],H)):=by
 simp[f8,hd8,EZ,sub,List.replicate,hvl,hi]
theorem r8_1{b:Bool}{un wn:Bytes}{uv wv:Int}{uq wq:AV}(hix:ixA 3 vw (.int .i64 i)=some (.ro [.str un,.int .i64 uv,uq]))(hun:uq.AA=true)(h49:∀ h,AH MX (AG MX) 49 [.agg [.str un,.int .i64 uv,uq]] h=some (.ret (.agg [.str wn,.int .i64 wv,wq]),h))(hwn:wq.AA=true){O:List AV}{Y Y':AE}(h0:H[0]? = some (.var false [dv,.int .i64 kk,.int .i64 kv,.str knm,pv,av]))(hdn:dv.AA=true)(hpn:pv.AA=true)(han:av.AA=true)(h15:AH MX (AG MX) 15 [.agg [dv,.int .i64 kk,.int .i64 kv,.str knm,pv,av]] H=some (.ret (.agg O),H++Y))(h43:AH MX (AG MX) 43 [.agg O,.agg [.str wn,.int .i64 wv,wq]] (H++Y)=some (.ret (.tup [.int .i64 a,.int .i64 0]),H++Y')):AX MX 8 149 (AG MX) (sub (AL f8 0) [1,0,0,0]) ([(2,.hp 0 0),(5,tv),(9,.hp m9 0),(10,.bool b),(11,vw),(12,.int .i64 i),(74,.bool true)],H)=some (.nrm,([(2,.hp 0 0),(5,tv),(9,.hp m9 0),(10,.bool b),(11,vw),(12,.int .i64 i),(13,.int .i64 a),(14,.int .i64 0)],H++Y')):=by
 have hb:=Zo;simp[Ab,Az,f8]at hb;have h0l:0<H.length:=(Ac.1 h0).1;have hm:=md7 h0l Y Y';cases hO:AF O <;> simp[f8,sub,h0,h15,hix,h49,h43,hun,hwn,hdn,hpn,han,hb,hm,hO,AF,AV.AA]
theorem r8_2{b:Bool}{un wn:Bytes}{uv wv:Int}{uq wq:AV}(hix:ixA 3 vw (.int .i64 i)=some (.ro [.str un,.int .i64 uv,uq]))(hun:uq.AA=true)(h49:∀ h,AH MX (AG MX) 49 [.agg [.str un,.int .i64 uv,uq]] h=some (.ret (.agg [.str wn,.int .i64 wv,wq]),h))(hwn:wq.AA=true)(htn:tv.AA=true)(h52:∀ h,AH MX (AG MX) 52 [tv,.agg [.str wn,.int .i64 wv,wq]] h=some (.ret (.tup [.int .i64 c,.int .i64 0]),h)):AX MX 8 149 (AG MX) (sub (AL f8 0) [1,0,0,1,0]) ([(2,.hp 0 0),(5,tv),(9,.hp m9 0),(10,.bool b),(11,vw),(12,.int .i64 i),(13,.int .i64 a),(14,.int .i64 0)],H)=some (.nrm,([(2,.hp 0 0),(5,tv),(9,.hp m9 0),(10,.bool b),(11,vw),(12,.int .i64 i),(13,.int .i64 a),(14,.int .i64 0),(15,.int .i64 c),(16,.int .i64 0)],H)):=by
 simp[f8,hd8,EZ,sub,List.replicate,hix,h49,h52,hun,hwn,htn,AF,AV.AA]
theorem r8_3{b:Bool}:AX MX 8 149 (AG MX) (sub (AL f8 0) [1,0,0,1,1,0]) ([(2,.hp 0 0),(5,tv),(9,.hp m9 0),(10,.bool b),(11,vw),(12,.int .i64 i),(13,.int .i64 a),(14,.int .i64 0),(15,.int .i64 a),(16,.int .i64 0)],H)=some (.nrm,([(2,.hp 0 0),(5,tv),(9,.hp m9 0),(10,.bool b),(11,vw),(12,.int .i64 i),(13,.int .i64 a),(108,.bool false)],H)):=by
 simp[f8,hd8,EZ,sub,List.replicate]
theorem r8_4{b:Bool}{un wn:Bytes}{uv wv:Int}{uq wq:AV}(hix:ixA 3 vw (.int .i64 i)=some (.ro [.str un,.int .i64 uv,uq]))(hun:uq.AA=true)(h49:∀ h,AH MX (AG MX) 49 [.agg [.str un,.int .i64 uv,uq]] h=some (.ret (.agg [.str wn,.int .i64 wv,wq]),h))(hwn:wq.AA=true){O:List AV}(hO:O.length=6)(h9:H[m9]? = some (.var false O))(hm:H'[m9]? = H[m9]?)(h43:AH MX (AG MX) 43 [.agg O,.agg [.str wn,.int .i64 wv,wq]] H=some (.ret (.tup [.int .i64 c,.int .i64 er]),H')):AX MX 8 149 (AG MX) (sub (AL f8 0) [1,0,0,1,1,1,0]) ([(2,.hp 0 0),(5,tv),(9,.hp m9 0),(10,.bool b),(11,vw),(12,.int .i64 i),(13,.int .i64 a),(108,.bool false)],H)=some (.nrm,([(2,.hp 0 0),(5,tv),(9,.hp m9 0),(10,.bool b),(11,vw),(12,.int .i64 i),(13,.int .i64 a),(17,.int .i64 c),(18,.int .i64 er)],H')):=by
 have hb:=Zp;simp[Ab,Az,f8]at hb;have h9l:m9<H.length:=(Ac.1 h9).1;have hmd:=E6 h9l hm;obtain⟨o1,o2,o3,o4,o5,o6,rfl⟩:∃ o1 o2 o3 o4 o5 o6,O=[o1,o2,o3,o4,o5,o6]:=by
  match O,hO with
  | [a,b,c,d,e,f],_=>exact⟨a,b,c,d,e,f,rfl⟩
 cases hn:(o1.AA&&(o2.AA&&(o3.AA&&(o4.AA&&(o5.AA&&o6.AA))))) <;> simp[f8,sub,h9,hix,h49,h43,hun,hwn,hb,hmd,hn,AF,AV.AA]
theorem r8_6{b:Bool}(hw:wr .i64 (i+1)=i+1):AX MX 8 149 (AG MX) (sub (AL f8 0) [1,1]) ([(2,.hp 0 0),(5,tv),(9,.hp m9 0),(10,.bool b),(11,vw),(12,.int .i64 i),(148,.bool false)],H)=some (.nrm,([(2,.hp 0 0),(5,tv),(9,.hp m9 0),(10,.bool b),(11,vw),(12,.int .i64 (i+1))],H)):=by
 simp[f8,hd8,EZ,sub,List.replicate,hw]
theorem x8n0  : Ap MX 8 149 (AG MX) (Ab f8 23) ((Ab f8 23).toList.take 6) (TM tv av vw i a c er n m9) H (List.replicate 0 Kd.st)=some (.done (RJ tv av vw i a c er n m9) H (List.replicate 6 Kd.st)):=by
 simp[Ab,Az,f8,List.replicate,TM,RJ]
theorem x8n1  : Ap MX 8 149 (AG MX) (Ab f8 23) (((Ab f8 23).toList.drop 6).take 7) (RJ tv av vw i a c er n m9) H (List.replicate 6 Kd.st)=some (.done (TN tv av vw i a c er n m9) H (List.replicate 13 Kd.st)):=by
 simp[Ab,Az,f8,List.replicate,TM,RJ,TN]
theorem x8n2  : Ap MX 8 149 (AG MX) (Ab f8 23) ((((Ab f8 23).toList.drop 6).drop 7).take 5) (TN tv av vw i a c er n m9) H (List.replicate 13 Kd.st)=some (.done (Up tv av vw i a c er n m9) H (List.replicate 18 Kd.st)):=by
 simp[Ab,Az,f8,List.replicate,TM,RJ,TN,Up]
theorem x8n3  : Ap MX 8 149 (AG MX) (Ab f8 23) (((((Ab f8 23).toList.drop 6).drop 7).drop 5).take 4) (Up tv av vw i a c er n m9) H (List.replicate 18 Kd.st)=some (.done (XY tv av vw i a c er n m9) H (List.replicate 22 Kd.st)):=by
 simp[Ab,Az,f8,List.replicate,TM,RJ,TN,Up,XY]
theorem x8n4  : Ap MX 8 149 (AG MX) (Ab f8 23) ((((((Ab f8 23).toList.drop 6).drop 7).drop 5).drop 4).take 6) (XY tv av vw i a c er n m9) H (List.replicate 22 Kd.st)=some (.done (bG tv av vw i a c er n m9) H (List.replicate 28 Kd.st)):=by
 simp[Ab,Az,f8,List.replicate,TM,RJ,TN,Up,XY,bG]
theorem x8n5  : Ap MX 8 149 (AG MX) (Ab f8 23) ((((((Ab f8 23).toList.drop 6).drop 7).drop 5).drop 4).drop 6) (bG tv av vw i a c er n m9) H (List.replicate 28 Kd.st)=some (.done (T8n6 tv av vw i a c er n m9) H (List.replicate 30 Kd.st)):=by
 simp[Ab,Az,f8,List.replicate,TM,RJ,TN,Up,XY,bG,T8n6]
theorem r8_5n  : AX MX 8 149 (AG MX) (.region 23 (Ab f8 23) false) ([(2,.hp 0 0),(5,tv),(9,.hp m9 0),(10,.bool false),(11,vw),(12,.int .i64 i),(13,.int .i64 a),(17,.int .i64 c),(18,.int .i64 er)],H)=some (.nrm,([(2,.hp 0 0),(5,tv),(9,.hp m9 0),(10,.bool false),(11,vw),(12,.int .i64 i),(148,.bool false)],H)):=
 Ky ((Bq 6 (x8n0 (tv:=tv) (av:=.undef) (vw:=vw) (i:=i) (a:=a) (c:=c) (er:=er) (n:=0) (m9:=m9))).trans ((Bq 7 (x8n1 (tv:=tv) (av:=.undef) (vw:=vw) (i:=i) (a:=a) (c:=c) (er:=er) (n:=0) (m9:=m9))).trans ((Bq 5 (x8n2 (tv:=tv) (av:=.undef) (vw:=vw) (i:=i) (a:=a) (c:=c) (er:=er) (n:=0) (m9:=m9))).trans ((Bq 4 (x8n3 (tv:=tv) (av:=.undef) (vw:=vw) (i:=i) (a:=a) (c:=c) (er:=er) (n:=0) (m9:=m9))).trans ((Bq 6 (x8n4 (tv:=tv) (av:=.undef) (vw:=vw) (i:=i) (a:=a) (c:=c) (er:=er) (n:=0) (m9:=m9))).trans (x8n5 (tv:=tv) (av:=.undef) (vw:=vw) (i:=i) (a:=a) (c:=c) (er:=er) (n:=0) (m9:=m9))))))) (fun h=>by cases h) (by decide +kernel:MX.keep 8 23=some [2,5,9,10,11,12,148])
theorem x8a0(hc:c=a)(he:er=0)(ha:decide (0<=a)=true):Ap MX 8 149 (AG MX) (Ab f8 23) ((Ab f8 23).toList.take 6) (TP tv av vw i a c er n m9) H (List.replicate 0 Kd.st)=some (.done (RK tv av vw i a c er n m9) H (List.replicate 6 Kd.st)):=by
 simp[Ab,Az,f8,List.replicate,hc,he,ha,show ¬ a<0 from by simpa using ha,show 0<=a from by simpa using ha,TP,RK]
theorem x8a1(hc:c=a)(he:er=0)(ha:decide (0<=a)=true):Ap MX 8 149 (AG MX) (Ab f8 23) (((Ab f8 23).toList.drop 6).take 7) (RK tv av vw i a c er n m9) H (List.replicate 6 Kd.st)=some (.done (TQ tv av vw i a c er n m9) H (List.replicate 13 Kd.st)):=by
 simp[Ab,Az,f8,List.replicate,hc,he,ha,show ¬ a<0 from by simpa using ha,show 0<=a from by simpa using ha,TP,RK,TQ]
theorem x8a2(hc:c=a)(he:er=0)(ha:decide (0<=a)=true):Ap MX 8 149 (AG MX) (Ab f8 23) ((((Ab f8 23).toList.drop 6).drop 7).take 5) (TQ tv av vw i a c er n m9) H (List.replicate 13 Kd.st)=some (.done (Uq tv av vw i a c er n m9) H (List.replicate 18 Kd.st)):=by
 simp[Ab,Az,f8,List.replicate,hc,he,ha,show ¬ a<0 from by simpa using ha,show 0<=a from by simpa using ha,TP,RK,TQ,Uq]
theorem x8a3(hc:c=a)(he:er=0)(ha:decide (0<=a)=true):Ap MX 8 149 (AG MX) (Ab f8 23) (((((Ab f8 23).toList.drop 6).drop 7).drop 5).take 4) (Uq tv av vw i a c er n m9) H (List.replicate 18 Kd.st)=some (.done (XZ tv av vw i a c er n m9) H (List.replicate 22 Kd.st)):=by
 simp[Ab,Az,f8,List.replicate,hc,he,ha,show ¬ a<0 from by simpa using ha,show 0<=a from by simpa using ha,TP,RK,TQ,Uq,XZ]
theorem x8a4(hc:c=a)(he:er=0)(ha:decide (0<=a)=true):Ap MX 8 149 (AG MX) (Ab f8 23) ((((((Ab f8 23).toList.drop 6).drop 7).drop 5).drop 4).take 6) (XZ tv av vw i a c er n m9) H (List.replicate 22 Kd.st)=some (.done (bH tv av vw i a c er n m9) H (List.replicate 28 Kd.st)):=by
 simp[Ab,Az,f8,List.replicate,hc,he,ha,show ¬ a<0 from by simpa using ha,show 0<=a from by simpa using ha,TP,RK,TQ,Uq,XZ,bH]
theorem x8a5(hc:c=a)(he:er=0)(ha:decide (0<=a)=true):Ap MX 8 149 (AG MX) (Ab f8 23) ((((((Ab f8 23).toList.drop 6).drop 7).drop 5).drop 4).drop 6) (bH tv av vw i a c er n m9) H (List.replicate 28 Kd.st)=some (.done (T8a6 tv av vw i a c er n m9) H (List.replicate 30 Kd.st)):=by
 simp[Ab,Az,f8,List.replicate,hc,he,ha,show ¬ a<0 from by simpa using ha,show 0<=a from by simpa using ha,TP,RK,TQ,Uq,XZ,bH,T8a6]
theorem r8_5a(hc:c=a)(he:er=0)(ha:decide (0<=a)=true):AX MX 8 149 (AG MX) (.region 23 (Ab f8 23) false) ([(2,.hp 0 0),(5,tv),(9,.hp m9 0),(10,.bool true),(11,vw),(12,.int .i64 i),(13,.int .i64 a),(17,.int .i64 c),(18,.int .i64 er)],H)=some (.nrm,([(2,.hp 0 0),(5,tv),(9,.hp m9 0),(10,.bool true),(11,vw),(12,.int .i64 i),(148,.bool false)],H)):=
 Ky ((Bq 6 (x8a0 (tv:=tv) (av:=.undef) (vw:=vw) (i:=i) (a:=a) (c:=c) (er:=er) (n:=0) (m9:=m9) hc he ha)).trans ((Bq 7 (x8a1 (tv:=tv) (av:=.undef) (vw:=vw) (i:=i) (a:=a) (c:=c) (er:=er) (n:=0) (m9:=m9) hc he ha)).trans ((Bq 5 (x8a2 (tv:=tv) (av:=.undef) (vw:=vw) (i:=i) (a:=a) (c:=c) (er:=er) (n:=0) (m9:=m9) hc he ha)).trans ((Bq 4 (x8a3 (tv:=tv) (av:=.undef) (vw:=vw) (i:=i) (a:=a) (c:=c) (er:=er) (n:=0) (m9:=m9) hc he ha)).trans ((Bq 6 (x8a4 (tv:=tv) (av:=.undef) (vw:=vw) (i:=i) (a:=a) (c:=c) (er:=er) (n:=0) (m9:=m9) hc he ha)).trans (x8a5 (tv:=tv) (av:=.undef) (vw:=vw) (i:=i) (a:=a) (c:=c) (er:=er) (n:=0) (m9:=m9) hc he ha)))))) (fun h=>by cases h) (by decide +kernel:MX.keep 8 23=some [2,5,9,10,11,12,148])
theorem x8b0(hc:c=a)(he:er=0)(ha:a = -1):Ap MX 8 149 (AG MX) (Ab f8 23) ((Ab f8 23).toList.take 6) (TR tv av vw i a c er n m9) H (List.replicate 0 Kd.st)=some (.done (RL tv av vw i a c er n m9) H (List.replicate 6 Kd.st)):=by
 simp[Ab,Az,f8,List.replicate,hc,he,ha,TR,RL]
theorem x8b1(hc:c=a)(he:er=0)(ha:a = -1):Ap MX 8 149 (AG MX) (Ab f8 23) (((Ab f8 23).toList.drop 6).take 7) (RL tv av vw i a c er n m9) H (List.replicate 6 Kd.st)=some (.done (TT tv av vw i a c er n m9) H (List.replicate 13 Kd.st)):=by
 simp[Ab,Az,f8,List.replicate,hc,he,ha,TR,RL,TT]
theorem x8b2(hc:c=a)(he:er=0)(ha:a = -1):Ap MX 8 149 (AG MX) (Ab f8 23) ((((Ab f8 23).toList.drop 6).drop 7).take 5) (TT tv av vw i a c er n m9) H (List.replicate 13 Kd.st)=some (.done (Ur tv av vw i a c er n m9) H (List.replicate 18 Kd.st)):=by
 simp[Ab,Az,f8,List.replicate,hc,he,ha,TR,RL,TT,Ur]
theorem x8b3(hc:c=a)(he:er=0)(ha:a = -1):Ap MX 8 149 (AG MX) (Ab f8 23) (((((Ab f8 23).toList.drop 6).drop 7).drop 5).take 4) (Ur tv av vw i a c er n m9) H (List.replicate 18 Kd.st)=some (.done (Xa tv av vw i a c er n m9) H (List.replicate 22 Kd.st)):=by
 simp[Ab,Az,f8,List.replicate,hc,he,ha,TR,RL,TT,Ur,Xa]
theorem x8b4(hc:c=a)(he:er=0)(ha:a = -1):Ap MX 8 149 (AG MX) (Ab f8 23) ((((((Ab f8 23).toList.drop 6).drop 7).drop 5).drop 4).take 6) (Xa tv av vw i a c er n m9) H (List.replicate 22 Kd.st)=some (.done (bI tv av vw i a c er n m9) H (List.replicate 28 Kd.st)):=by
 simp[Ab,Az,f8,List.replicate,hc,he,ha,TR,RL,TT,Ur,Xa,bI]
theorem x8b5(hc:c=a)(he:er=0)(ha:a = -1):Ap MX 8 149 (AG MX) (Ab f8 23) ((((((Ab f8 23).toList.drop 6).drop 7).drop 5).drop 4).drop 6) (bI tv av vw i a c er n m9) H (List.replicate 28 Kd.st)=some (.done (T8b6 tv av vw i a c er n m9) H (List.replicate 30 Kd.st)):=by
 simp[Ab,Az,f8,List.replicate,hc,he,ha,TR,RL,TT,Ur,Xa,bI,T8b6]
theorem r8_5b(hc:c=a)(he:er=0)(ha:a = -1):AX MX 8 149 (AG MX) (.region 23 (Ab f8 23) false) ([(2,.hp 0 0),(5,tv),(9,.hp m9 0),(10,.bool true),(11,vw),(12,.int .i64 i),(13,.int .i64 a),(17,.int .i64 c),(18,.int .i64 er)],H)=some (.nrm,([(2,.hp 0 0),(5,tv),(9,.hp m9 0),(10,.bool true),(11,vw),(12,.int .i64 i),(148,.bool false)],H)):=
 Ky ((Bq 6 (x8b0 (tv:=tv) (av:=.undef) (vw:=vw) (i:=i) (a:=a) (c:=c) (er:=er) (n:=0) (m9:=m9) hc he ha)).trans ((Bq 7 (x8b1 (tv:=tv) (av:=.undef) (vw:=vw) (i:=i) (a:=a) (c:=c) (er:=er) (n:=0) (m9:=m9) hc he ha)).trans ((Bq 5 (x8b2 (tv:=tv) (av:=.undef) (vw:=vw) (i:=i) (a:=a) (c:=c) (er:=er) (n:=0) (m9:=m9) hc he ha)).trans ((Bq 4 (x8b3 (tv:=tv) (av:=.undef) (vw:=vw) (i:=i) (a:=a) (c:=c) (er:=er) (n:=0) (m9:=m9) hc he ha)).trans ((Bq 6 (x8b4 (tv:=tv) (av:=.undef) (vw:=vw) (i:=i) (a:=a) (c:=c) (er:=er) (n:=0) (m9:=m9) hc he ha)).trans (x8b5 (tv:=tv) (av:=.undef) (vw:=vw) (i:=i) (a:=a) (c:=c) (er:=er) (n:=0) (m9:=m9) hc he ha)))))) (fun h=>by cases h) (by decide +kernel:MX.keep 8 23=some [2,5,9,10,11,12,148])
theorem x8c0(hc:c=n)(he:er=0)(ha:a = -1)(hn:(n == -1)=false)(h0:H[0]? = some (.var false [dv,.int .i64 kk,.int .i64 kv,.str knm,pv,av]))(hal:∀ h,Bi av h=some (.val (.int .i64 n) h))(hkl:C5 (some av)=.st):Ap MX 8 149 (AG MX) (Ab f8 23) ((Ab f8 23).toList.take 6) (TU tv av vw i a c er n m9) H (List.replicate 0 Kd.st)=some (.done (RM tv av vw i a c er n m9) H (List.replicate 6 Kd.st)):=by
 simp[Ab,Az,f8,List.replicate,hc,he,ha,hn,h0,hal,hkl,(show ¬ n = -1 from by simpa using hn),TU,RM]
theorem x8c1(hc:c=n)(he:er=0)(ha:a = -1)(hn:(n == -1)=false)(h0:H[0]? = some (.var false [dv,.int .i64 kk,.int .i64 kv,.str knm,pv,av]))(hal:∀ h,Bi av h=some (.val (.int .i64 n) h))(hkl:C5 (some av)=.st):Ap MX 8 149 (AG MX) (Ab f8 23) (((Ab f8 23).toList.drop 6).take 7) (RM tv av vw i a c er n m9) H (List.replicate 6 Kd.st)=some (.done (TV tv av vw i a c er n m9) H (List.replicate 13 Kd.st)):=by
 simp[Ab,Az,f8,List.replicate,hc,he,ha,hn,h0,hal,hkl,(show ¬ n = -1 from by simpa using hn),TU,RM,TV]
theorem x8c2(hc:c=n)(he:er=0)(ha:a = -1)(hn:(n == -1)=false)(h0:H[0]? = some (.var false [dv,.int .i64 kk,.int .i64 kv,.str knm,pv,av]))(hal:∀ h,Bi av h=some (.val (.int .i64 n) h))(hkl:C5 (some av)=.st):Ap MX 8 149 (AG MX) (Ab f8 23) ((((Ab f8 23).toList.drop 6).drop 7).take 5) (TV tv av vw i a c er n m9) H (List.replicate 13 Kd.st)=some (.done (Us tv av vw i a c er n m9) H (List.replicate 18 Kd.st)):=by
 simp[Ab,Az,f8,List.replicate,hc,he,ha,hn,h0,hal,hkl,(show ¬ n = -1 from by simpa using hn),TU,RM,TV,Us]
theorem x8c3(hc:c=n)(he:er=0)(ha:a = -1)(hn:(n == -1)=false)(h0:H[0]? = some (.var false [dv,.int .i64 kk,.int .i64 kv,.str knm,pv,av]))(hal:∀ h,Bi av h=some (.val (.int .i64 n) h))(hkl:C5 (some av)=.st):Ap MX 8 149 (AG MX) (Ab f8 23) (((((Ab f8 23).toList.drop 6).drop 7).drop 5).take 4) (Us tv av vw i a c er n m9) H (List.replicate 18 Kd.st)=some (.done (Xb tv av vw i a c er n m9) H (List.replicate 22 Kd.st)):=by
 simp[Ab,Az,f8,List.replicate,hc,he,ha,hn,h0,hal,hkl,(show ¬ n = -1 from by simpa using hn),TU,RM,TV,Us,Xb]
theorem x8c4(hc:c=n)(he:er=0)(ha:a = -1)(hn:(n == -1)=false)(h0:H[0]? = some (.var false [dv,.int .i64 kk,.int .i64 kv,.str knm,pv,av]))(hal:∀ h,Bi av h=some (.val (.int .i64 n) h))(hkl:C5 (some av)=.st):Ap MX 8 149 (AG MX) (Ab f8 23) ((((((Ab f8 23).toList.drop 6).drop 7).drop 5).drop 4).take 6) (Xb tv av vw i a c er n m9) H (List.replicate 22 Kd.st)=some (.done (bJ tv av vw i a c er n m9) H (List.replicate 3 Kd.st++Kd.ld 0::List.replicate 24 Kd.st)):=by
 simp[Ab,Az,f8,List.replicate,hc,he,ha,hn,h0,hal,hkl,(show ¬ n = -1 from by simpa using hn),TU,RM,TV,Us,Xb,bJ]
theorem x8c5(hc:c=n)(he:er=0)(ha:a = -1)(hn:(n == -1)=false)(h0:H[0]? = some (.var false [dv,.int .i64 kk,.int .i64 kv,.str knm,pv,av]))(hal:∀ h,Bi av h=some (.val (.int .i64 n) h))(hkl:C5 (some av)=.st):Ap MX 8 149 (AG MX) (Ab f8 23) ((((((Ab f8 23).toList.drop 6).drop 7).drop 5).drop 4).drop 6) (bJ tv av vw i a c er n m9) H (List.replicate 3 Kd.st++Kd.ld 0::List.replicate 24 Kd.st)=some (.done (T8c6 tv av vw i a c er n m9) H (List.replicate 5 Kd.st++Kd.ld 0::List.replicate 24 Kd.st)):=by
 simp[Ab,Az,f8,List.replicate,hc,he,ha,hn,h0,hal,hkl,(show ¬ n = -1 from by simpa using hn),TU,RM,TV,Us,Xb,bJ,T8c6]
theorem r8_5c(hc:c=n)(he:er=0)(ha:a = -1)(hn:(n == -1)=false)(h0:H[0]? = some (.var false [dv,.int .i64 kk,.int .i64 kv,.str knm,pv,av]))(hal:∀ h,Bi av h=some (.val (.int .i64 n) h))(hkl:C5 (some av)=.st):AX MX 8 149 (AG MX) (.region 23 (Ab f8 23) false) ([(2,.hp 0 0),(5,tv),(9,.hp m9 0),(10,.bool true),(11,vw),(12,.int .i64 i),(13,.int .i64 a),(17,.int .i64 c),(18,.int .i64 er)],H)=some (.nrm,([(2,.hp 0 0),(5,tv),(9,.hp m9 0),(10,.bool true),(11,vw),(12,.int .i64 i),(148,.bool false)],H)):=
 Ky ((Bq 6 (x8c0 (tv:=tv) (av:=av) (vw:=vw) (i:=i) (a:=a) (c:=c) (er:=er) (n:=n) (m9:=m9) hc he ha hn h0 hal hkl)).trans ((Bq 7 (x8c1 (tv:=tv) (av:=av) (vw:=vw) (i:=i) (a:=a) (c:=c) (er:=er) (n:=n) (m9:=m9) hc he ha hn h0 hal hkl)).trans ((Bq 5 (x8c2 (tv:=tv) (av:=av) (vw:=vw) (i:=i) (a:=a) (c:=c) (er:=er) (n:=n) (m9:=m9) hc he ha hn h0 hal hkl)).trans ((Bq 4 (x8c3 (tv:=tv) (av:=av) (vw:=vw) (i:=i) (a:=a) (c:=c) (er:=er) (n:=n) (m9:=m9) hc he ha hn h0 hal hkl)).trans ((Bq 6 (x8c4 (tv:=tv) (av:=av) (vw:=vw) (i:=i) (a:=a) (c:=c) (er:=er) (n:=n) (m9:=m9) hc he ha hn h0 hal hkl)).trans (x8c5 (tv:=tv) (av:=av) (vw:=vw) (i:=i) (a:=a) (c:=c) (er:=er) (n:=n) (m9:=m9) hc he ha hn h0 hal hkl)))))) (fun h=>by cases h) (by decide +kernel:MX.keep 8 23=some [2,5,9,10,11,12,148])
end
theorem PE{arms:List TyV}{s:Sh}(hdp:∀ p∈arms,dp p<1048577):∀ n q b ns,CD arms s n q b=some ns->∀ v∈ns,v.path.length<1048577
 | 0,_,_,_,h=>by cases h
 | n+1,q,b,ns,h=>by
  have ih:=PE (s:=s) hdp n;rw[CD]at h;split at h
  .cases h
  .split at h
   .cases h;intro v hv;simp at hv;subst hv;simp
   .rename_i a hfi;split at h
    .cases h;intro v hv;simp at hv;subst hv;simp
    .obtain⟨path,hp⟩:∃ path,path=(FO (arms.getD a default) q).getD []:=⟨_,rfl⟩;rw[<- hp]at h;have hal:=Gh hfi;have hpl:(DX path).length<1048577:=by
      have hnl:(DX path).length=path.length:=(by simp[DX]);rw[hnl,hp];have hgd:arms.getD a default=arms[a]:=(by simp[List.getD,AO hal]);rw[hgd];cases hk:FO arms[a] q with
      | none=>simp
      | some p2=>
       have:=O9 _ _ _ hk;have:=hdp _ (An hal);simp;omega
     unfold Ik at h;split at h
     .cases h
     .rename_i cs ms hgo;have g2:=(RI hgo).2 (fun v=>v.path.length<1048577) ih;unfold RG at h;split at h
      .cases h;intro v hv;rcases CF.1 hv with rfl | hv
       .exact hpl
       .exact g2 v hv
      .split at h
       .cases h
       .rename_i ms2 hm2;cases h;intro v hv;rcases CF.1 hv with rfl | hv
        .exact hpl
        .rcases H6.1 hv with hv | hv
         .exact g2 v hv
         .exact ih _ _ _ hm2 v hv
theorem QK{k:EM}{w0 pv:AV}{es:List (List AV)}(hw0:SlR Ah 3 k.data w0)(hpv:SlR AU 4 k.ty.ps pv)(hnr:es.all AF=true){c:Nat}{lk:Bool}{H:AE}(hH:H[c]? = some (.arr 4 lk es))(F:FuncId)(r:AV)(hm:(MX.mode F).fresh=true) :
 ((∀ h,AH MX (AG MX) F [.agg [w0,.int .i64 k.ty.k,.int .i64 k.ty.v,.str k.ty.nm,pv,.sl 4 false es]] h=some (.ret r,h))->AH MX (AG MX) F [.agg [w0,.int .i64 k.ty.k,.int .i64 k.ty.v,.str k.ty.nm,pv,.hs c es.length 4 0 es.length false]] H=some (.ret r,H.set c (.arr 4 true es))) /\
 ∀ y:AV,y.AA=true->(∀ h,AH MX (AG MX) F [.agg [w0,.int .i64 k.ty.k,.int .i64 k.ty.v,.str k.ty.nm,pv,.sl 4 false es],y] h=some (.ret r,h))->AH MX (AG MX) F [.agg [w0,.int .i64 k.ty.k,.int .i64 k.ty.v,.str k.ty.nm,pv,.hs c es.length 4 0 es.length false],y] H=some (.ret r,H.set c (.arr 4 true es)):=by
 constructor
 .intro h;have hs:=Mu hw0 hpv hnr (m:=es.length) (Cd _) hH (kk:=k.ty.k) (vv:=k.ty.v) (nm:=k.ty.nm);rw[Gu]at hs;exact EG hm hs (by simp[AV.AA,AF,hw0.AA,hpv.AA]) (h _)
 .intro y hy h;exact EG hm (QF hw0 hpv hnr hH (kk:=k.ty.k) (vv:=k.ty.v) (nm:=k.ty.nm) hy) (by simp[AV.AA,AF,hw0.AA,hpv.AA,hy]) (h _)
theorem bK{arms:List TyV}{p u:TyV}:Jp (arms++[p]) u=if Jp arms u = -1 then(if C6 p u then(arms.length:Int)else -1)else Jp arms u:=by
 unfold Jp;rw[List.findIdx?_append];cases h:arms.findIdx? (fun p=>C6 p u)with
 | none=>
  rw[show ixI (none:Option Nat) = -1 from rfl,if_pos rfl];cases hf:C6 p u with
  | true=>simp[hf,ixI]
  | false=>simp[hf,ixI]
 | some i=>
  have:¬ ixI (some i) = -1:=by
   show ¬ ((i:Int) = -1);omega
  rw[if_neg this];rfl
theorem HI{a b:Code}{s s':St}{l:List (Nat×AV)}(h:AX MX 8 149 (AG MX) a s=some (.nrm,s'))(h2:∃ T,AX MX 8 149 (AG MX) b s'=some (.ret,(l,T))):∃ T,AX MX 8 149 (AG MX) (.seq a b) s=some (.ret,(l,T)):=by
 obtain⟨T,h2⟩:=h2;exact⟨T,Ai h h2⟩
theorem law8{k:EM}{xs:List AV}(hx:D5 k xs)(hsk:SmT 1048577 k){p:TyV}{px:List AV}(hp:AU p px)(hsp:Sm 1048577 p):∃ hr,AJ MX 8 [.agg xs,.agg px] []=some (.ret (.bool true),hr):=by
 have h11:=c11 hx hsk;have h12:=c12 hx hsk;have h13:=c13 hx hsk;have h38:=c38 hx hsk;obtain⟨xs1,hx1,hown1⟩:=own1 hx hsk;have hx0:=hx;have hp0:=hp;have hpn0:=hp.AF;obtain⟨w0,pv0,es,hw0,hpv0,ht0,hel,her,hc⟩:=c15 hx hsk;obtain⟨dv,pv,av,rfl,hd,hpv,hty,ha⟩:=hx.dest;obtain⟨pq,rfl,hq⟩:=hp.AY;obtain⟨s1,s2,s3,s4⟩:=id hsk;have hend:∃ T,AX MX 8 149 (AG MX) EZ (Tm.init 0 [.agg [dv,.int .i64 k.ty.k,.int .i64 k.ty.v,.str k.ty.nm,pv,av],.agg [.int .i64 p.k,.int .i64 p.v,.str p.nm,pq]],[])=some (.ret,([(4,.bool true)],T)):=by
  rw[bF];refine HI (s8_0 ha.cells hq.cells) (HI s8_1 ?_);cases hS:UR k with
  | false=>
   rw[hS]at h11;exact⟨_,GQ (s8_2a h11)⟩
  | true=>
  rw[hS]at h11;by_cases hE:(A8 k.data k.ty k.arms).2=0
  case neg=>exact⟨_,GQ (s8_2b h11 h12 (by simp[hE]))⟩
  rw[hE]at h12;have h13:=h13 hE;cases hL:decide (cn (CE k.data k.ty)<=300)with
  | false=>
   rw[hL]at h13;exact⟨_,GQ (s8_2c h11 h12 h13)⟩
  | true=>
  rw[hL]at h13;refine HI (s8_2d h11 h12 h13) ?_;obtain⟨hsw,hsh,hvt,hdd⟩:=MP hsk hE;obtain⟨hbo,hpos,hl12,hpat⟩:=JU hE;have h27:=c27 hx1 hsk hE;obtain⟨O1,Y1,Y1',o1,f1⟩:=hown1 [.var false [dv,.int .i64 k.ty.k,.int .i64 k.ty.v,.str k.ty.nm,pv,av],.var false [.int .i64 p.k,.int .i64 p.v,.str p.nm,pq]];cases htk:WG k with
  | none=>
   rw[htk]at h27;have e27:=f1 27 _ (by simp[NU]) h27;exact⟨_,Ai (s8_3 o1 e27) (GQ s8_4e)⟩
  | some T=>
  rw[htk]at h27;obtain⟨tv,hT,hT4,hcs,h27⟩:=h27;have e27:=f1 27 _ (by simp[NU]) h27;have hps:=PE (s:=CE k.data k.ty) (fun p hp=>TK (Kx (hpat p hp)).2) _ _ _ _ htk;have hTs:∀ n∈T,SmN n:=fun n hn=>⟨hps n hn,hcs n hn⟩
  have hT0:T≠[]:=Kb htk;have hTp:0<T.length:=Iv.2 hT0;have hvz:=TB s1 s2 hbo;have hby:∀ u∈Cw (CE k.data k.ty),byV T u=(Jp k.arms u,0):=fun u hu=>
   ah (WH hsw (ji hdd hsh) (fun p hp=>(Kx (hpat p hp)).1) 401 _ 0 T htk (gN hsw u hu) fun m _=>by rw[DW])
  have hgood:∀ u∈Cw (CE k.data k.ty),Hm T k u=true:=fun u hu=>by
   unfold Hm;rw[hby u hu];simp[Jp,aV]
  have hsmV:∀ u∈Cw (CE k.data k.ty),Sm 1048577 u/\A7 u=true/\LX k.data k.ty u=0:=fun u hu=>by
   have hz:=hvz u hu;refine⟨(RB hsw u hu).2.1,?_,?_⟩
   .unfold LW at hz;split at hz
    .rename_i h;exact h
    .cases hz
   .unfold LX;rw[if_pos hbo];exact hz
  obtain⟨tw,hTw,h51⟩:=c51 hT (by omega) hTs;obtain⟨xs2,hx2,hown2⟩:=own2 hx0 hsk hTw.AA;have h50:=c50 hx2 hsk hTw hTs;have hrt:KW k T=0:=by
   unfold KW;rw[if_pos hE,if_neg (by omega),if_neg (by omega)]
  have hnone:(Cw (CE k.data k.ty)).findIdx? (fun u => !Hm T k u)=none:=by
   rw[Nh];intro u hu;rw[hgood u hu];rfl
  rw[hrt]at h50;simp only[if_true,hnone]at h50;refine HI (s8_3 o1 e27) (HI s8_4 ?_);simp only[Ej,Ev]at *;obtain⟨O2,Y2,Y2',o2,f2⟩:=hown2 (.var false [dv,.int .i64 k.ty.k,.int .i64 k.ty.v,.str k.ty.nm,pv,av]::.var false [.int .i64 p.k,.int .i64 p.v,.str p.nm,pq]::Y1');have e50:=f2 50 _ (by simp[NW]) h50;refine HI (Ai (s8_5a o2 h51 e50 hT.AA) s8_5b) ?_;rcases hc with⟨h0,_⟩ | ⟨hne,h15⟩
  .rw[h0]at hpos;simp at hpos
  obtain⟨R2,hR2⟩:∃ R2,R2=Y1'++Y2':=⟨_,rfl⟩;simp only[Ej];rw[<- hR2];obtain⟨R0,hR0⟩:∃ R0:AE,R0=.var false [dv,.int .i64 k.ty.k,.int .i64 k.ty.v,.str k.ty.nm,pv,av]::.var false [.int .i64 p.k,.int .i64 p.v,.str p.nm,pq]::R2:=⟨_,rfl⟩;have h15R:=h15 R0;have hl0:2<=R0.length:=by rw[hR0];simp
  rw[hR0]at h15R;refine HI (s8_6 hw0.cells hpv0.cells rfl h15R) ?_;rw[<- hR0];obtain⟨es2,hes2⟩:∃ es2,es2=es++[[AV.int .i64 p.k,.int .i64 p.v,.str p.nm,pq]]:=⟨_,rfl⟩;have hnr:es.all AF=true:=BN hel her (fun a e h=>h.AF);have hnr2:es2.all AF=true:=by rw[hes2];simp only[List.all_append,hnr,Hk,List.all_nil,hpn0];rfl
  have hln:es.length=k.arms.length:=hel;have hln2:es2.length=k.arms.length+1:=by rw[hes2];simp[hln]
  obtain⟨m9,hm9⟩:∃ m9,m9=R0.length+1:=⟨_,rfl⟩;have hlen9:(R0++[Blk.arr 4 false es]).length=m9:=by rw[hm9];simp
  rw[hlen9];have happ:apA 4 56 (.hs R0.length k.arms.length 4 0 k.arms.length false) (.sl 4 true [[.int .i64 p.k,.int .i64 p.v,.str p.nm,pq]]) (R0++[Blk.arr 4 false es]++[.var false [w0,.int .i64 k.ty.k,.int .i64 k.ty.v,.str k.ty.nm,pv0,.hs R0.length k.arms.length 4 0 k.arms.length false]])=some (.hs R0.length (k.arms.length+1) 4 0 (k.arms.length+1) false,R0++[Blk.arr 4 false es2]++[.var false [w0,.int .i64 k.ty.k,.int .i64 k.ty.v,.str k.ty.nm,pv0,.hs R0.length k.arms.length 4 0 k.arms.length false]]):=by
   have hrd:∀ X,Ax X (.sl 4 true [[.int .i64 p.k,.int .i64 p.v,.str p.nm,pq]])=some [[.int .i64 p.k,.int .i64 p.v,.str p.nm,pq]]:=fun _=>rfl
   have e2:(k.arms.length+1) * 56<=17592186044416:=(by omega);have e3:k.arms.length+1<=17592186044416:=(by omega);have e4:List.take k.arms.length es=es:=DU (by omega);have hg:(R0++[Blk.arr 4 false es]++[.var false [w0,.int .i64 k.ty.k,.int .i64 k.ty.v,.str k.ty.nm,pv0,.hs R0.length k.arms.length 4 0 k.arms.length false]])[R0.length]? = some (.arr 4 false es):=(by simp);have hst:(R0++[Blk.arr 4 false es]++[Blk.var false [w0,.int .i64 k.ty.k,.int .i64 k.ty.v,.str k.ty.nm,pv0,.hs R0.length k.arms.length 4 0 k.arms.length false]]).set R0.length (Blk.arr 4 false (es++[[AV.int .i64 p.k,AV.int .i64 p.v,AV.str p.nm,pq]]))=R0++[Blk.arr 4 false es2]++[Blk.var false [w0,.int .i64 k.ty.k,.int .i64 k.ty.v,.str k.ty.nm,pv0,.hs R0.length k.arms.length 4 0 k.arms.length false]]:=(by rw[hes2];simp);simp only[apA,apX,hrd,Bu,BF,Fs,hg];simp[Ay,A6,Bt,e2,e3,hln,e4];simpa using hst
  have hg9:∀(es:List (List AV)),(R0++[Blk.arr 4 false es]++[.var false [w0,.int .i64 k.ty.k,.int .i64 k.ty.v,.str k.ty.nm,pv0,.hs R0.length k.arms.length 4 0 k.arms.length false]])[m9]? = some (.var false [w0,.int .i64 k.ty.k,.int .i64 k.ty.v,.str k.ty.nm,pv0,.hs R0.length k.arms.length 4 0 k.arms.length false]):=fun es=>by
   rw[hm9,En (by simp)];simp
  have hg1:(R0++[Blk.arr 4 false es]++[.var false [w0,.int .i64 k.ty.k,.int .i64 k.ty.v,.str k.ty.nm,pv0,.hs R0.length k.arms.length 4 0 k.arms.length false]])[1]? = some (.var false [.int .i64 p.k,.int .i64 p.v,.str p.nm,pq]):=by
   rw[hR0];rfl
  refine HI (s8_7 (hg9 es) hg1 hq.AA happ (hg9 es2) rfl) ?_;obtain⟨H3,hH3⟩:∃ H3,H3=(R0++[Blk.arr 4 false es2]++[Blk.var false [w0,.int .i64 k.ty.k,.int .i64 k.ty.v,.str k.ty.nm,pv0,.hs R0.length k.arms.length 4 0 k.arms.length false]]).set m9 (.var false [w0,.int .i64 k.ty.k,.int .i64 k.ty.v,.str k.ty.nm,pv0,.hs R0.length (k.arms.length+1) 4 0 (k.arms.length+1) false]):=⟨_,rfl⟩;rw[<- hH3];rw[<- hln2]at hH3;obtain⟨KeepI,hKI⟩:∃ KeepI:AE->Prop,KeepI=fun X=>X[0]? = some (.var false [dv,.int .i64 k.ty.k,.int .i64 k.ty.v,.str k.ty.nm,pv,av])/\X[m9]? = some (.var false [w0,.int .i64 k.ty.k,.int .i64 k.ty.v,.str k.ty.nm,pv0,.hs R0.length es2.length 4 0 es2.length false])/\∃ lk,X[R0.length]? = some (.arr 4 lk es2):=⟨_,rfl⟩
  have hk3:KeepI H3:=by
   rw[hKI,hH3];refine⟨?_,CM (by rw[hm9];simp),false,?_⟩
   .rw[BP (by omega),hR0];rfl
   .rw[BP (by omega)];simp
  have hkapp:∀ X Y,KeepI X->KeepI (X++Y):=fun X Y h=>by
   rw[hKI]at h ⊢;obtain⟨a1,a2,lk,a3⟩:=h;exact⟨Af a1 _,Af a2 _,lk,Af a3 _⟩
  have hkset:∀ X,KeepI X->KeepI (X.set R0.length (.arr 4 true es2)):=fun X h=>by
   rw[hKI]at h ⊢;obtain⟨a1,a2,lk,a3⟩:=h;exact⟨by rw[BP (by omega)];exact a1,by rw[BP (by omega)];exact a2,true,CM (Ac.1 a3).1⟩
  obtain⟨k2,hk2⟩:∃ k2:EM,k2=⟨k.data,k.ty,k.arms++[p]⟩:=⟨_,rfl⟩;have hx2':D5 k2 [w0,.int .i64 k.ty.k,.int .i64 k.ty.v,.str k.ty.nm,pv0,.sl 4 false es2]:=by
   rw[hk2];obtain⟨j1,j2⟩:=EU (R:=AU) (l:=k.arms) hel her hp0;exact⟨w0,_,.sl 4 false es2,rfl,hw0,ht0,.inr ⟨false,es2,rfl,by rw[hes2];exact j1,by rw[hes2];exact j2⟩⟩
  have hsk2:SmT 1048577 k2:=by
   rw[hk2];refine⟨s1,s2,by simp;omega,fun q hq => ?_⟩;rcases H6.1 hq with hq | hq
   .exact s4 q hq
   .simp at hq;subst hq;exact hsp
  obtain⟨d2,hd2⟩:∃ d2,d2=(A8 k2.data k2.ty k2.arms).2:=⟨_,rfl⟩;have h12m:=c12 hx2' hsk2;rw[<- hd2]at h12m;obtain⟨k31,k32,lk3,k33⟩:=(by rw[hKI]at hk3;exact hk3);have e12:=(QK (k:=k) hw0 hpv0 hnr2 k33 12 _ (by simp[U3])).1 h12m;refine HI (s8_8 k32 e12) ?_;obtain⟨H4,hH4⟩:∃ H4,H4=H3.set R0.length (.arr 4 true es2):=⟨_,rfl⟩;have hk4:KeepI H4:=by rw[hH4];exact hkset _ hk3
  rw[<- hH4];obtain⟨vw,hvw,h38⟩:=h38 hE;have hk40:H4[0]? = some (.var false [dv,.int .i64 k.ty.k,.int .i64 k.ty.v,.str k.ty.nm,pv,av]):=by rw[hKI]at hk4;exact hk4.1
  refine HI (s8_9 hk40 h38) ?_;have hvl:=Kt s1 s2 hbo;have hloop:∃ X,E5 MX 8 149 (AG MX) (AL f8 0) ([(2,.hp 0 0),(5,tv),(9,.hp m9 0),(10,.bool (d2 == 0)),(11,vw),(12,.int .i64 (0:Nat))],H4)=some (.ext 0,([(2,.hp 0 0),(5,tv),(9,.hp m9 0),(10,.bool (d2 == 0)),(11,vw),(12,.int .i64 (Cw (CE k.data k.ty)).length),(74,.bool false)],X)):=by
   obtain⟨e,st,hlp,hq'⟩:=AQ (M:=MX) (fid:=8) (N:=149) (C:=AG MX) (c:=AL f8 0) (n:=(Cw (CE k.data k.ty)).length)
    (fun i (X:AE)=>([(2,.hp 0 0),(5,tv),(9,.hp m9 0),(10,.bool (d2 == 0)),(11,vw),(12,.int .i64 i)],X)) (fun _ X=>KeepI X)
    (fun r=>∃ X,r=(.ext 0,([(2,.hp 0 0),(5,tv),(9,.hp m9 0),(10,.bool (d2 == 0)),(11,vw),(12,.int .i64 (Cw (CE k.data k.ty)).length),(74,.bool false)],X))) (fun i X hi hI=>by
      obtain⟨u,hu⟩:∃ u,u=(Cw (CE k.data k.ty))[i]:=⟨_,rfl⟩;have hum:u∈Cw (CE k.data k.ty):=hu ▸ An hi;obtain⟨e,he,hR⟩:=hvw.ix hi;rw[<- hu]at hR;obtain⟨sm1,sm2,sm3⟩:=hsmV u hum;obtain⟨ys,hys,h49⟩:=c49 u e hR sm1;have hys:A4 u ys:=hys;have hI0:=hI;rw[hKI]at hI0;obtain⟨i1,_,_⟩:=hI0;have hysn:=hys.AF;obtain⟨xs3,hx3,hown3⟩:=own2 hx0 hsk (y:=.agg ys) (by simpa[AV.AA]using hysn);obtain⟨O3,Y3,Y3',o3,f3⟩:=hown3 X;have hro:Ij k u=0:=(by unfold Ij;rw[if_pos hE];exact sm3);have h43:=c43 hx3 hsk hys sm1;rw[hro]at h43;simp only[if_true]at h43;have e43:=f3 43 _ (by simp[NV]) h43;have h52:=fun(q:AV) (hq:SlR A4 3 u.ps q)=>(c52 hT hTs (u:=u) (q:=q))
      obtain⟨uq,rfl,huq⟩:=hR.AY;have hys0:=hys;obtain⟨wq,rfl,hwq⟩:=hys.AY;have h52:=c52 hT hTs hys0 sm1;have hrb:rBy T u=(Jp k.arms u,0):=by
       unfold rBy;rw[if_neg (by omega),if_neg (by omega),if_pos sm2];exact hby u hum
      rw[hrb]at h52;obtain⟨X1,hX1⟩:∃ X1,X1=X++Y3':=⟨_,rfl⟩;have hI1:KeepI X1:=(by rw[hX1];exact hkapp _ _ hI);have hI1':=hI1;rw[hKI]at hI1';obtain⟨j1,j2,lk,j3⟩:=hI1';have h43m:=c43 hx2' hsk2 hys0 sm1;have e43m:=(QK (k:=k) hw0 hpv0 hnr2 j3 43 _ (by simp[NV])).2 (.agg [.str u.nm,.int .i64 u.v,wq]) (by simpa[AV.AA]using hysn) h43m;obtain⟨c,hcq⟩:∃ c,c=(if Ij k2 u=0 then ixI (k2.arms.findIdx? (fun p=>C6 p u))else 0):=⟨_,rfl⟩;obtain⟨er,herq⟩:∃ er,er=Ij k2 u:=⟨_,rfl⟩;rw[<- hcq,<- herq]at e43m;have hset9:(X1.set R0.length (.arr 4 true es2))[m9]? = X1[m9]? := BP (by omega);have hi':(i:Int)<((Cw (CE k.data k.ty)).length:Int):=Int.ofNat_lt.2 hi;have hwr:=AZ hi (Hf hvl (by decide));have ha1:(Jp k.arms u = -1)\/0<=Jp k.arms u:=by
       unfold Jp;cases k.arms.findIdx? (fun p=>C6 p u)with
       | none=>exact .inl rfl
       | some i=>exact .inr (show(0:Int)<=(i:Int) by omega)
      obtain⟨X2,hX2⟩:∃ X2,X2=X1.set R0.length (.arr 4 true es2):=⟨_,rfl⟩;have hI2:KeepI X2:=(by rw[hX2];exact hkset _ hI1);have hI2':=hI2;rw[hKI]at hI2';obtain⟨m1,_,_⟩:=hI2';have last:AX MX 8 149 (AG MX) (.region 23 (Ab f8 23) false) ([(2,.hp 0 0),(5,tv),(9,.hp m9 0),(10,.bool (d2 == 0)),(11,vw),(12,.int .i64 i),(13,.int .i64 (Jp k.arms u)),(17,.int .i64 c),(18,.int .i64 er)],X2)=some (.nrm,([(2,.hp 0 0),(5,tv),(9,.hp m9 0),(10,.bool (d2 == 0)),(11,vw),(12,.int .i64 i),(148,.bool false)],X2)):=by
       cases hdz:d2 == 0 with
       | false=>exact r8_5n
       | true=>
        have hd0:d2=0:=(by simpa using hdz);have hro2:Ij k2 u=0:=by
         unfold Ij;rw[<- hd2,if_pos hd0,hk2];exact sm3
        have her0:er=0:=(by rw[herq];exact hro2);have hce:c=Jp (k.arms++[p]) u:=by
         rw[hcq,if_pos hro2,hk2];rfl
        rw[bK]at hce;rcases ha1 with h1 | h1
        .rw[if_pos h1]at hce;cases hf:C6 p u with
         | true=>
          rw[hf,if_pos rfl]at hce;exact r8_5c (n:=k.arms.length) hce her0 h1 (by rw[beq_eq_false_iff_ne];omega) m1 ha.len ha.C5
         | false=>
          rw[hf,if_neg (by decide)]at hce;exact r8_5b (by rw[hce,h1]) her0 h1
        .rw[if_neg (by omega)]at hce;exact r8_5a hce her0 (by simpa using h1)
      refine .inl ⟨X2,?_,hI2⟩;rw[body8];rw[<- hX1]at e43;refine Ai (r8_0 hvw.len hi') (Ai (I6 (Ai (r8_1 (he .i64) huq.AA h49 hwq.AA i1 hd.AA hpv.AA ha.AA o3 (by rw[<- hX1];exact e43)) ?_)) (r8_6 hwr));rw[<- hX1];refine Ai (r8_2 (he .i64) huq.AA h49 hwq.AA hT.AA h52) (Ai r8_3 (Ai (r8_4 (he .i64) huq.AA h49 hwq.AA rfl j2 hset9 e43m) ?_));rw[<- hX2];exact Ai last (jh rfl (Dc _ _ _ _ _))) (fun X _=>by
      exact⟨_,_,r8_x hvw.len (by omega),by simp,X,rfl⟩) H4 hk4
   obtain⟨X,rfl'⟩:=hq';cases rfl';exact⟨X,hlp⟩
  obtain⟨X,hlp⟩:=hloop;exact⟨_,Ai (s8_10 (n:=0) hlp) s8_11⟩
 obtain⟨T,hend⟩:=hend;exact⟨T,run8 hend⟩
end Go.Proofs.Am12
