/- A part of the proofs of the laws of this seat: contracts of the functions that they reach, each proved of the program's form in Lean. No condition beyond those that each contract names. -/
import Derived.Test.YtecogfpnfhkibaaProg
import Derived.Test.YtecogfpnfhkibaaSnd3
import Derived.Test.YtecogfpnfhkibaaA0
import Derived.Test.YtecogfpnfhkibaaN1a
import Derived.Test.YtecogfpnfhkibaaN1b
import Derived.Test.YtecogfpnfhkibaaN1c
import Derived.Test.YtecogfpnfhkibaaN1d
import Derived.Test.YtecogfpnfhkibaaN1e
import Derived.Test.YtecogfpnfhkibaaN1f
import Derived.Test.YtecogfpnfhkibaaN1g
import Derived.Test.YtecogfpnfhkibaaN1h
set_option linter.unusedVariables false
set_option linter.unusedSimpArgs false
set_option maxRecDepth 20000
set_option maxHeartbeats 4000000
namespace Go.Abs
open Go.Proofs
theorem stepsG_app (l r:List Dl):stepsG (l++r)=stepsG l++stepsG r:=List.flatMap_append
theorem crsO_same {X Y:Gm} (hX:gmErr X=0) (hY:gmErr Y=0) (hn:X.ws.length=Y.ws.length) (hc:censG (stepsG X.ds)=censG (stepsG Y.ds)) (h:∀s,cwG X s=cwG Y s):crsO X=crsO Y:=by
 have e:crsG X=crsG Y:=by
  rw[crsG_list (gm_ok hX),crsG_list (gm_ok hY),hn,hc]
  simp only[h]
 unfold crsO
 rw[hX,hY,e]
theorem dsErr_app {n:Nat} {r:List Dl}:∀{l:List Dl} {t:Tb},dsErr n t l=0→dsErr n t (l++r)=dsErr n (dsTab t l) r
 | [],_,_=>rfl
 | d::l,t,h=>by
   obtain⟨h1,h2⟩:=ds_cons h
   show dsErr n t (d::(l++r))=dsErr n (dsTab (dealT d t) l) r
   rw[dsErr,if_pos h1,dsErr_app h2]
theorem dsTab_app {r:List Dl}:∀{l:List Dl} {t:Tb},dsTab t (l++r)=dsTab (dsTab t l) r
 | [],_=>rfl
 | _::l,_=>dsTab_app (l:=l)
theorem cnt_mix {n:Nat} {r:List Sp}:∀{P:List Dl},(∀d∈P,drawsB d=false∧d.kind≠6)→ ∀c B,cntG n (stepsG P++r) c B=cntG n r c (P.foldl (fun B d=>mixedB d B) B)
 | [],_,_,_=>rfl
 | d::P,h,c,B=>by
   obtain⟨h1,h2⟩:=h d (by simp)
   have e:stepsG (d::P)=(d,false,false)::stepsG P:=by
    show stp1 d++stepsG P=_
    unfold stp1
    rw[if_neg (by rw[h1];decide),show decide (d.kind=6)=false from decide_eq_false h2];rfl
   rw[e,List.cons_append,cntG_f (show ¬false=true by decide)]
   unfold nextV
   rw[if_neg (show ¬false=true by decide),if_neg (fun h=>absurd (show false=true from h.1) (by decide)),cnt_mix (fun x hx=>h x (by simp[hx]))];rfl
theorem censG_mix {P:List Dl} (h:∀d∈P,drawsB d=false∧d.kind≠6):censG (stepsG P)=0:=by
 induction P with
 | nil=>rfl
 | cons d P ih=>
   obtain⟨h1,h2⟩:=h d (by simp)
   have e:stepsG (d::P)=(d,false,false)::stepsG P:=by
    show stp1 d++stepsG P=_
    unfold stp1
    rw[if_neg (by rw[h1];decide),show decide (d.kind=6)=false from decide_eq_false h2];rfl
   rw[e,censG_cons,ih fun x hx=>h x (by simp[hx])];rfl
abbrev sD (w:Int):Dl:=⟨2,0,0,w,1⟩
abbrev pD (w:Int):Dl:=⟨2,3,0,w,1⟩
def prD:Dl:=⟨3,3,0,0,0⟩
theorem pour_bags:∀L∈allL 3 1++allL 3 2++allL 3 3,(L.map sD).foldl (fun B d=>mixedB d B) bg0=(L.map pD++[prD]).foldl (fun B d=>mixedB d B) bg0:=by decide+kernel
theorem pour_bags2 {L:List Int} (h1:1≤L.length∧L.length≤3) (h2:∀w∈L,0≤w∧w<3):(L.map sD).foldl (fun B d=>mixedB d B) bg0=(L.map pD++[prD]).foldl (fun B d=>mixedB d B) bg0:=by
 refine pour_bags L ?_
 have:=allL_mem (n:=3) (k:=L.length) (s:=L)
 have h3:=this.2 ⟨rfl,h2⟩
 rcases (by omega:L.length=1∨L.length=2∨L.length=3) with e | e | e<;>rw[e] at h3<;>simp[h3]
theorem pour_ok {n:Nat} (hn:n≤6):∀{L:List Int},L.length≤3→(∀w∈L,0≤w∧w<n)→mkG n (L.map sD) {tb0 with mixed:=(L.length:Int),bags:=[(L.length:Int),0,0,0] } 0∧mkG n (L.map pD) {tb0 with mixed:=(L.length:Int),bags:=[0,0,0,(L.length:Int)] } 0:=by
 intro L
 have key:∀k:Nat,∀L:List Int,L.length=k→L.length≤3→(∀w∈L,0≤w∧w<n)→mkG n (L.map sD) {tb0 with mixed:=(L.length:Int),bags:=[(L.length:Int),0,0,0] } 0∧mkG n (L.map pD) {tb0 with mixed:=(L.length:Int),bags:=[0,0,0,(L.length:Int)] } 0:=by
  intro k
  induction k with
  | zero=>
    intro L hk _ _
    obtain rfl:=List.eq_nil_of_length_eq_zero hk
    exact⟨mkG.nil n,mkG.nil n⟩
  | succ k ih=>
    intro L hk h3 hw
    obtain⟨L,w,rfl⟩:∃L' w,L=L'++[w]:=⟨L.dropLast,L.getLast (by intro e;rw[e] at hk;simp at hk),(List.dropLast_concat_getLast _).symm⟩
    rw[len_snoc] at hk h3
    have hww:=hw w (by simp)
    obtain⟨a,b⟩:=ih L (by omega) (by omega) fun v hv=>hw v (by simp[hv])
    have a1:=a.mix (b:=0) (w:=w) (c:=1) (by omega) hww (by omega) (by show (L.length:Int)+1≤12;omega)
    have b1:=b.mix (b:=3) (w:=w) (c:=1) (by omega) hww (by omega) (by show (L.length:Int)+1≤12;omega)
    have e:(((L++[w]).length:Nat):Int)=(L.length:Int)+1:=by rw[len_snoc];simp
    rw[List.map_append,List.map_append,e]
    exact⟨a1,b1⟩
 exact key _ L rfl
theorem poured_all {ws:List Wd} {ds:List Dl} {L:List Int} {cens:Int} (hG:madeO ⟨ws,ds⟩ 3 5 cens) (h1:1≤L.length∧L.length≤3) (hw:∀w∈L,0≤w∧w<ws.length) (h24:L.length+1+ds.length≤24):
  crsO ⟨ws,L.map sD++ds⟩=crsO ⟨ws,(L.map pD++[prD])++ds⟩∧((crsO ⟨ws,L.map sD++ds⟩).2=0∨(crsO ⟨ws,L.map sD++ds⟩).2=8):=by
 have hn3:(ws.length:Int)≤3:=hG.n2
 have hw1:1≤ws.length:=hG.n1
 obtain⟨a,b⟩:=pour_ok (n:=ws.length) (by omega) h1.2 hw
 have b2:=b.pour (b:=3) (o:=0) (by omega) (by omega) (by decide)
 have hds:dsErr ws.length tb0 ds=0:=(gm_ok hG.e).ds
 have hws0:wsErr [] ws=0:=(gm_ok hG.e).ws
 have hgm:∀P:List Dl,dsErr ws.length tb0 P=0→P.length+ds.length≤24→dsTab tb0 P={tb0 with mixed:=(L.length:Int),bags:=[(L.length:Int),0,0,0] }→gmErr ⟨ws,P++ds⟩=if dsErr ws.length {tb0 with mixed:=(L.length:Int),bags:=[(L.length:Int),0,0,0] } ds=0 then (if (dsTab {tb0 with mixed:=(L.length:Int),bags:=[(L.length:Int),0,0,0] } ds).cens=0 then 6 else 0) else dsErr ws.length {tb0 with mixed:=(L.length:Int),bags:=[(L.length:Int),0,0,0] } ds:=by
  intro P hP hl hT
  unfold gmErr
  rw[if_neg (by intro e;have e:ws=[]:=e;rw[e] at hw1;simp at hw1),if_neg (by show ¬6<ws.length;omega),if_pos hws0,if_neg (by show ¬24<(P++ds).length;rw[List.length_append];omega)]
  show (if dsErr ws.length tb0 (P++ds)=0 then (if (dsTab tb0 (P++ds)).cens=0 then (6:Int) else 0) else dsErr ws.length tb0 (P++ds))=_
  rw[dsErr_app hP,dsTab_app,hT]
 have hx:=hgm (L.map sD) a.e (by rw[List.length_map];omega) a.t
 have hy:=hgm (L.map pD++[prD]) b2.e (by rw[len_snoc,List.length_map];omega) (by
  have:=b2.t
  rw[show L.map pD++[prD]=L.map pD++[⟨3,3,0,0,0⟩] from rfl,this]
  show ({tb0 with mixed:=(L.length:Int),bags:=[(0:Int)+(L.length:Int),0,0,0] }:Tb)=_
  rw[Int.zero_add])
 have hmore:tbMore tb0 {tb0 with mixed:=(L.length:Int),bags:=[(L.length:Int),0,0,0] }:=by
  refine⟨rfl,rfl,by show (0:Int)≤(L.length:Int);omega,rfl,rfl,fun i hi=>?_⟩
  rcases (by omega:i=0∨i=1∨i=2∨i=3) with rfl | rfl | rfl | rfl
  · show (0:Int)≤_;exact Int.natCast_nonneg _
  · exact Int.le_refl _
  · exact Int.le_refl _
  · exact Int.le_refl _
 have hcen:(dsTab tb0 ds).cens≠0:=by
  have h:=deals_run ds tb0 tb0_ok hds
  have:=(gm_ok hG.e).cen
  have e:tb0.cens=0:=rfl
  have e2:=h.2.2
  have e3:1≤censG (stepsG ds):=this.1
  omega
 rcases hmore.deals hds with⟨g1,g2⟩ | g1
 · rw[if_pos g1,if_neg (by rw[g2.c];exact hcen)] at hx hy
   have hm:∀d∈L.map sD,drawsB d=false∧d.kind≠6:=fun d hd=>by
    obtain⟨w,_,rfl⟩:=List.mem_map.1 hd;exact⟨rfl,by show (2:Int)≠6;decide⟩
   have hm2:∀d∈L.map pD++[prD],drawsB d=false∧d.kind≠6:=fun d hd=>by
    rcases List.mem_append.1 hd with hd | hd
    · obtain⟨w,_,rfl⟩:=List.mem_map.1 hd;exact⟨rfl,by show (2:Int)≠6;decide⟩
    · rw[List.mem_singleton.1 hd];exact⟨rfl,by decide⟩
   have he:crsO ⟨ws,L.map sD++ds⟩=crsO ⟨ws,(L.map pD++[prD])++ds⟩:=by
    refine crsO_same hx hy rfl ?_ fun c=>?_
    · show censG (stepsG (L.map sD++ds))=censG (stepsG ((L.map pD++[prD])++ds))
      rw[stepsG_app,stepsG_app,censG_app,censG_app,censG_mix hm,censG_mix hm2]
    · show cntG _ (stepsG (L.map sD++ds)) c bg0=cntG _ (stepsG ((L.map pD++[prD])++ds)) c bg0
      rw[stepsG_app (L.map sD),stepsG_app (L.map pD++[prD]),cnt_mix hm,cnt_mix hm2,pour_bags2 h1 fun w hw'=>by have:=hw w hw';omega]
   refine⟨he,?_⟩
   unfold crsO
   rw[hx,if_pos rfl]
   split
   · exact .inl rfl
   · exact .inr rfl
 · rw[g1,if_neg (by decide)] at hx hy
   unfold crsO
   rw[hx,hy,if_neg (by decide),if_neg (by decide)]
   exact⟨rfl,.inr rfl⟩
def ir6:IFn:=
 ⟨104,[(2,none)],(.seq (.ops [oo 2 (.mov (kB false))])
 (.seq (.ops [oo 17 (.mov 0),
 oo 18 (.callF 15 [17]),
 oo 3 (.mov 18)])
 (.seq (.ops [oo 19 (.mov 3),
 oo 20 (.callF 14 [19,(kI 3),(kI 5),(kI 6)]),
 oo 4 (.new [.nsl,.nsl]),
 ⟨none,none,(.st 2 4 20)⟩])
 (.seq (.ops [oo 5 (.nil 5 5),
 oo 6 (.nil 5 6)])
 (.seq (.seq (.ops [oo 21 (.mov 3),
 oo 22 (.callF 30 [21,(kI 1),(kI 3)]),
 oo 7 (.mov 22)])
 (.blk 0 (.loop (.seq (.seq (.ops [oo 23 (.mov 7),
 oo 24 (.bin .gtr 23 (kI 0))])
 (.cnd 24
 .skip
 (.exit 0)))
 (.seq (.blk 1 (.seq (.ops [oo 27 (.mov 3),
 oo 28 (.flA 0 4),
 oo 29 (.ld 1 false 28),
 oo 30 (.len false 29),
 oo 31 (.callF 31 [27,30]),
 oo 32 (.bld [(.int .i64 0),(.int .i64 0),(.int .i64 0),(.int .i64 0),(.int .i64 0)] [(0,1,(kI 2)),(3,1,31),(4,1,(kI 1))]),
 oo 8 (.new [(.int .i64 0),(.int .i64 0),(.int .i64 0),(.int .i64 0),(.int .i64 0)]),
 ⟨none,none,(.st 5 8 32)⟩])
 (.seq (.ops [oo 33 (.mov 5),
 oo 34 (.ld 5 true 8),
 oo 35 (.bsl 5 [[(.int .i64 0),(.int .i64 0),(.int .i64 0),(.int .i64 0),(.int .i64 0)]] [(0,34)]),
 oo 36 (.app 5 40 33 35 5),
 oo 5 (.mov 36)])
 (.seq (.ops [oo 37 (.flA 1 8),
 ⟨none,none,(.st 1 37 (kI 3))⟩])
 (.ops [oo 38 (.mov 6),
 oo 39 (.ld 5 true 8),
 oo 40 (.bsl 5 [[(.int .i64 0),(.int .i64 0),(.int .i64 0),(.int .i64 0),(.int .i64 0)]] [(0,39)]),
 oo 41 (.app 5 40 38 40 6),
 oo 6 (.mov 41)])))))
 (.ops [oo 25 (.mov 7),
 oo 26 (.bin .sub 25 (kI 1)),
 oo 7 (.mov 26)]))))))
 (.seq (.ops [oo 42 (.mov 6),
 oo 43 (.bld [(.int .i64 0),(.int .i64 0),(.int .i64 0),(.int .i64 0),(.int .i64 0)] [(0,1,(kI 3)),(1,1,(kI 3))]),
 oo 44 (.bsl 5 [[(.int .i64 0),(.int .i64 0),(.int .i64 0),(.int .i64 0),(.int .i64 0)]] [(0,43)]),
 oo 45 (.app 5 40 42 44 6),
 oo 6 (.mov 45)])
 (.seq (.seq (.ops [oo 46 (.mov 6),
 oo 47 (.len false 46),
 oo 48 (.flA 1 4),
 oo 49 (.ld 1 false 48),
 oo 50 (.len false 49),
 oo 51 (.bin .add 47 50),
 oo 52 (.bin .gtr 51 (kI 24))])
 (.cnd 52
 (.seq (.ops [oo 53 (.callF 13 []),
 oo 2 (.mov 53)])
 .ret)
 .skip))
 (.seq (.ops [⟨none,none,(.kil 9)⟩,
 oo 54 (.flA 0 4),
 oo 55 (.ld 1 false 54),
 oo 56 (.mov 5),
 oo 57 (.flA 1 4),
 oo 58 (.ld 1 false 57),
 oo 59 (.app 5 40 56 58 59),
 ⟨none,none,(.chk 1 false 54 55)⟩,
 oo 60 (.bld [.nsl,.nsl] [(0,1,55),(1,1,59)]),
 oo 9 (.new [.nsl,.nsl]),
 ⟨none,none,(.st 2 9 60)⟩])
 (.seq (.ops [⟨none,none,(.kil 10)⟩,
 oo 61 (.flA 0 4),
 oo 62 (.ld 1 false 61),
 oo 63 (.mov 6),
 oo 64 (.flA 1 4),
 oo 65 (.ld 1 false 64),
 oo 66 (.app 5 40 63 65 66),
 ⟨none,none,(.chk 1 false 61 62)⟩,
 oo 67 (.bld [.nsl,.nsl] [(0,1,62),(1,1,66)]),
 oo 10 (.new [.nsl,.nsl]),
 ⟨none,none,(.st 2 10 67)⟩])
 (.seq (.ops [oo 69 (.ld 2 true 9),
 oo 70 (.callF 21 [69]),
 oo 68 (.mov 70),
 oo 71 (.ext 0 68),
 oo 72 (.ext 1 68),
 oo 73 (.ext 2 68),
 oo 11 (.mov 71),
 oo 12 (.mov 72),
 oo 13 (.mov 73)])
 (.seq (.ops [oo 75 (.ld 2 true 10),
 oo 76 (.callF 21 [75]),
 oo 74 (.mov 76),
 oo 77 (.ext 0 74),
 oo 78 (.ext 1 74),
 oo 79 (.ext 2 74),
 oo 14 (.mov 77),
 oo 15 (.mov 78),
 oo 16 (.mov 79)])
 (.seq (.ops [oo 80 (.mov 13),
 oo 81 (.mov 16),
 oo 82 (.bin .eql 80 81),
 oo 83 (.mov 82),
 ⟨(some 84),(some (83,true)),(.mov 13)⟩,
 ⟨(some 85),(some (83,true)),(.bin .eql 84 (kI 0))⟩,
 ⟨(some 86),(some (83,true)),(.mov 85)⟩,
 ⟨(some 87),(some (86,false)),(.mov 13)⟩,
 ⟨(some 88),(some (86,false)),(.bin .eql 87 (kI 8))⟩,
 ⟨(some 89),(some (83,true)),(.pick 86 (kB true) 88)⟩,
 oo 90 (.pick 83 89 (kB false)),
 oo 91 (.mov 90),
 ⟨(some 92),(some (91,true)),(.mov 11)⟩,
 ⟨(some 93),(some (91,true)),(.mov 14)⟩,
 ⟨(some 94),(some (91,true)),(.callF 23 [92,93])⟩,
 oo 95 (.pick 91 94 (kB false)),
 oo 96 (.mov 95),
 ⟨(some 97),(some (96,true)),(.mov 12)⟩,
 ⟨(some 98),(some (96,true)),(.mov 15)⟩,
 ⟨(some 99),(some (96,true)),(.callF 24 [97,98])⟩,
 oo 100 (.pick 96 99 (kB false)),
 oo 101 (.mov 100),
 ⟨(some 102),(some (101,true)),(.callF 13 [])⟩,
 oo 103 (.pick 101 102 (kB false)),
 oo 2 (.mov 103)])
 .ret))))))))))))⟩
def hint6 (P:Program):Hint:={site:=[(36,5),(41,6),(45,6)],nils:=[(5,5),(6,5)],frz:=[],mve:=[],wr:=[] }
theorem poV_snoc {s:Nat} (f:Int→Dl) (L:List Int) (w:Int) (g:Nat):AV.slc 5 (dlR (L.map f)++[(f w).row]) (.own s g)= .slc 5 (dlR ((L++[w]).map f)) (.own s g):=by
 rw[show dlR ((L++[w]).map f)=dlR (L.map f)++[(f w).row] by simp]
theorem gamePoured_c (nums:List Int) (hn:nums.length<2^62):Fn0 Try.prog 6 [.slc 1 (iR nums) .non] (fun v=>v= .bool true):=by
 refine RawC.walk (H:=hint6 Try.prog) ir6 Try.func6 rfl rfl rfl ?_
 unfold ir6
 repeat' (first
  | with_reducible (first | refine Rd.p ?_ | refine w_alt ?_ ?_ | refine zE ?_ | refine zE0 ?_)
  | with_reducible (first | refine zI fun y hy=>?_ | refine zL ?_ | refine zS ?_ | refine zA fun _=>?_ | refine zV ?_ | refine zC ?_ | refine zG ?_ | refine zU ?_ | refine zG0 ?_ | refine zU0 ?_ | refine zF ?_)
  | ((with_reducible refine acall_id ?_);refine ACall.liftS (boxOf_s nums hn) [] (some 6) rfl rfl rfl trivial (fun _=>rfl) ?_;rintro⟨gb,w⟩ _ rfl)
  | ((with_reducible refine acall_id ?_);refine ACall.box (gameOf_c _ _ 3 5 6 (by decide) (by decide) (by decide)) rfl rfl rfl ?_;rintro _ _ ⟨⟨ws,ds⟩,rfl,hm⟩)
  | ((with_reducible refine acall_id ?_);refine ACall.box (any_c _ _ 1 3 (by decide) (by decide) (by decide) (by decide)) rfl rfl rfl ?_;rintro _ _ ⟨m,rfl,hm1,hm2⟩)
  | with_reducible (first | refine zX ?_ | refine zD fun _=>?_ | refine zD0 ?_ | refine zN ?_ | refine zF0 ?_ | refine zX0 ?_ | refine z1 ?_ | refine z2 ?_ | refine z3 ?_ | refine z4 ?_ | refine z5 ?_ | refine z6 ?_ | refine z7 ?_ | refine z8 ?_ | refine y1 ?_ | refine y2 ?_ | refine y3 ?_ | refine y4 ?_ | refine y5 ?_ | refine y6 ?_ | refine y7 ?_ | refine y8 ?_ | refine Rt.p (fun _=>?_) fun _=>?_)
  | ((with_reducible apply w_ixM);(focus exact rfl);(focus exact rfl);case' hk=>intro y hy) | ((with_reducible (first | apply w_val | apply q_ends));(focus exact rfl)))
 rename_i w1 g4 h5 h6 w2
 have hwl:(wR ws).length=ws.length:=List.length_map _
 have hn1:1≤ws.length:=hm.n1
 have hn2:(ws.length:Int)≤3:=hm.n2
 cases ds with
 | nil=>
   exfalso
   have h1:=gm_ok hm.e
   have h2:=h1.cen
   have:censG (stepsG (⟨ws,[]⟩:Gm).ds)=0:=rfl
   omega
 | cons d ds=>
 refine w_loopK [3,4,84,85,86,87,88,89,92,93,94,97,98,99,102] [4] (fun x:List Int×Nat×Nat×Int×Nat=>(∀w∈x.1,0≤w∧w<ws.length)∧(x.1.length:Int)+x.2.2.2.2=m) (fun x=>x.2.2.2.2) (fun x=>[(5,.slc 5 (dlR (x.1.map sD)) (.own 5 x.2.1)),(6,.slc 5 (dlR (x.1.map pD)) (.own 6 x.2.2.1)),(7,.int .i64 (x.2.2.2.2:Int))]) (fun x=>[(18,(gb,.row [.int .u64 x.2.2.2.1])),(5,(x.2.1,.row [])),(6,(x.2.2.1,.row []))]) ([],h5,h6,w2,m.toNat) ⟨(fun w hw=>by cases hw),by show ((([]:List Int).length:Nat):Int)+_=m;simp;omega⟩ ⟨rfl,rfl,int_eq (by simp;omega),trivial⟩ ⟨rfl,rfl,rfl,trivial⟩ ?_
 rintro⟨L,g5,g6,w,j⟩ ⟨hL,hj⟩ e σ
 dsimp only at hL hj ⊢
 have hl5:(dlR (L.map sD)).length=L.length:=by simp
 have hl6:(dlR (L.map pD)).length=L.length:=by simp
 cases j with
 | succ j=>
   have hj1:((j+1:Nat):Int)=j+1:=by simp
   repeat' (first
    | with_reducible (first | refine Rd.p ?_ | refine w_alt ?_ ?_ | refine zE ?_ | refine zE0 ?_)
    | with_reducible (first | refine zI fun y hy=>?_ | refine zL ?_ | refine zS ?_ | refine zA fun _=>?_ | refine zV ?_ | refine zC ?_ | refine zG ?_ | refine zU ?_ | refine zG0 ?_ | refine zU0 ?_ | refine zF ?_)
    | ((with_reducible refine acall_id ?_);refine ACall.box (upp_c _ _ _ (by omega) (by omega)) rfl rfl rfl ?_;rintro _ _ ⟨wd,rfl,hd1,hd2⟩)
    | with_reducible (first | refine zX ?_ | refine zD fun _=>?_ | refine zD0 ?_ | refine zN ?_ | refine zF0 ?_ | refine zX0 ?_ | refine z1 ?_ | refine z2 ?_ | refine z3 ?_ | refine z4 ?_ | refine z5 ?_ | refine z6 ?_ | refine z7 ?_ | refine z8 ?_ | refine y1 ?_ | refine y2 ?_ | refine y3 ?_ | refine y4 ?_ | refine y5 ?_ | refine y6 ?_ | refine y7 ?_ | refine y8 ?_ | refine Rt.p (fun _=>?_) fun _=>?_)
    | ((with_reducible apply w_ixM);(focus exact rfl);(focus exact rfl);case' hk=>intro y hy) | ((with_reducible (first | apply w_val | apply q_ends));(focus exact rfl)))
   all_goals first
    | (exfalso;omega)
    | exact q_loop (L++[wd],_,_,_,j) ⟨(fun w hw=>by
       rcases List.mem_append.1 hw with hw | hw
       · exact hL w hw
       · rw[List.mem_singleton.1 hw];omega),by dsimp only;rw[len_snoc];omega⟩ (Nat.lt_succ_self _) ⟨poV_snoc sD L wd _,poV_snoc pD L wd _,int_eq (by simp),trivial⟩ ⟨rfl,rfl,rfl,trivial⟩ (by repeat' (first | exact kept_nil | apply kept_cons | rfl)) (by repeat' (first | exact kept_nil | apply kept_cons | rfl))
 | zero=>
   have hld:(dlR (d::ds)).length=(d::ds).length:=by simp
   have hz:((0:Nat):Int)=0:=rfl
   have h24:(d::ds).length≤24:=hm.d
   have hL1:1≤L.length∧L.length≤3:=by omega
   have hap:∀P:List Dl,dlR (P++d::ds)=dlR P++dlR (d::ds):=fun P=>List.map_append
   have hap1:∀(P:List Dl) (a:Dl),dlR (P++[a])=dlR P++[a.row]:=fun P a=>List.map_append
   have hws:∀w∈ws,w.name.size≤1000:=fun w hw=>by have:=(madeW_ok hm.w).2 w hw;omega
   have hC:=fun P (hP:(P++d::ds).length<1000)=>subV2 (courses_f ⟨ws,P++d::ds⟩ (invW ws.length) (by show ws.length<1000;omega) hP hws gmOK) (sub_crsA _ _)
   have hlen:(dlR (L.map pD)++[prD.row]).length=L.length+1:=by simp
   have hall:∀h:L.length+1+(d::ds).length≤24,_:=fun h=>poured_all hm hL1 hL h
   have hC1:=hC (L.map sD) (by rw[List.length_append,List.length_map];omega)
   have hC2:=hC (L.map pD++[prD]) (by rw[List.length_append,len_snoc,List.length_map];omega)
   obtain⟨b1,b2⟩:=crsO_bd ⟨ws,L.map sD++d::ds⟩
   by_cases hgo:L.length+1+(d::ds).length≤24
   rotate_left
   · repeat' (first
      | with_reducible (first | refine Rd.p ?_ | refine w_alt ?_ ?_ | refine zE ?_ | refine zE0 ?_)
      | with_reducible (first | refine zI fun y hy=>?_ | refine zL ?_ | refine zS ?_ | refine zA fun _=>?_)
      | ((with_reducible apply w_ixM);(focus exact rfl);(focus exact rfl);(focus ((repeat' (with_reducible (first | exact trivial | apply And.intro)))<;>(first | (rw[List.append_eq,List.length_append] at*;simp only[List.length_set,List.length_cons,List.length_nil] at*;unfold inI;omega) | exact sd)));case' hk=>intro y hy) | ((with_reducible apply w_slM);(focus exact rfl);(focus exact rfl);(focus exact rfl);(focus ((repeat' (with_reducible (first | exact trivial | apply And.intro)))<;>(first | (rw[List.append_eq,List.length_append] at*;simp only[List.length_set,List.length_cons,List.length_nil] at*;unfold inI;omega) | exact sd)))) | ((with_reducible apply w_val);(focus exact rfl);(focus ((repeat' (with_reducible (first | exact trivial | apply And.intro)))<;>(first | (rw[List.append_eq,List.length_append] at*;simp only[List.length_set,List.length_cons,List.length_nil] at*;unfold inI;omega) | exact sd)))) | ((with_reducible apply w_det);(focus exact fun _=>rfl);(focus ((repeat' (with_reducible (first | exact trivial | apply And.intro)))<;>(first | (rw[List.append_eq,List.length_append] at*;simp only[List.length_set,List.length_cons,List.length_nil] at*;unfold inI;omega) | exact sd)));case' hk=>intro _) | ((with_reducible apply w_det0);(focus exact fun _=>rfl);(focus ((repeat' (with_reducible (first | exact trivial | apply And.intro)))<;>(first | (rw[List.append_eq,List.length_append] at*;simp only[List.length_set,List.length_cons,List.length_nil] at*;unfold inI;omega) | exact sd)))) | ((with_reducible apply q_ends);(focus exact rfl);(focus ((repeat' (with_reducible (first | exact trivial | apply And.intro)))<;>(first | (rw[List.append_eq,List.length_append] at*;simp only[List.length_set,List.length_cons,List.length_nil] at*;unfold inI;omega) | exact sd))))
      | with_reducible (first | refine zI fun y hy=>?_ | refine zL ?_ | refine zS ?_ | refine zA fun _=>?_ | refine zV ?_ | refine zC ?_ | refine zG ?_ | refine zU ?_ | refine zG0 ?_ | refine zU0 ?_ | refine zF ?_)
      | ((with_reducible refine acall_id ?_);refine ACall.val awake_c rfl rfl ?_)
      | with_reducible (first | refine zX ?_ | refine zD fun _=>?_ | refine zD0 ?_ | refine zN ?_ | refine zF0 ?_ | refine zX0 ?_ | refine z1 ?_ | refine z2 ?_ | refine z3 ?_ | refine z4 ?_ | refine z5 ?_ | refine z6 ?_ | refine z7 ?_ | refine z8 ?_ | refine y1 ?_ | refine y2 ?_ | refine y3 ?_ | refine y4 ?_ | refine y5 ?_ | refine y6 ?_ | refine y7 ?_ | refine y8 ?_ | refine Rt.p (fun _=>?_) fun _=>?_)
      | ((with_reducible apply w_ixM);(focus exact rfl);(focus exact rfl);case' hk=>intro y hy) | ((with_reducible (first | apply w_val | apply q_ends));(focus exact rfl)))
     all_goals first
      | (exfalso;omega)
      | rfl
      | (exfalso;simp only[List.append_eq,List.length_append,List.length_set,List.length_cons,List.length_nil] at*;omega)
   obtain⟨h1,h2⟩:=poured_all hm hL1 hL hgo
   rw[←h1] at hC2
   obtain⟨E,hE⟩:∃E,crsO ⟨ws,L.map sD++d::ds⟩=E:=⟨_,rfl⟩
   rw[hE] at hC1 hC2 b1 b2 h2
   have hC3:=hC2
   simp only[gmA,hap,hap1] at hC3
   have hE1:=eqLists_c (E.1.map (·.1)) (E.1.map (·.1)) (by rw[List.length_map];omega) (fun l hl=>by
    obtain⟨x,hx,rfl⟩:=List.mem_map.1 hl
    have:=b2 x hx;omega)
   rw[decide_eq_true rfl] at hE1
   have hE2:=eq_c (E.1.map (·.2)) (E.1.map (·.2)) (by rw[List.length_map];omega)
   rw[decide_eq_true rfl] at hE2
   repeat' (first
    | with_reducible (first | refine Rd.p ?_ | refine w_alt ?_ ?_ | refine zE ?_ | refine zE0 ?_)
    | with_reducible (first | refine zI fun y hy=>?_ | refine zL ?_ | refine zS ?_ | refine zA fun _=>?_)
    | ((with_reducible apply w_ixM);(focus exact rfl);(focus exact rfl);(focus ((repeat' (with_reducible (first | exact trivial | apply And.intro)))<;>(first | (rw[List.append_eq,List.length_append] at*;simp only[List.length_set,List.length_cons,List.length_nil] at*;unfold inI;omega) | exact sd)));case' hk=>intro y hy) | ((with_reducible apply w_slM);(focus exact rfl);(focus exact rfl);(focus exact rfl);(focus ((repeat' (with_reducible (first | exact trivial | apply And.intro)))<;>(first | (rw[List.append_eq,List.length_append] at*;simp only[List.length_set,List.length_cons,List.length_nil] at*;unfold inI;omega) | exact sd)))) | ((with_reducible apply w_val);(focus exact rfl);(focus ((repeat' (with_reducible (first | exact trivial | apply And.intro)))<;>(first | (rw[List.append_eq,List.length_append] at*;simp only[List.length_set,List.length_cons,List.length_nil] at*;unfold inI;omega) | exact sd)))) | ((with_reducible apply w_det);(focus exact fun _=>rfl);(focus ((repeat' (with_reducible (first | exact trivial | apply And.intro)))<;>(first | (rw[List.append_eq,List.length_append] at*;simp only[List.length_set,List.length_cons,List.length_nil] at*;unfold inI;omega) | exact sd)));case' hk=>intro _) | ((with_reducible apply w_det0);(focus exact fun _=>rfl);(focus ((repeat' (with_reducible (first | exact trivial | apply And.intro)))<;>(first | (rw[List.append_eq,List.length_append] at*;simp only[List.length_set,List.length_cons,List.length_nil] at*;unfold inI;omega) | exact sd)))) | ((with_reducible apply q_ends);(focus exact rfl);(focus ((repeat' (with_reducible (first | exact trivial | apply And.intro)))<;>(first | (rw[List.append_eq,List.length_append] at*;simp only[List.length_set,List.length_cons,List.length_nil] at*;unfold inI;omega) | exact sd))))
    | with_reducible (first | refine zI fun y hy=>?_ | refine zL ?_ | refine zS ?_ | refine zA fun _=>?_ | refine zV ?_ | refine zC ?_ | refine zG ?_ | refine zU ?_ | refine zG0 ?_ | refine zU0 ?_ | refine zF ?_)
    | ((with_reducible refine acall_id ?_);refine ACall.val awake_c rfl rfl ?_)
    | ((with_reducible refine acall_id ?_);refine ACall.val hC1 rfl rfl ?_)
    | ((with_reducible refine acall_id ?_);refine ACall.val hC3 rfl rfl ?_)
    | ((with_reducible refine acall_id ?_);refine ACall.val hC2 rfl rfl ?_)
    | ((with_reducible refine acall_id ?_);refine ACall.val hE1 rfl rfl ?_)
    | ((with_reducible refine acall_id ?_);refine ACall.val hE2 rfl rfl ?_)
    | with_reducible (first | refine zX ?_ | refine zD fun _=>?_ | refine zD0 ?_ | refine zN ?_ | refine zF0 ?_ | refine zX0 ?_ | refine z1 ?_ | refine z2 ?_ | refine z3 ?_ | refine z4 ?_ | refine z5 ?_ | refine z6 ?_ | refine z7 ?_ | refine z8 ?_ | refine y1 ?_ | refine y2 ?_ | refine y3 ?_ | refine y4 ?_ | refine y5 ?_ | refine y6 ?_ | refine y7 ?_ | refine y8 ?_ | refine Rt.p (fun _=>?_) fun _=>?_)
    | ((with_reducible apply w_ixM);(focus exact rfl);(focus exact rfl);case' hk=>intro y hy) | ((with_reducible (first | apply w_val | apply q_ends));(focus exact rfl)))
   all_goals first
    | (exfalso;omega)
    | rfl
    | (exfalso;simp only[List.append_eq,List.length_append,List.length_set,List.length_cons,List.length_nil] at*;omega)
end Go.Abs
