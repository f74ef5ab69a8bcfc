/- A part of the proofs of the laws of this seat: contracts of the functions that they reach, each proved of the program's form in Lean. No condition beyond those that each contract names. -/
import Derived.Test.YtegfkfgkplnjgaaGreatProg
import Derived.Test.YtegfkfgkplnjgaaGreatSnd3
import Derived.Test.YtegfkfgkplnjgaaGreatA0
import Derived.Test.YtegfkfgkplnjgaaGreatQ1a
import Derived.Test.YtegfkfgkplnjgaaGreatQ1b
import Derived.Test.YtegfkfgkplnjgaaGreatQ1c
import Derived.Test.YtegfkfgkplnjgaaGreatQ1d
import Derived.Test.YtegfkfgkplnjgaaGreatQ1e
import Derived.Test.YtegfkfgkplnjgaaGreatQ1f
import Derived.Test.YtegfkfgkplnjgaaGreatQ1g
import Derived.Test.YtegfkfgkplnjgaaGreatQ1h
import Derived.Test.YtegfkfgkplnjgaaGreatQ1i
import Derived.Test.YtegfkfgkplnjgaaGreatQ1j
import Derived.Test.YtegfkfgkplnjgaaGreatQ1k
import Derived.Test.YtegfkfgkplnjgaaGreatQ1l
set_option linter.unusedVariables false
set_option linter.unusedSimpArgs false
set_option maxRecDepth 20000
set_option maxHeartbeats 4000000
namespace Go.Abs
open Go.Proofs
theorem szP_nrm:∀(l:List Sp) (b:List Int),szP (l.map nrm) b=szP l b
 | [],_=>rfl
 | x::r,b=>by rw[List.map_cons,szP,szP,spB_nrm,szP_nrm r,nrm_2,(nrm_bag x).1]
def ir24:IFn:=
 ⟨80,[(4,none),(5,none),(6,none)],(.seq (.ops [oo 2 (.box 2 0),oo 4 (.mov (kI 0)),oo 5 (.mov (kI 0)),oo 6 (.mov (kI 0))])
 (.seq (.seq (.ops [oo 14 (.ld 2 true 2),oo 15 (.callF 38 [14]),oo 7 (.mov 15)])
 (.seq (.ops [oo 16 (.mov 7),oo 17 (.bin .neq 16 (kI 0))])
 (.cnd 17
 (.seq (.ops [oo 18 (.mov 7),oo 4 (.mov (kI 0)),oo 5 (.mov (kI 0)),oo 6 (.mov 18)])
 .ret)
 .skip)))
 (.seq (.seq (.ops [oo 19 (.ld 2 true 2),oo 20 (.mov 1),oo 21 (.callF 40 [19,20]),oo 8 (.mov 21)])
 (.seq (.ops [oo 22 (.mov 8),oo 23 (.bin .neq 22 (kI 0))])
 (.cnd 23
 (.seq (.ops [oo 24 (.mov 8),oo 4 (.mov (kI 0)),oo 5 (.mov (kI 0)),oo 6 (.mov 24)])
 .ret)
 .skip)))
 (.seq (.seq (.ops [⟨none,none,(.kil 28)⟩])
 (.seq (.ops [oo 26 (.bld [z0,z0,z0,z0,z0,z0,z0,z0,z0,z0,z0,z0,z0,z0,z0,z0,z0,z0,z0,z0,z0,z0,z0,z0] []),oo 29 (.bld [z0,z0,z0,z0,z0,z0,z0,z0,z0,z0,z0,z0,z0,z0,z0,z0,z0,z0,z0,z0,z0,z0,z0,z0] []),
 ⟨(some 25),none,.mkm⟩])
 (.alt (.seq (.ops [])
 (.alt (.ops [⟨none,none,(.mup (.flat [.i,.i,.i,.i,.i,.i,.i,.i,.i,.i,.i,.i,.i,.i,.i,.i,.i,.i,.i,.i,.i,.i,.i,.i]) 25 26 (kI 1))⟩,oo 27 (.mov 25),oo 9 (.mov 27),
 ⟨(some 28),none,.mkm⟩,
 ⟨none,none,(.mup (.flat [.i,.i,.i,.i,.i,.i,.i,.i,.i,.i,.i,.i,.i,.i,.i,.i,.i,.i,.i,.i,.i,.i,.i,.i]) 28 29 (kI 1))⟩,oo 30 (.mov 28),oo 10 (.mov 30)])
 (.ops [⟨(some 28),none,.mkm⟩,
 ⟨none,none,(.mup (.flat [.i,.i,.i,.i,.i,.i,.i,.i,.i,.i,.i,.i,.i,.i,.i,.i,.i,.i,.i,.i,.i,.i,.i,.i]) 28 29 (kI 1))⟩,oo 30 (.mov 28),
 ⟨none,none,(.mup (.flat [.i,.i,.i,.i,.i,.i,.i,.i,.i,.i,.i,.i,.i,.i,.i,.i,.i,.i,.i,.i,.i,.i,.i,.i]) 25 26 (kI 1))⟩,oo 27 (.mov 25),oo 9 (.mov 27),oo 10 (.mov 30)])))
 (.seq (.ops [⟨(some 28),none,.mkm⟩])
 (.alt (.ops [⟨none,none,(.mup (.flat [.i,.i,.i,.i,.i,.i,.i,.i,.i,.i,.i,.i,.i,.i,.i,.i,.i,.i,.i,.i,.i,.i,.i,.i]) 25 26 (kI 1))⟩,oo 27 (.mov 25),oo 9 (.mov 27),
 ⟨none,none,(.mup (.flat [.i,.i,.i,.i,.i,.i,.i,.i,.i,.i,.i,.i,.i,.i,.i,.i,.i,.i,.i,.i,.i,.i,.i,.i]) 28 29 (kI 1))⟩,oo 30 (.mov 28),oo 10 (.mov 30)])
 (.ops [⟨none,none,(.mup (.flat [.i,.i,.i,.i,.i,.i,.i,.i,.i,.i,.i,.i,.i,.i,.i,.i,.i,.i,.i,.i,.i,.i,.i,.i]) 28 29 (kI 1))⟩,oo 30 (.mov 28),
 ⟨none,none,(.mup (.flat [.i,.i,.i,.i,.i,.i,.i,.i,.i,.i,.i,.i,.i,.i,.i,.i,.i,.i,.i,.i,.i,.i,.i,.i]) 25 26 (kI 1))⟩,oo 27 (.mov 25),oo 9 (.mov 27),oo 10 (.mov 30)]))))))
 (.seq (.ops [oo 11 (.mov (kI 0))])
 (.seq (.seq (.seq (.frz 9)
 (.seq (.frz 10)
 (.ops [oo 31 (.ld 2 true 2),oo 32 (.callF 56 [31]),oo 33 (.len false 32),oo 34 (.mov (kI 0))])))
 (.blk 0 (.loop (.seq (.ops [oo 35 (.bin .lss 34 33)])
 (.seq (.cnd 35
 .skip
 (.exit 0))
 (.seq (.blk 1 (.seq (.ops [oo 36 (.ixA 7 32 34),oo 37 (.ld 7 true 36),oo 13 (.new [(.int .i64 0),(.int .i64 0),(.int .i64 0),(.int .i64 0),(.int .i64 0),(.bool false),(.bool false)]),
 ⟨none,none,(.st 7 13 37)⟩])
 (.seq (.seq (.ops [oo 38 (.flA 6 13),oo 39 (.ld 1 false 38),oo 40 (.not 39)])
 (.cnd 40
 (.seq (.ops [oo 41 (.ld 7 true 13),oo 42 (.mov 9),oo 43 (.flA 0 2),oo 44 (.ld 1 false 43),oo 45 (.len false 44),oo 47 (.ld 7 true 13),oo 48 (.mov 10),oo 49 (.flA 0 2),oo 50 (.ld 1 false 49),oo 51 (.len false 50),oo 46 (.callF 57 [41,42,(kI 0),45]),
 ⟨none,none,(.chk 7 true 13 47)⟩,
 ⟨none,none,(.chk 1 false 49 50)⟩,oo 52 (.callF 57 [47,48,(kI 0),51]),oo 9 (.mov 46),oo 10 (.mov 52)])
 (.exit 1))
 .skip))
 (.seq (.ops [oo 53 (.ld 7 true 13),oo 54 (.mov 9),oo 55 (.mov 1),oo 56 (.mov 11),oo 57 (.ixA 1 55 56),oo 58 (.ld 1 false 57),oo 59 (.flA 0 2),oo 60 (.ld 1 false 59),oo 61 (.len false 60),oo 62 (.callF 57 [53,54,58,61]),oo 9 (.mov 62)])
 (.seq (.seq (.ops [oo 63 (.flA 5 13),oo 64 (.ld 1 false 63)])
 (.cnd 64
 (.ops [oo 65 (.mov 10),oo 66 (.flA 0 13),oo 67 (.flA 1 66),oo 68 (.ld 1 false 67),oo 69 (.flA 0 2),oo 70 (.ld 1 false 69),oo 71 (.len false 70),oo 72 (.callF 58 [65,68,71]),oo 10 (.mov 72)])
 .skip))
 (.ops [oo 73 (.mov 11),oo 74 (.bin .add 73 (kI 1)),oo 11 (.mov 74)]))))))
 (.ops [oo 75 (.bin .add 34 (kI 1)),oo 34 (.mov 75)])))))))
 (.seq (.ops [oo 76 (.mov 9),oo 77 (.callF 59 [76]),oo 78 (.mov 10),oo 79 (.callF 59 [78]),oo 4 (.mov 77),oo 5 (.mov 79),oo 6 (.mov (kI 0))])
 .ret)))))))⟩
def hint24 (P:Program):Hint:={site:=[],nils:=[],frz:=[(32,9),(32,10)],mve:=[],wr:=[] }
def noC (l:List Sp):List Sp:=l.map fun x=>(x.1,x.2.1,false)
theorem noC_run {n:Nat}:∀{l:List Sp} {b:List Int} {m:Int},runOK n l b m→runOK n (noC l) b m
 | [],_,_,_=>trivial
 | _::_,_,_,h=>⟨⟨h.1.d,h.1.h2,h.1.h3⟩,noC_run h.2⟩
theorem noC_cens (l:List Sp):censG (noC l)=0:=by
 induction l with
 | nil=>rfl
 | cons x r ih=>show censG (_::noC r)=0;rw[censG_cons,ih];rfl
theorem noC_szP:∀(l:List Sp) (b:List Int),szP (noC l) b=szP l b
 | [],_=>rfl
 | x::r,b=>by
   show szP (_::noC r) b=szP (x::r) b
   rw[szP,szP,noC_szP r];rfl
theorem any_tot {n:Nat} (hn:n≤6) {l:List Sp} {b:List Int} {m:Int} {B:List Int} (ht:tbIn b m) (hr:runOK n l b m) (hB:bgT n b B):cntG n (noC l) [] B=szP l b:=by
 have h:=cnt_tot hn ht (noC_run hr) (fun x hx h2=>by
  obtain⟨y,_,rfl⟩:=List.mem_map.1 hx;cases h2) hB
 rw[noC_cens,noC_szP] at h
 rw[←h]
 show _=cntG n (noC l) [] B+0
 omega
theorem noC_inv {n:Nat} {l:List Sp} {W:Wt} (h:invW n l W):invW n (noC l) W:=by
 obtain⟨b,m,h⟩:=h
 exact⟨b,m,h.t,noC_run h.run,h.pos,h.key,h.bd⟩
theorem w0_sum (V:List Int→Int):sumW W0 V=V bg0:=by show 1*V bg0+0=_;omega
theorem sumW_ne {W:Wt} {V:List Int→Int} (h:0<sumW W V):W≠[]:=fun e=>by rw[e] at h;exact absurd (show (0:Int)<0 from h) (by decide)
theorem drawn0_c (bag wood:Int) {v:AV} (hv:v=stV []∨v= .nmp):Fn0 Tryz.prog 94 [v,.int .i64 bag,.int .i64 wood] (fun v=>v=stV []):=by
 rcases hv with rfl|rfl
 all_goals
  refine RawC.walk (H:=hint94 Tryz.prog) ir94 Tryz.func94 rfl (by kernel_rfl) rfl ?_
  unfold ir94
  repeat' (first
   | with_reducible refine Rd.p ?_
   | with_reducible (first|refine zI fun y hy=>?_|refine zL ?_|refine zS ?_|refine zV ?_|refine zC ?_)
   | refine aX ?_|with_reducible intro _
   | with_reducible refine zJ ?_ fun y hy=>?_|refine aP ?_ ?_)
  rename_i g11 g13
  refine w_loopK [1,2,7,13] [] (fun x:List AV=>True) (fun x=>0) (fun _=>[]) (fun x=>[(11,(g11,.row [.mpv (wK []) (wV [])])),(13,(g13,.row [.itv x (wK []) (wV [])]))]) [] trivial trivial ⟨rfl,rfl,trivial⟩ ?_
  rintro cur-e σ
  repeat' (first
   | with_reducible refine Rd.p ?_
   | (refine w_nxtE rfl rfl ?_)
   | with_reducible (first|refine zI fun y hy=>?_|refine zL ?_|refine zS ?_|refine zV ?_|refine zC ?_)
   | refine aX ?_|with_reducible intro _
   | with_reducible refine zJ ?_ fun y hy=>?_|refine aP ?_ ?_)
  refine w_frzMK (ks:=wK []) (vs:=wV []) [(7,stV [])] [] rfl rfl ⟨frzME_at rfl,trivial⟩ trivial ?_
  intro e2 σ2
  repeat' (first
   | with_reducible refine Rd.p ?_
   | with_reducible (first|refine zI fun y hy=>?_|refine zL ?_|refine zS ?_|refine zV ?_|refine zC ?_)
   | refine aX ?_|with_reducible intro _
   | with_reducible refine zJ ?_ fun y hy=>?_|refine aP ?_ ?_)
  rfl
theorem aside0_c (bag:Int) (n:Nat) (hn:n≤6) {v:AV} (hv:v=stV []∨v= .nmp):Fn0 Tryz.prog 58 [v,.int .i64 bag,.int .i64 n] (fun v=>v=stV []):=by
 have hd:=fun i:Int=>drawn0_c bag i hv
 rcases hv with rfl|rfl
 all_goals
  refine RawC.walk (H:=hint58 Tryz.prog) ir58 Tryz.func58 rfl (by kernel_rfl) rfl ?_
  unfold ir58
  repeat' (first
   | with_reducible refine Rd.p ?_
   | with_reducible (first|refine zI fun y hy=>?_|refine zL ?_|refine zS ?_|refine zV ?_|refine zC ?_)
   | refine aX ?_|with_reducible intro _
   | with_reducible refine zJ ?_ fun y hy=>?_|refine aP ?_ ?_)
  rename_i g11
  refine w_loopK [0,1,7,12] [] (fun i:Nat=>i≤n) (fun x=>n-x) (fun x=>[(13,.int .i64 (x:Int))]) (fun x=>[(11,(g11,.row [.mpv (wK []) (wV [])]))]) 0 (Nat.zero_le _) ⟨rfl,trivial⟩ ⟨rfl,trivial⟩ ?_
  rintro i q0 e σ
  dsimp only at q0 ⊢
  by_cases hi:i=n
  · subst hi
    repeat' (first
     | with_reducible refine Rd.p ?_
     | with_reducible (first|refine zI fun y hy=>?_|refine zL ?_|refine zS ?_|refine zV ?_|refine zC ?_)
     | refine aX ?_|with_reducible intro _
     | with_reducible refine zJ ?_ fun y hy=>?_|refine aP ?_ ?_)
    all_goals first
     | (exfalso;omega)
     | skip
    refine w_frzMK (ks:=wK []) (vs:=wV []) [(7,stV [])] [] rfl rfl ⟨frzME_at rfl,trivial⟩ trivial ?_
    intro e2 σ2
    repeat' (first
     | with_reducible refine Rd.p ?_
     | with_reducible (first|refine zI fun y hy=>?_|refine zL ?_|refine zS ?_|refine zV ?_|refine zC ?_)
     | refine aX ?_|with_reducible intro _
     | with_reducible refine zJ ?_ fun y hy=>?_|refine aP ?_ ?_)
    rfl
  have hlt:i<n:=by omega
  repeat' (first
   | with_reducible refine Rd.p ?_
   | with_reducible (first|refine zI fun y hy=>?_|refine zL ?_|refine zS ?_|refine zV ?_|refine zC ?_)
   | ((with_reducible refine aC ?_);first|((refine ACall.fn0 (hd i) rfl ?_;rintro _ rfl)))
   | refine aX ?_|with_reducible intro _
   | with_reducible refine zJ ?_ fun y hy=>?_|refine aP ?_ ?_)
  rename_i g20
  refine w_loopK [0,1,7,12,13,20] [] (fun x:List AV=>True) (fun x=>0) (fun _=>[]) (fun x=>[(11,(g11,.row [.mpv (wK []) (wV [])])),(20,(g20,.row [.itv x (wK []) (wV [])]))]) [] trivial trivial ⟨rfl,rfl,trivial⟩ ?_
  rintro cur-e1 σ1
  repeat' (first
   | with_reducible refine Rd.p ?_
   | (refine w_nxtE rfl rfl ?_)
   | with_reducible (first|refine zI fun y hy=>?_|refine zL ?_|refine zS ?_|refine zV ?_|refine zC ?_)
   | refine aX ?_|with_reducible intro _
   | with_reducible refine zJ ?_ fun y hy=>?_|refine aP ?_ ?_)
  all_goals first
   | (exfalso;omega)
   | exact q_loop (i+1) hlt (by show n-(i+1)<n-i;omega) ⟨rfl,trivial⟩ ⟨rfl,trivial⟩ aK aK
theorem dealt0_c (d:Dl) {v:AV} (hv:v=stV []∨v= .nmp):Fn0 Tryz.prog 95 [v,.agg [.int .i64 d.kind,.int .i64 d.bag,.int .i64 d.other,.int .i64 d.wood,.int .i64 d.count]] (fun v=>v=stV []):=by
 rcases hv with rfl|rfl
 all_goals
  refine RawC.walk (H:=hint95 Tryz.prog) ir95 Tryz.func95 rfl (by kernel_rfl) rfl ?_
  unfold ir95
  repeat' (first
   | with_reducible refine Rd.p ?_
   | with_reducible (first|refine zI fun y hy=>?_|refine zL ?_|refine zS ?_|refine zV ?_|refine zC ?_)
   | refine aX ?_|with_reducible intro _
   | with_reducible refine zJ ?_ fun y hy=>?_|refine aP ?_ ?_)
  rename_i g3 g8 g10
  refine w_loopK [3,5,10] [3] (fun x:List AV=>True) (fun x=>0) (fun _=>[]) (fun x=>[(8,(g8,.row [.mpv (wK []) (wV [])])),(10,(g10,.row [.itv x (wK []) (wV [])]))]) [] trivial trivial ⟨rfl,rfl,trivial⟩ ?_
  rintro cur-e σ
  repeat' (first
   | with_reducible refine Rd.p ?_
   | (refine w_nxtE rfl rfl ?_)
   | with_reducible (first|refine zI fun y hy=>?_|refine zL ?_|refine zS ?_|refine zV ?_|refine zC ?_)
   | refine aX ?_|with_reducible intro _
   | with_reducible refine zJ ?_ fun y hy=>?_|refine aP ?_ ?_)
  refine w_frzMK (ks:=wK []) (vs:=wV []) [(5,stV [])] [] rfl rfl ⟨frzME_at rfl,trivial⟩ trivial ?_
  intro e2 σ2
  repeat' (first
   | with_reducible refine Rd.p ?_
   | with_reducible (first|refine zI fun y hy=>?_|refine zL ?_|refine zS ?_|refine zV ?_|refine zC ?_)
   | refine aX ?_|with_reducible intro _
   | with_reducible refine zJ ?_ fun y hy=>?_|refine aP ?_ ?_)
  rfl
theorem ways0_c {v:AV} (hv:v=stV []∨v= .nmp):Fn0 Tryz.prog 59 [v] (fun v=>v= .int .i64 0):=by
 rcases hv with rfl|rfl
 all_goals
  refine RawC.walk (H:=hint59 Tryz.prog) ir59 Tryz.func59 rfl rfl rfl ?_
  unfold ir59
  repeat' (first
   | with_reducible refine Rd.p ?_
   | with_reducible (first|refine zI fun y hy=>?_|refine zL ?_|refine zS ?_|refine zV ?_|refine zC ?_)
   | refine aX ?_|with_reducible intro _
   | with_reducible refine zJ ?_ fun y hy=>?_|refine aP ?_ ?_)
  rename_i g7
  refine w_loopK [7] [] (fun x:List AV=>True) (fun x=>0) (fun x=>[(3,.int .i64 0)]) (fun x=>[(7,(g7,.row [.itv x (wK []) (wV [])]))]) [] trivial ⟨rfl,trivial⟩ ⟨rfl,trivial⟩ ?_
  rintro cur-e σ
  repeat' (first
   | with_reducible refine Rd.p ?_
   | (refine w_nxtE rfl rfl ?_)
   | with_reducible (first|refine zI fun y hy=>?_|refine zL ?_|refine zS ?_|refine zV ?_|refine zC ?_)
   | refine aX ?_|with_reducible intro _
   | with_reducible refine zJ ?_ fun y hy=>?_|refine aP ?_ ?_)
  rfl
theorem next0_c (x:Sp) (wood:Int) (n:Nat) (hn:n≤6) {v:AV} (hv:v=stV []∨v= .nmp):Fn0 Tryz.prog 57 [.agg [.int .i64 x.1.kind,.int .i64 x.1.bag,.int .i64 x.1.other,.int .i64 x.1.wood,.int .i64 x.1.count,.bool x.2.1,.bool x.2.2],v,.int .i64 wood,.int .i64 n] (fun v=>v=stV []∨v= .nmp):=by
 obtain⟨d,b,c⟩:=x
 have h1:=drawn0_c d.bag wood hv
 have h2:=aside0_c d.bag n hn hv
 have h3:=dealt0_c d hv
 rcases hv with rfl|rfl
 all_goals
  cases b<;>cases c
  all_goals
   refine RawC.walk (H:=hint57 Tryz.prog) ir57 Tryz.func57 rfl rfl rfl ?_
   unfold ir57
   repeat' (first
    | with_reducible refine Rd.p ?_
    | with_reducible (first|refine zL ?_|refine zS ?_|refine zV ?_|refine zC ?_)
    | ((with_reducible refine aC ?_);first|(refine ACall.val h1 rfl rfl ?_)|(refine ACall.val h2 rfl rfl ?_)|(refine ACall.val h3 rfl rfl ?_))
    | refine aX ?_|with_reducible intro _
    | refine aP ?_ ?_)
   all_goals first
    | (exfalso;omega)
    | exact .inl rfl
    | exact .inr rfl
abbrev liV (n:Nat) (post:List Sp) (cs:List Int) (k:Int) (W:Wt):Prop:=(W=[]∨invW n post W)∧sumW W (cntG n post cs)=k
theorem nextA {n:Nat} (hn:n≤6) {x:Sp} {post:List Sp} {cs cs':List Int} {k:Int} {W:Wt} {v:AV} (w:Nat) (hw:w<n) (hv:stW W v) (h:liV n (x::post) cs' k W) (he:∀B,cntG n (x::post) cs' B=nextV x w n (cntG n post cs) B):Fn0 Tryz.prog 57 [.agg [.int .i64 x.1.kind,.int .i64 x.1.bag,.int .i64 x.1.other,.int .i64 x.1.wood,.int .i64 x.1.count,.bool x.2.1,.bool x.2.2],v,.int .i64 w,.int .i64 n] (fun v=>∃W',stW W' v∧liV n post cs k W'):=by
 obtain⟨h1,h2⟩:=h
 by_cases hW:W=[]
 · subst hW
   have hv':v=stV []∨v= .nmp:=hv.imp id fun h=>h.1
   exact (next0_c x w n hn hv').mono fun v _ hv=>by
    rcases hv with rfl|rfl
    · exact⟨[],.inl rfl,.inl rfl,h2⟩
    · exact⟨[],.inr ⟨rfl,rfl⟩,.inl rfl,h2⟩
 · have hi:=h1.resolve_left hW
   have hI:=invW_sr n hn
   rw[stW_ne hv hW]
   refine (next_c x w n W (hI.nx hi hW hw)).mono fun v _ hv=>?_
   obtain⟨W',h3,h4⟩:=hv
   refine⟨W',h3,.inr (hI.go hi hW hw h4),?_⟩
   rw[h4.sum,←h2]
   exact sumW_congr fun y _=>(he _).symm
def wyF (G:Gm) (c:List Int):Int×Int×Int:=
 if gmErr G=0 then (if courseErr G c=0 then (cwG G c,allW G,0) else (0,0,courseErr G c)) else (0,0,gmErr G)
abbrev wyA (x:Int×Int×Int):AV:= .tup [.int .i64 x.1,.int .i64 x.2.1,.int .i64 x.2.2]
theorem waysA_c (G:Gm) (c:List Int) (hlw:G.ws.length<1000) (hld:G.ds.length<1000) (hs:∀w∈G.ws,w.name.size≤1000) (hcl:c.length<1000):Fn0 Tryz.prog 24 [gmA G,.slc 1 (iR c) .non] (fun v=>v=wyA (wyF G c)):=by
 have hck:=gCheck_c G hlw hld hs
 by_cases h0:gmErr G=0
 rotate_left
 · rw[show wyF G c=(0,0,gmErr G) from if_neg h0]
   refine RawC.walk (H:=hint24 Tryz.prog) ir24 Tryz.func24 rfl (by kernel_rfl) rfl ?_
   unfold ir24
   repeat' (first
    | with_reducible refine Rd.p ?_
    | with_reducible (first|refine zL ?_|refine zS ?_|refine zV ?_|refine zC ?_)
    | ((with_reducible refine aC ?_);first|(refine ACall.val hck rfl rfl ?_))
    | refine aX ?_|with_reducible intro _
    | refine aP ?_ ?_)
   all_goals first
    | (exfalso;omega)
    | rfl
 rw[h0] at hck
 have hcc:=checkCourse_c G (invW G.ws.length) (gmOK h0) c hcl
 by_cases hce:courseErr G c=0
 rotate_left
 · rw[show wyF G c=(0,0,courseErr G c) by unfold wyF;rw[if_pos h0,if_neg hce]]
   refine RawC.walk (H:=hint24 Tryz.prog) ir24 Tryz.func24 rfl (by kernel_rfl) rfl ?_
   unfold ir24
   repeat' (first
    | with_reducible refine Rd.p ?_
    | with_reducible (first|refine zL ?_|refine zS ?_|refine zV ?_|refine zC ?_)
    | ((with_reducible refine aC ?_);first|(refine ACall.val hck rfl rfl ?_)|(refine ACall.val hcc rfl rfl ?_))
    | refine aX ?_|with_reducible intro _
    | refine aP ?_ ?_)
   all_goals first
    | (exfalso;omega)
    | rfl
 rw[show wyF G c=(cwG G c,allW G,0) by unfold wyF;rw[if_pos h0,if_pos hce]]
 rw[hce] at hcc
 obtain⟨hc,hw⟩:=courseErr_ok hce
 have hG:=gm_ok h0
 have hn6:=hG.n6
 have hn1:=hG.n1
 have h24:=hG.d24
 have hcn:=hG.cen
 have hsl:=stepsG_len G.ds hG.cnt
 have hst:=steps_c G h24 hG.cnt
 have hI:=invW_sr G.ws.length hn6
 have hini:=(gmOK h0).ini
 have hwl:(wR G.ws).length=G.ws.length:=List.length_map _
 have hL6:∀x∈stepsG G.ds,x.2.2=true→x.2.1=false→x.1.kind=6:=fun x hx h1 h2=>by
  obtain⟨d,hd,hxd⟩:=List.mem_flatMap.1 hx
  unfold stp1 at hxd
  split at hxd
  · rw[(List.mem_replicate.1 hxd).2] at h2;cases h2
  · rw[List.mem_singleton.1 hxd] at h1 ⊢;simpa using h1
 have hall0:sumW W0 (cntG G.ws.length (noC (stepsG G.ds)) [])=allW G:=by rw[w0_sum];exact any_tot hn6 tb0_in hG.ex (bgT0 _)
 have hsome0:sumW W0 (cntG G.ws.length (stepsG G.ds) c)=cwG G c:=by rw[w0_sum];rfl
 have hallp:=(allW_bd hG).1
 refine RawC.walk (H:=hint24 Tryz.prog) ir24 Tryz.func24 rfl (by kernel_rfl) rfl ?_
 unfold ir24
 repeat' (first
  | with_reducible refine Rd.p ?_
  | with_reducible (first|refine zL ?_|refine zS ?_|refine zV ?_|refine zC ?_)
  | ((with_reducible refine aC ?_);first|(refine ACall.val hck rfl rfl ?_)|(refine ACall.val hcc rfl rfl ?_))
  | refine aX ?_|with_reducible intro _
  | refine aP ?_ ?_)
 all_goals try (exfalso;omega)
 all_goals
  refine w_frzMK (t:=9) (i:=25) (ks:=wK W0) (vs:=wV W0) [(1,.slc 1 (iR c) .non),(2,.ref 2 _ 0),(9,stV W0),(10,.map 28 _),(11,.int .i64 0)] [(2,(_,.row [.slc 2 (wR G.ws) .non,.slc 5 (dlR G.ds) .non])),(28,(_,.row [.mpv (wK W0) (wV W0)]))] rfl rfl ⟨rfl,rfl,frzME_at rfl,rfl,rfl,trivial⟩ ⟨rfl,rfl,trivial⟩ ?_
  intro e1 σ1
  repeat' (first
   | with_reducible refine Rd.p ?_
   | with_reducible (first|refine zL ?_|refine zS ?_|refine zV ?_|refine zC ?_)
   | refine aX ?_|with_reducible intro _
   | refine aP ?_ ?_)
  refine w_frzMK (t:=10) (i:=28) (ks:=wK W0) (vs:=wV W0) [(1,.slc 1 (iR c) .non),(2,.ref 2 _ 0),(9,stV W0),(10,stV W0),(11,.int .i64 0)] [(2,(_,.row [.slc 2 (wR G.ws) .non,.slc 5 (dlR G.ds) .non]))] rfl rfl ⟨rfl,rfl,rfl,frzME_at rfl,rfl,trivial⟩ ⟨rfl,trivial⟩ ?_
  intro e2 σ2
  repeat' (first
   | with_reducible refine Rd.p ?_
   | with_reducible (first|refine zL ?_|refine zS ?_|refine zV ?_|refine zC ?_)
   | ((with_reducible refine aC ?_);first|(refine ACall.val hst rfl rfl ?_))
   | refine aX ?_|with_reducible intro _
   | refine aP ?_ ?_)
 all_goals
  refine w_loopK [1,2,32,33] [2] (fun z:List Sp×List Sp×List Int×List Int×AV×Wt×Wt=>stepsG G.ds=z.1++z.2.1∧c=z.2.2.1++z.2.2.2.1∧z.2.2.2.1.length=censG z.2.1∧(stW z.2.2.2.2.2.1 z.2.2.2.2.1∧liV G.ws.length z.2.1 z.2.2.2.1 (cwG G c) z.2.2.2.2.2.1)∧invW G.ws.length (noC z.2.1) z.2.2.2.2.2.2∧sumW z.2.2.2.2.2.2 (cntG G.ws.length (noC z.2.1) [])=allW G) (fun z=>z.2.1.length) (fun z=>[(9,z.2.2.2.2.1),(10,stV z.2.2.2.2.2.2),(11,.int .i64 (z.2.2.1.length:Int)),(34,.int .i64 (z.1.length:Int))]) (fun _=>[]) ([],stepsG G.ds,[],c,stV W0,W0,W0) ⟨rfl,rfl,hc,⟨.inl rfl,.inr hini,hsome0⟩,noC_inv hini,hall0⟩ ⟨rfl,rfl,rfl,rfl,trivial⟩ trivial ?_
  rintro⟨pre,post,cp,cs,v1,W1,W2⟩ ⟨hl,hcl,hcn2,⟨hv1,hi1⟩,hi2,hs2⟩ e σ
  dsimp only at hl hcl hcn2 hv1 hi1 hi2 hs2 ⊢
  have hlen:=congrArg List.length hl
  have hlc:=congrArg List.length hcl
  rw[List.length_append] at hlen hlc
  have hW2:W2≠[]:=sumW_ne (V:=cntG G.ws.length (noC post) []) (by omega)
  cases post with
  | nil=>
    have hcs:cs=[]:=List.eq_nil_of_length_eq_zero (by rw[hcn2];rfl)
    subst hcs
    simp only[List.length_nil] at hlen
    have hy1:Fn0 Tryz.prog 59 [v1] (fun v=>v= .int .i64 (cwG G c)):=by
     by_cases hW:W1=[]
     · subst hW
       have e0:(0:Int)=cwG G c:=hi1.2
       rw[←e0]
       exact ways0_c (hv1.imp id fun h=>h.1)
     · have hj:=hi1.1.resolve_left hW
       have e1:sumW W1 (fun _=>1)=cwG G c:=hi1.2
       rw[stW_ne hv1 hW,←e1]
       exact ways_c W1 (hI.pos hj) (hI.bd hj)
    have hy2:=ways_c W2 (hI.pos hi2) (hI.bd hi2)
    have e2:sumW W2 (fun _=>1)=allW G:=hs2
    rw[e2] at hy2
    rcases hv1 with rfl | ⟨rfl,-⟩
    all_goals
     repeat' (first
      | with_reducible refine Rd.p ?_
      | with_reducible (first|refine zL ?_|refine zS ?_|refine zV ?_|refine zC ?_)
      | ((with_reducible refine aC ?_);first|((refine ACall.fn0 hy1 rfl ?_;rintro _ rfl))|(refine ACall.val hy2 rfl rfl ?_))
      | refine aX ?_|with_reducible intro _
      | refine aP ?_ ?_)
     all_goals first
      | (exfalso;omega)
      | rfl
  | cons x post=>
    simp only[List.length_cons] at hlen
    obtain⟨d,b,cen⟩:=x
    have hi2':invW G.ws.length ((d,b,false)::noC post) W2:=hi2
    have hs2':sumW W2 (nextV (d,b,false) 0 G.ws.length (cntG G.ws.length (noC post) []))=allW G:=hs2
    have nx2:=hI.nx (w:=0) hi2' hW2 (by omega)
    have go2:∀W',StOut W' (fun V=>sumW W2 (nextV (d,b,false) 0 G.ws.length V)) (fun B=>∃y∈W2,nextB (d,b,false) 0 G.ws.length y.1 B)→invW G.ws.length (noC post) W'∧sumW W' (cntG G.ws.length (noC post) [])=allW G:=fun W' h=>⟨hI.go (w:=0) hi2' hW2 (by omega) h,by rw[h.sum];exact hs2'⟩
    have hx2:=next_c (d,b,false) 0 G.ws.length W2 nx2
    cases cen with
    | false=>
      have hcn3:cs.length=censG post:=by rw[censG_cons] at hcn2;simpa using hcn2
      have hx1:=nextA hn6 (cs:=cs) 0 (by omega) hv1 hi1 (fun B=>cntG_f (show ¬false=true by decide))
      rcases hv1 with rfl | ⟨rfl,-⟩
      all_goals
       repeat' (first
        | with_reducible refine Rd.p ?_
        | (first|refine w_ixP hl rfl rfl ?_)
        | with_reducible (first|refine zL ?_|refine zS ?_|refine zV ?_|refine zC ?_)
        | ((with_reducible refine aC ?_);first|((refine ACall.fn0 hx1 rfl ?_;rintro _ ⟨W1',(rfl | ⟨rfl,hw0⟩),ho1⟩))|((refine ACall.nx hx2 rfl (fun W' h=>sumW_ne (by rw[(go2 W' h).2];omega)) ?_;intro W2' ho2)))
        | refine aX ?_|with_reducible intro _
        | refine aP ?_ ?_)
       all_goals first
        | (exfalso;omega)
        | exact q_loop (pre++[(d,b,false)],post,cp,cs,stV W1',W1',W2') ⟨by show stepsG G.ds=_;rw[hl];simp,hcl,hcn3,⟨.inl rfl,ho1⟩,(go2 _ ho2).1,(go2 _ ho2).2⟩ (Nat.lt_succ_self _) ⟨rfl,rfl,rfl,by rw[len_snoc];rfl,trivial⟩ aS aK aK
        | exact q_loop (pre++[(d,b,false)],post,cp,cs,.nmp,W1',W2') ⟨by show stepsG G.ds=_;rw[hl];simp,hcl,hcn3,⟨.inr ⟨rfl,hw0⟩,ho1⟩,(go2 _ ho2).1,(go2 _ ho2).2⟩ (Nat.lt_succ_self _) ⟨rfl,rfl,rfl,by rw[len_snoc];rfl,trivial⟩ aS aK aK
    | true=>
      cases cs with
      | nil=>exfalso;rw[censG_cons] at hcn2;simp at hcn2;omega
      | cons w cs=>
        simp only[List.length_cons] at hlc
        have hcn3:cs.length=censG post:=by rw[censG_cons] at hcn2;simp only[List.length_cons,if_true] at hcn2;omega
        have hwb:=hw w (by rw[hcl];simp)
        have hwn:((w.toNat:Nat):Int)=w:=by omega
        have hx1:=nextA hn6 (cs:=cs) w.toNat (by omega) hv1 hi1 (fun B=>by rw[hwn];exact cntG_t rfl)
        rw[hwn] at hx1
        cases b with
        | true=>
          obtain⟨a1,a2,a3⟩:=nx2.hd rfl
          dsimp only at a1 a2
          have hA:=aside_c d.bag G.ws.length W2 a1 hn6 nx2.hp nx2.hk nx2.hs a2
          rcases hv1 with rfl | ⟨rfl,-⟩
          all_goals
           repeat' (first
            | with_reducible refine Rd.p ?_
            | (first|refine w_ixP hl rfl rfl ?_|refine w_ixP (f:=fun x:Int=>[AV.int .i64 x]) hcl rfl rfl ?_)
            | with_reducible (first|refine zL ?_|refine zS ?_|refine zV ?_|refine zC ?_)
            | ((with_reducible refine aC ?_);first|((refine ACall.fn0 hx1 rfl ?_;rintro _ ⟨W1',(rfl | ⟨rfl,hw0⟩),ho1⟩))|((refine ACall.st hA rfl ?_;intro W2' ho2)))
            | refine aX ?_|with_reducible intro _
            | refine aP ?_ ?_)
           all_goals try (exfalso;omega)
           all_goals
            have ho3:StOut W2' (fun V=>sumW W2 (nextV (d,true,false) 0 G.ws.length V)) (fun B=>∃y∈W2,nextB (d,true,false) 0 G.ws.length y.1 B):=ho2.congr (fun V=>rfl) fun B hB=>hB
            first
             | exact q_loop (pre++[(d,true,true)],post,cp++[w],cs,stV W1',W1',W2') ⟨by show stepsG G.ds=_;rw[hl];simp,by show c=_;rw[hcl];simp,hcn3,⟨.inl rfl,ho1⟩,(go2 _ ho3).1,(go2 _ ho3).2⟩ (Nat.lt_succ_self _) ⟨rfl,rfl,by rw[len_snoc];rfl,by rw[len_snoc];rfl,trivial⟩ aS aK aK
             | exact q_loop (pre++[(d,true,true)],post,cp++[w],cs,.nmp,W1',W2') ⟨by show stepsG G.ds=_;rw[hl];simp,by show c=_;rw[hcl];simp,hcn3,⟨.inr ⟨rfl,hw0⟩,ho1⟩,(go2 _ ho3).1,(go2 _ ho3).2⟩ (Nat.lt_succ_self _) ⟨rfl,rfl,by rw[len_snoc];rfl,by rw[len_snoc];rfl,trivial⟩ aS aK aK
        | false=>
          have hk6:d.kind=6:=hL6 (d,false,true) (by rw[hl];simp) rfl rfl
          have hmb:∀B,mixedB d B=B:=fun B=>by unfold mixedB;rw[if_neg (by omega),if_neg (by omega)]
          have hi3:invW G.ws.length (noC post) W2:=by
           obtain⟨b0,m0,h⟩:=hi2'
           have e1:spB (d,false,false) b0=b0:=by unfold spB;simp[hk6]
           have e2:spM (d,false,false) m0=m0:=by unfold spM;simp[hk6]
           have hr:=h.run.2
           rw[e1,e2] at hr
           exact⟨b0,m0,h.t,hr,h.pos,h.key,h.bd⟩
          have hs3:sumW W2 (cntG G.ws.length (noC post) [])=allW G:=by
           rw[←hs2']
           refine sumW_congr fun y _=>?_
           unfold nextV
           rw[if_neg Bool.false_ne_true,if_neg (fun h=>Bool.false_ne_true h.1),hmb]
          rcases hv1 with rfl | ⟨rfl,-⟩
          all_goals
           repeat' (first
            | with_reducible refine Rd.p ?_
            | (first|refine w_ixP hl rfl rfl ?_|refine w_ixP (f:=fun x:Int=>[AV.int .i64 x]) hcl rfl rfl ?_)
            | with_reducible (first|refine zL ?_|refine zS ?_|refine zV ?_|refine zC ?_)
            | ((with_reducible refine aC ?_);first|((refine ACall.fn0 hx1 rfl ?_;rintro _ ⟨W1',(rfl | ⟨rfl,hw0⟩),ho1⟩)))
            | refine aX ?_|with_reducible intro _
            | refine aP ?_ ?_)
           all_goals first
            | (exfalso;omega)
            | exact q_loop (pre++[(d,false,true)],post,cp++[w],cs,stV W1',W1',W2) ⟨by show stepsG G.ds=_;rw[hl];simp,by show c=_;rw[hcl];simp,hcn3,⟨.inl rfl,ho1⟩,hi3,hs3⟩ (Nat.lt_succ_self _) ⟨rfl,rfl,by rw[len_snoc];rfl,by rw[len_snoc];rfl,trivial⟩ aS aK aK
            | exact q_loop (pre++[(d,false,true)],post,cp++[w],cs,.nmp,W1',W2) ⟨by show stepsG G.ds=_;rw[hl];simp,by show c=_;rw[hcl];simp,hcn3,⟨.inr ⟨rfl,hw0⟩,ho1⟩,hi3,hs3⟩ (Nat.lt_succ_self _) ⟨rfl,rfl,by rw[len_snoc];rfl,by rw[len_snoc];rfl,trivial⟩ aS aK aK
end Go.Abs
set_option linter.unusedVariables false
set_option linter.unusedSimpArgs false
set_option maxRecDepth 20000
set_option maxHeartbeats 4000000
namespace Go.Abs
open Go.Proofs
def ir61:IFn:=
 ⟨7,[(2,none)],(.seq (.ops [oo 1 (.box 2 0),oo 2 (.mov (kI 0))])
 (.seq (.ops [oo 3 (.ld 2 true 1),oo 4 (.callF 33 [3]),oo 5 (.bld [z0,z0,z0,z0,z0,z0,z0,z0,z0,z0,z0,z0,z0,z0,z0,z0,z0,z0,z0,z0,z0,z0,z0,z0] []),oo 6 (.callF 60 [4,5,(.k .nsl)]),oo 2 (.mov 6)])
 .ret))⟩
def hint61 (P:Program):Hint:={}
def ir25:IFn:=
 ⟨27,[(4,none),(5,none),(6,none)],(.seq (.ops [oo 2 (.box 2 0),oo 4 (.mov (kI 0)),oo 5 (.mov (kI 0)),oo 6 (.mov (kI 0))])
 (.seq (.seq (.ops [oo 9 (.ld 2 true 2),oo 10 (.callF 26 [9]),oo 7 (.mov 10)])
 (.seq (.ops [oo 11 (.mov 7),oo 12 (.bin .neq 11 (kI 0))])
 (.cnd 12
 (.seq (.ops [oo 13 (.mov 7),oo 4 (.mov (kI 0)),oo 5 (.mov (kI 0)),oo 6 (.mov 13)])
 .ret)
 .skip)))
 (.seq (.seq (.ops [oo 14 (.ld 2 true 2),oo 15 (.mov 1),oo 16 (.callF 43 [14,15]),oo 8 (.mov 16)])
 (.seq (.ops [oo 17 (.mov 8),oo 18 (.bin .neq 17 (kI 0))])
 (.cnd 18
 (.seq (.ops [oo 19 (.mov 8),oo 4 (.mov (kI 0)),oo 5 (.mov (kI 0)),oo 6 (.mov 19)])
 .ret)
 .skip)))
 (.seq (.ops [oo 20 (.ld 2 true 2),oo 22 (.bld [z0,z0,z0,z0,z0,z0,z0,z0,z0,z0,z0,z0,z0,z0,z0,z0,z0,z0,z0,z0,z0,z0,z0,z0] []),oo 23 (.mov 1),oo 25 (.ld 2 true 2),oo 21 (.callF 33 [20]),
 ⟨none,none,(.chk 2 true 2 25)⟩,oo 24 (.callF 60 [21,22,23]),
 ⟨none,none,(.chk 2 true 2 25)⟩,oo 26 (.callF 61 [25]),oo 4 (.mov 24),oo 5 (.mov 26),oo 6 (.mov (kI 0))])
 .ret))))⟩
def hint25 (P:Program):Hint:={}
theorem rall_c (G:Gm) (h:GOK G):Fn0 Tryz.prog 61 [gmA G] (fun v=>v= .int .i64 (allW G)):=by
 have hac:=acts_c G h.d24 h.cnt
 have hcn:=(goH.of h).cnt (.inl ⟨rfl,rfl⟩:CV .nsl []) (by decide)
 have e1:cntP ((actsF G.ds).map spOf) [] bg0=allW G:=by
  rw[cntP_nil h.n6 tb0_in (run_acts h) (bgT0 _),acts_sp,szP_nrm];rfl
 rw[e1] at hcn
 refine RawC.walk (H:=hint61 Tryz.prog) ir61 Tryz.func61 rfl rfl rfl ?_
 unfold ir61
 repeat' (first
  | with_reducible refine Rd.p ?_
  | with_reducible (first|refine zL ?_|refine zS ?_|refine zV ?_|refine zC ?_)
  | ((with_reducible refine aC ?_);first|(refine ACall.val hac rfl rfl ?_)|(refine ACall.cnt hcn rfl rfl ?_))
  | refine aX ?_|with_reducible intro _
  | refine aP ?_ ?_)
 all_goals first
  | (exfalso;omega)
  | rfl
theorem rWays_c (G:Gm) (c:List Int) (hw:G.ws.length<1000) (hd:G.ds.length<1000) (hs:∀w∈G.ws,w.name.size≤1000) (hc:c.length<1000):Fn0 Tryz.prog 25 [gmA G,.slc 1 (iR c) .non] (fun v=>v=wyA (wyF G c)):=by
 have hck:=gRefCheck_c G hw hd hs
 by_cases h0:gmErr G=0
 rotate_left
 · rw[show wyF G c=(0,0,gmErr G) from if_neg h0]
   refine RawC.walk (H:=hint25 Tryz.prog) ir25 Tryz.func25 rfl rfl rfl ?_
   unfold ir25
   repeat' (first
    | with_reducible refine Rd.p ?_
    | with_reducible (first|refine zL ?_|refine zS ?_|refine zV ?_|refine zC ?_)
    | ((with_reducible refine aC ?_);first|(refine ACall.val hck rfl rfl ?_))
    | refine aX ?_|with_reducible intro _
    | refine aP ?_ ?_)
   all_goals first
    | (exfalso;omega)
    | rfl
 rw[h0] at hck
 have hG:=gm_ok h0
 have hcc:=rcheckCourse_c G hG c (by omega)
 by_cases hce:courseErr G c=0
 rotate_left
 · rw[show wyF G c=(0,0,courseErr G c) by unfold wyF;rw[if_pos h0,if_neg hce]]
   refine RawC.walk (H:=hint25 Tryz.prog) ir25 Tryz.func25 rfl rfl rfl ?_
   unfold ir25
   repeat' (first
    | with_reducible refine Rd.p ?_
    | with_reducible (first|refine zL ?_|refine zS ?_|refine zV ?_|refine zC ?_)
    | ((with_reducible refine aC ?_);first|(refine ACall.val hck rfl rfl ?_)|(refine ACall.val hcc rfl rfl ?_))
    | refine aX ?_|with_reducible intro _
    | refine aP ?_ ?_)
   all_goals first
    | (exfalso;omega)
    | rfl
 rw[show wyF G c=(cwG G c,allW G,0) by unfold wyF;rw[if_pos h0,if_pos hce]]
 rw[hce] at hcc
 obtain⟨hl,hin⟩:=courseErr_ok hce
 have hac:=acts_c G hG.d24 hG.cnt
 have hal:=rall_c G hG
 have hcn:=(goH.of hG).cnt (.inr rfl:CV _ c) hc
 have e1:cntP ((actsF G.ds).map spOf) c bg0=cwG G c:=by
  rw[acts_sp]
  have h:=cntP_sum hG.n6 tb0_in (runOK_nrm hG.ex) (wdOK_nrm hG.wd) (bgT0 _) (c:=c) (by rw[censG_nrm];omega) hin
  rw[h,censG_nrm,show censG (stepsG G.ds)-c.length=0 by omega]
  show cntG _ _ (c++[]) _+0=_
  rw[List.append_nil,cntG_nrm,Int.add_zero];rfl
 rw[e1] at hcn
 refine RawC.walk (H:=hint25 Tryz.prog) ir25 Tryz.func25 rfl rfl rfl ?_
 unfold ir25
 repeat' (first
  | with_reducible refine Rd.p ?_
  | with_reducible (first|refine zL ?_|refine zS ?_|refine zV ?_|refine zC ?_)
  | ((with_reducible refine aC ?_);first|(refine ACall.val hck rfl rfl ?_)|(refine ACall.val hcc rfl rfl ?_)|(refine ACall.val hac rfl rfl ?_)|(refine ACall.val hal rfl rfl ?_)|(refine ACall.cnt hcn rfl rfl ?_))
  | refine aX ?_|with_reducible intro _
  | refine aP ?_ ?_)
 all_goals first
  | (exfalso;omega)
  | rfl
end Go.Abs
set_option linter.unusedVariables false
set_option linter.unusedSimpArgs false
set_option maxRecDepth 20000
set_option maxHeartbeats 4000000
namespace Go.Abs
open Go.Proofs
def ir9v:IFn:=
 ⟨91,[(4,none),(5,none)],(.seq (.ops [oo 2 (.box 2 0),oo 4 (.mov (.k .nsl)),oo 5 (.mov (kI 0))])
 (.seq (.seq (.ops [oo 15 (.ld 2 true 2),oo 16 (.callF 26 [15]),oo 6 (.mov 16)])
 (.seq (.ops [oo 17 (.mov 6),oo 18 (.bin .neq 17 (kI 0))])
 (.cnd 18
 (.seq (.ops [oo 19 (.mov 6),oo 4 (.mov (.k .nsl)),oo 5 (.mov 19)])
 .ret)
 .skip)))
 (.seq (.ops [oo 20 (.ld 2 true 2),oo 21 (.callF 27 [20]),oo 7 (.mov 21)])
 (.seq (.seq (.ops [oo 22 (.mov 1),oo 23 (.len false 22),oo 24 (.mov 7),oo 25 (.len false 24),oo 26 (.bin .neq 23 25)])
 (.cnd 26
 (.seq (.ops [oo 4 (.mov (.k .nsl)),oo 5 (.mov (kI 3))])
 .ret)
 .skip))
 (.seq (.seq (.ops [oo 8 (.mov (kI 0))])
 (.blk 0 (.loop (.seq (.seq (.ops [oo 27 (.mov 8),oo 28 (.mov 1),oo 29 (.len false 28),oo 30 (.bin .lss 27 29)])
 (.cnd 30
 .skip
 (.exit 0)))
 (.seq (.blk 1 (.seq (.ops [oo 33 (.mov 1),oo 34 (.mov 8),oo 35 (.ixA 1 33 34),oo 36 (.ld 1 false 35),oo 37 (.mov 7),oo 38 (.mov 8),oo 39 (.ixA 1 37 38),oo 40 (.ld 1 false 39),oo 41 (.bin .sub 40 (kI 1)),oo 42 (.callF 32 [36,(kI 0),41]),oo 43 (.not 42)])
 (.cnd 43
 (.seq (.ops [oo 4 (.mov (.k .nsl)),oo 5 (.mov (kI 2))])
 .ret)
 .skip)))
 (.ops [oo 31 (.mov 8),oo 32 (.bin .add 31 (kI 1)),oo 8 (.mov 32)]))))))
 (.seq (.ops [oo 9 (.mov (.k .nsl))])
 (.seq (.ops [oo 10 (.new [z0,z0,z0,z0,z0,z0,z0,z0,z0,z0,z0,z0,z0,z0,z0,z0,z0,z0,z0,z0,z0,z0,z0,z0])])
 (.seq (.ops [oo 44 (.ld 2 true 2),oo 45 (.callF 33 [44]),oo 11 (.mov 45)])
 (.seq (.seq (.ops [oo 12 (.mov (kI 0))])
 (.blk 2 (.loop (.seq (.seq (.ops [oo 46 (.mov 12),oo 47 (.mov 11),oo 48 (.len false 47),oo 49 (.bin .lss 46 48)])
 (.cnd 49
 .skip
 (.exit 2)))
 (.seq (.blk 3 (.seq (.ops [oo 52 (.mov 11),oo 53 (.mov 12),oo 54 (.ixA 5 52 53),oo 55 (.ld 5 true 54),oo 13 (.new [(.int .i64 0),(.int .i64 0),(.int .i64 0),(.int .i64 0),(.int .i64 0)]),
 ⟨none,none,(.st 5 13 55)⟩])
 (.seq (.seq (.ops [oo 56 (.ld 5 true 13),oo 57 (.callF 34 [56])])
 (.cnd 57
 (.seq (.ops [oo 58 (.ld 24 true 10),oo 59 (.flA 1 13),oo 60 (.ld 1 false 59),oo 61 (.mov 1),oo 62 (.ixA 1 61 (kI 0)),oo 63 (.ld 1 false 62),oo 64 (.callF 35 [58,60,63]),oo 14 (.mov 64)])
 (.seq (.ops [oo 65 (.ld 24 true 10),oo 66 (.flA 1 13),oo 67 (.ld 1 false 66),oo 68 (.mov 14),oo 70 (.mov 1),oo 71 (.slS 1 70 (some (kI 1)) none none),oo 69 (.callF 36 [65,67,68]),
 ⟨none,none,(.st 24 10 69)⟩,oo 1 (.mov 71)])
 (.seq (.seq (.ops [oo 72 (.flA 0 13),oo 73 (.ld 1 false 72),oo 74 (.bin .eql 73 (kI 5))])
 (.cnd 74
 (.ops [oo 75 (.mov 9),oo 76 (.mov 14),oo 77 (.bsl 1 [[(.int .i64 0)]] [(0,76)]),oo 78 (.apm 1 8 75 77 9),oo 9 (.mov 78)])
 .skip))
 (.exit 3))))
 .skip))
 (.seq (.ops [oo 79 (.ld 24 true 10),oo 80 (.ld 5 true 13),oo 81 (.callF 37 [79,80]),
 ⟨none,none,(.st 24 10 81)⟩])
 (.seq (.ops [oo 82 (.flA 0 13),oo 83 (.ld 1 false 82),oo 84 (.bin .eql 83 (kI 6))])
 (.cnd 84
 (.ops [oo 85 (.mov 9),oo 86 (.flA 3 13),oo 87 (.ld 1 false 86),oo 88 (.bsl 1 [[(.int .i64 0)]] [(0,87)]),oo 89 (.apm 1 8 85 88 9),oo 9 (.mov 89)])
 .skip))))))
 (.ops [oo 50 (.mov 12),oo 51 (.bin .add 50 (kI 1)),oo 12 (.mov 51)]))))))
 (.seq (.ops [oo 90 (.mov 9),oo 4 (.mov 90),oo 5 (.mov (kI 0))])
 .ret))))))))))⟩
def hint9v (P:Program):Hint:={site:=[(78,9),(89,9)],nils:=[],frz:=[],mve:=[],wr:=[78,89] }
def cv9 (c:List Int) (g:Nat):AV:=match c with
 | []=> .nsl
 | _::_=> .msl 9 g c.length 1
def cx9 (c:List Int) (g:Nat):Nat×Res:=match c with
 | []=>(0,.dead)
 | _::_=>(g,.row (c.map (AV.int .i64)))
theorem cv9_snoc (x w:Int) (r:List Int) {g:Nat}:AV.msl 9 g ((x::r).length+1) 1=cv9 (x::r++[w]) g:=by
 show _=AV.msl 9 g (x::r++[w]).length 1
 rw[len_snoc]
theorem cx9_snoc (x w:Int) (r:List Int) {g:Nat}:(g,Res.row ((x::r).map (AV.int .i64)++[[AV.int .i64 w]].flatten))=cx9 (x::r++[w]) g:=by
 show (g,Res.row (List.map _ (x::r)++[AV.int .i64 w]))=(g,Res.row (List.map _ (x::r++[w])))
 rw[List.map_append];rfl
theorem rPlayW_c (G:Gm) (ps:List Int) (hw:G.ws.length<1000) (hd:G.ds.length<1000) (hs:∀w∈G.ws,w.name.size≤1000) (h0:gmErr G=0) (X:List Int) (hX:playO G ps=(X,0)) (hall:ps∈allP (szL (stepsG G.ds) tb0.bags)):RawC Tryz.prog 9 [gmA G,.slc 1 (iR ps) .non] (sg []) (SR (fun g v=>v= .tup [.msl 9 g X.length 1,.int .i64 0]) (fun g=>[(9,(g,.row (X.map (AV.int .i64))))])):=by
 have hck:=gRefCheck_c G hw hd hs
 have hpl0:(iR ps).length=ps.length:=List.length_map _
 rw[h0] at hck
 have hG:=gm_ok h0
 have hSz:=Sizes_c G hG
 have hsb:=szL_bd tb0_in hG.ex
 have hsl:=szL_288 hG
 have hoin:=playO_in h0 (ps:=ps)
 have hszA:szL ((actsF G.ds).map spOf) tb0.bags=szL (stepsG G.ds) tb0.bags:=by rw[acts_sp,szL_nrm]
 have hplA:playS ((actsF G.ds).map spOf) bg0 ps []=playS (stepsG G.ds) bg0 ps []:=by rw[acts_sp,playS_nrm]
 obtain⟨S,hS⟩:∃S,szL (stepsG G.ds) tb0.bags=S:=⟨_,rfl⟩
 rw[hS] at hSz hsb hsl hoin hszA hall
 have hln:=(allP_mem.1 hall).1
 have hpb:=(allP_mem.1 hall).2
 have hac:=acts_c G hG.d24 hG.cnt
 have hal:=acts_len G.ds hG.cnt
 have hrun:=run_acts hG
 have hd24:=hG.d24
 obtain⟨A,hA⟩:∃A,actsF G.ds=A:=⟨_,rfl⟩
 rw[hA] at hac hal hrun hszA hplA
 refine RawC.walk (H:=hint9v Tryz.prog) ir9v Tryz.func9 rfl rfl rfl ?_
 unfold ir9v
 repeat' (first
  | with_reducible refine Rd.p ?_
  | with_reducible (first|refine zI fun y hy=>?_|refine zL ?_|refine zS ?_|refine zV ?_|refine zC ?_)
  | ((with_reducible refine aC ?_);first|(refine ACall.val hck rfl rfl ?_)|(refine ACall.val hSz rfl rfl ?_))
  | refine aX ?_|with_reducible intro _
  | with_reducible refine zJ ?_ fun y hy=>?_|refine aP ?_ ?_)
 all_goals try (exfalso;omega)
 refine w_loopK [1,2,7] [2] (fun x:List Int×List Int×List Int×List Int=>ps=x.1++x.2.1∧S=x.2.2.1++x.2.2.2∧x.1.length=x.2.2.1.length) (fun x=>x.2.1.length) (fun x=>[(8,.int .i64 (x.1.length:Int))]) (fun _=>[(9,(0,.dead))]) ([],ps,[],S) ⟨rfl,rfl,rfl⟩ ⟨rfl,trivial⟩ ⟨rfl,trivial⟩ ?_
 rintro⟨pa,ra,pb,rb⟩ ⟨h1,h2,h3⟩ e σ
 dsimp only at h1 h2 h3 ⊢
 have hn1:=congrArg List.length h1
 have hn2:=congrArg List.length h2
 rw[List.length_append] at hn1 hn2
 cases ra with
 | cons p ra=>
   cases rb with
   | nil=>exfalso;simp only[List.length_cons,List.length_nil] at hn1 hn2;omega
   | cons s rb=>
     simp only[List.length_cons] at hn1 hn2
     have h2':S=pb++s::rb:=h2
     have hg1:ps.getD pa.length 0=p:=by rw[h1];exact mid_get pa p ra
     have hg2:S.getD pa.length 0=s:=by rw[h2',h3];exact mid_get pb s rb
     have hs12:=hsb s (by rw[h2'];simp)
     have hrin:=rin_c p 0 (s-1)
     · have hp:=hpb pa.length (by omega)
       rw[hg1,hg2] at hp
       rw[show inB p 0 (s-1)=true from inB_t.2 (by omega)] at hrin
       repeat' (first
        | with_reducible refine Rd.p ?_
        | (first|refine w_ixP (f:=fun x:Int=>[AV.int .i64 x]) h1 rfl rfl ?_|refine w_ixP (f:=fun x:Int=>[AV.int .i64 x]) h2' rfl (by rw[←h3];rfl) ?_)
        | with_reducible (first|refine zI fun y hy=>?_|refine zL ?_|refine zS ?_|refine zV ?_|refine zC ?_)
        | ((with_reducible refine aC ?_);first|(refine ACall.val hrin rfl rfl ?_))
        | refine aX ?_|with_reducible intro _
        | with_reducible refine zJ ?_ fun y hy=>?_|refine aP ?_ ?_)
       all_goals first
        | (exfalso;omega)
        | exact q_loop (pa++[p],ra,pb++[s],rb) ⟨by show ps=_;rw[h1];simp,by show S=_;rw[h2'];simp,by dsimp only;rw[len_snoc,len_snoc,h3]⟩ (Nat.lt_succ_self _) ⟨by rw[len_snoc];rfl,trivial⟩ aS aK aK
 | nil=>
   simp only[List.length_nil] at hn1
   have hrb:rb=[]:=List.eq_nil_of_length_eq_zero (by omega)
   subst hrb
   obtain⟨X',hX1,hX2,hX3⟩:=hoin hall
   rw[←hplA] at hX2
   have hXX:X'=X:=by rw[hX] at hX1;exact (Prod.mk.inj hX1).1.symm
   subst hXX
   have hXn:X'≠[]:=fun h=>by
    have h1:=((crsG_mem hG).1 hX3).1.1
    have h2:=hG.cen
    rw[h] at h1
    simp at h1
    omega
   have hall2:ps∈allP (szL (A.map spOf) tb0.bags):=by rw[hszA];exact hall
   repeat' (first
    | with_reducible refine Rd.p ?_
    | with_reducible (first|refine zI fun y hy=>?_|refine zL ?_|refine zS ?_|refine zV ?_|refine zC ?_)
    | ((with_reducible refine aC ?_);first|(refine ACall.val hac rfl rfl ?_))
    | refine aX ?_|with_reducible intro _
    | with_reducible refine zJ ?_ fun y hy=>?_|refine aP ?_ ?_)
   rename_i g10
   refine w_loopK [10,11] [] (fun x:List Dl×List Dl×List Int×List Int×List Int×Nat×List Int×Int=>A=x.1++x.2.1∧playS (x.2.1.map spOf) x.2.2.1 x.2.2.2.1 x.2.2.2.2.1=some X'∧x.2.2.2.1∈allP (szL (x.2.1.map spOf) x.2.2.2.2.2.2.1)∧x.2.2.2.2.1.length≤x.1.length∧tbIn x.2.2.2.2.2.2.1 x.2.2.2.2.2.2.2∧runOK G.ws.length (x.2.1.map spOf) x.2.2.2.2.2.2.1 x.2.2.2.2.2.2.2∧bgT G.ws.length x.2.2.2.2.2.2.1 x.2.2.1) (fun x=>x.2.1.length)
    (fun x=>[(12,.int .i64 (x.1.length:Int)),(1,.slc 1 (iR x.2.2.2.1) .non),(9,cv9 x.2.2.2.2.1 x.2.2.2.2.2.1)]) (fun x=>[(10,(g10,.row (nI x.2.2.1))),(9,cx9 x.2.2.2.2.1 x.2.2.2.2.2.1)]) ([],A,bg0,ps,[],0,tb0.bags,tb0.mixed) ⟨rfl,hX2,hall2,Nat.le_refl _,tb0_in,hrun,bgT0 _⟩ ⟨rfl,rfl,rfl,trivial⟩ ⟨rfl,rfl,trivial⟩ ?_
   rintro⟨pre,post,B,qs,c,g,b,m⟩ ⟨hl,he,hq,ho,ht,hr,hB⟩ e σ
   dsimp only at hl he hq ho ht hr hB ⊢
   have hlen:=congrArg List.length hl
   rw[List.length_append] at hlen
   have hol:(iR c).length=c.length:=List.length_map _
   have hBl:=hB.l
   have hin:=hB.bgin ht
   cases post with
   | nil=>
     simp only[List.length_nil] at hlen
     have hcX:c=X':=by rw[show playS (List.map spOf []) B qs c=some c from rfl] at he;exact Option.some.inj he
     subst hcX
     cases c with
     | nil=>exact absurd rfl hXn
     | cons c0 cr=>
       repeat' (first
        | with_reducible refine Rd.p ?_
        | with_reducible (first|refine zI fun y hy=>?_|refine zL ?_|refine zS ?_|refine zV ?_|refine zC ?_)
        | refine aX ?_|with_reducible intro _
        | with_reducible refine zJ ?_ fun y hy=>?_|refine aP ?_ ?_)
       all_goals first
        | (exfalso;omega)
        | exact⟨_,rfl,rfl,trivial⟩
   | cons d post=>
     simp only[List.length_cons] at hlen
     have hx:=hr.1
     have hds:=rdraws_c d
     have hmap:(d::post).map spOf=spOf d::post.map spOf:=rfl
     rw[hmap] at he hq
     have hs2:(spOf d).2.2=(decide (d.kind=5) || decide (d.kind=6)):=rfl
     cases hdb:drawsB d with
     | true=>
       rw[hdb] at hds
       have hdp:(spOf d).2.1=true:=hdb
       have hk:d.kind=4∨d.kind=5:=by simpa[drawsB] using hdb
       obtain⟨hb,ha⟩:=hx.d hdb
       have hsz1:=hB.size hb
       have hle:=ht.le hb
       have hsm:=ht.sm
       have hm:=ht.m
       change 0≤d.bag∧d.bag≤3 at hb
       change 1≤atI b d.bag at ha
       change bgSize B d.bag=atI b d.bag at hsz1
       change atI b d.bag≤sumB b at hle
       rw[szL,if_pos hdp] at hq
       change qs∈allP (atI b d.bag::_) at hq
       cases qs with
       | nil=>have:=(allP_mem.1 hq).1;simp at this
       | cons p qs=>
         obtain⟨hp,hq2⟩:=allP_cons hq
         rw[←hsz1] at hp
         rw[playS_t hdp,if_pos (show 0≤p∧p<bgSize B (spOf d).1.bag from hp)] at he
         change playS (post.map spOf) (drawB B d.bag (pickW B d.bag p)) qs (if (spOf d).2.2=true then c++[pickW B d.bag p] else c)=some _ at he
         obtain⟨hw1,hw2⟩:=pickW_ok hp.1 hp.2
         have hs3:=rwood_c B hin d.bag p hb hp (by omega)
         have hs4:=rwithout_c B hin d.bag (pickW B d.bag p) hb hw1
         have hB2:=hB.draw ht.l hG.n6 hb hw1 hw2
         have hbe:spB (spOf d) b=setI b d.bag (atI b d.bag+ -1):=by unfold spB;rw[if_pos hdp];rfl
         rw[←hbe] at hB2
         have hdl:=hB2.l
         have hpl1:(iR (p::qs)).length=qs.length+1:=by rw[List.length_map];rfl
         by_cases h5:d.kind=5
         · rw[if_pos (show (spOf d).2.2=true by rw[hs2];simp[h5])] at he
           cases c with
           | nil=>
             repeat' (first
              | with_reducible refine Rd.p ?_
              | (first|refine w_ixP (f:=fun d:Dl=>[AV.int .i64 d.kind,.int .i64 d.bag,.int .i64 d.other,.int .i64 d.wood,.int .i64 d.count]) hl rfl rfl ?_|refine w_ldN rfl rfl hBl ?_|refine w_chkN rfl rfl hBl rfl ?_|refine w_stN rfl rfl (by rw[List.length_map];exact hBl) rfl hdl ?_|refine w_sl1 rfl ?_|refine w_ixP (f:=fun x:Int=>[AV.int .i64 x]) (l:=p::qs) (pre:=[]) (y:=p) (post:=qs) rfl rfl rfl ?_)
              | with_reducible (first|refine zI fun y hy=>?_|refine zL ?_|refine zS ?_|refine zV ?_|refine zC ?_)
              | ((with_reducible refine aC ?_);first|(refine ACall.val hds rfl rfl ?_)|(refine ACall.bg2i hs3 rfl ?_)|(refine ACall.bg2b hs4 rfl ?_))
              | refine aX ?_|with_reducible intro _
              | with_reducible refine zJ ?_ fun y hy=>?_|refine aP ?_ ?_)
             all_goals try (exfalso;omega)
             all_goals
              rename_i g5
              exact q_loop (pre++[d],post,drawB B d.bag (pickW B d.bag p),qs,[]++[pickW B d.bag p],g5,spB (spOf d) b,spM (spOf d) m) ⟨by rw[hl];simp,he,hq2,by show 1≤(pre++[d]).length;rw[len_snoc];omega,(ht.step hx).1,hr.2,hB2⟩ (Nat.lt_succ_self _) ⟨by rw[len_snoc];rfl,rfl,rfl,trivial⟩ ⟨rfl,rfl,trivial⟩ aK aK
           | cons c0 cr=>
             have hcl1:(c0::cr).length≤1000000:=by omega
             repeat' (first
              | with_reducible refine Rd.p ?_
              | (first|refine w_ixP (f:=fun d:Dl=>[AV.int .i64 d.kind,.int .i64 d.bag,.int .i64 d.other,.int .i64 d.wood,.int .i64 d.count]) hl rfl rfl ?_|refine w_ldN rfl rfl hBl ?_|refine w_chkN rfl rfl hBl rfl ?_|refine w_stN rfl rfl (by rw[List.length_map];exact hBl) rfl hdl ?_|refine w_sl1 rfl ?_|refine w_ixP (f:=fun x:Int=>[AV.int .i64 x]) (l:=p::qs) (pre:=[]) (y:=p) (post:=qs) rfl rfl rfl ?_)
              | with_reducible (first|refine zI fun y hy=>?_|refine zL ?_|refine zS ?_|refine zV ?_|refine zC ?_)
              | ((with_reducible refine aC ?_);first|(refine ACall.val hds rfl rfl ?_)|(refine ACall.bg2i hs3 rfl ?_)|(refine ACall.bg2b hs4 rfl ?_))
              | refine aX ?_|with_reducible intro _
              | with_reducible refine zJ ?_ fun y hy=>?_|refine aP ?_ ?_)
             all_goals try (exfalso;omega)
             all_goals
              rename_i g5
              exact q_loop (pre++[d],post,drawB B d.bag (pickW B d.bag p),qs,(c0::cr)++[pickW B d.bag p],g5,spB (spOf d) b,spM (spOf d) m) ⟨by rw[hl];simp,he,hq2,by dsimp only;rw[len_snoc,len_snoc];omega,(ht.step hx).1,hr.2,hB2⟩ (Nat.lt_succ_self _) ⟨by rw[len_snoc];rfl,rfl,cv9_snoc _ _ _,trivial⟩ ⟨rfl,cx9_snoc _ _ _,trivial⟩ aK aK
         · rw[if_neg (show ¬(spOf d).2.2=true by rw[hs2];simp;omega)] at he
           repeat' (first
            | with_reducible refine Rd.p ?_
            | (first|refine w_ixP (f:=fun d:Dl=>[AV.int .i64 d.kind,.int .i64 d.bag,.int .i64 d.other,.int .i64 d.wood,.int .i64 d.count]) hl rfl rfl ?_|refine w_ldN rfl rfl hBl ?_|refine w_chkN rfl rfl hBl rfl ?_|refine w_stN rfl rfl (by rw[List.length_map];exact hBl) rfl hdl ?_|refine w_sl1 rfl ?_|refine w_ixP (f:=fun x:Int=>[AV.int .i64 x]) (l:=p::qs) (pre:=[]) (y:=p) (post:=qs) rfl rfl rfl ?_)
            | with_reducible (first|refine zI fun y hy=>?_|refine zL ?_|refine zS ?_|refine zV ?_|refine zC ?_)
            | ((with_reducible refine aC ?_);first|(refine ACall.val hds rfl rfl ?_)|(refine ACall.bg2i hs3 rfl ?_)|(refine ACall.bg2b hs4 rfl ?_))
            | refine aX ?_|with_reducible intro _
            | with_reducible refine zJ ?_ fun y hy=>?_|refine aP ?_ ?_)
           all_goals first
            | (exfalso;omega)
            | exact q_loop (pre++[d],post,drawB B d.bag (pickW B d.bag p),qs,c,g,spB (spOf d) b,spM (spOf d) m) ⟨by rw[hl];simp,he,hq2,by dsimp only;rw[len_snoc];omega,(ht.step hx).1,hr.2,hB2⟩ (Nat.lt_succ_self _) ⟨by rw[len_snoc];rfl,rfl,rfl,trivial⟩ ⟨rfl,rfl,trivial⟩ aK aK
     | false=>
       rw[hdb] at hds
       have hdp:¬(spOf d).2.1=true:=by show ¬drawsB d=true;rw[hdb];decide
       have hk:¬(d.kind=4∨d.kind=5):=by simpa[drawsB] using hdb
       have hm:=ht.m
       have hn6:=hG.n6
       rw[szL,if_neg hdp] at hq
       rw[playS_f hdp] at he
       change playS (post.map spOf) (mixedB d B) qs (if (spOf d).2.2=true then c++[d.wood] else c)=some _ at he
       have hs1:=rready_c d B hin (fun h2=>by obtain⟨q1,q2,q3,q4⟩:=hx.h2 hdb h2;change 0≤d.wood∧d.wood<_ at q2;change 1≤d.count at q3;change m+d.count≤12 at q4;exact⟨q1,by omega,by omega⟩) (fun h3=>hx.h3 hdb h3)
       have hB2:=hB.mix ht.l hG.n6 hx hdb
       have hdl:(mixedB d B).length=24:=hB2.l
       by_cases h6:d.kind=6
       · rw[if_pos (show (spOf d).2.2=true by rw[hs2];simp[h6])] at he
         cases c with
         | nil=>
           repeat' (first
            | with_reducible refine Rd.p ?_
            | (first|refine w_ixP (f:=fun d:Dl=>[AV.int .i64 d.kind,.int .i64 d.bag,.int .i64 d.other,.int .i64 d.wood,.int .i64 d.count]) hl rfl rfl ?_|refine w_ldN rfl rfl hBl ?_|refine w_chkN rfl rfl hBl rfl ?_|refine w_stN rfl rfl (by rw[List.length_map];exact hBl) rfl hdl ?_)
            | with_reducible (first|refine zI fun y hy=>?_|refine zL ?_|refine zS ?_|refine zV ?_|refine zC ?_)
            | ((with_reducible refine aC ?_);first|(refine ACall.val hds rfl rfl ?_)|(refine ACall.bgbg hs1 rfl ?_))
            | refine aX ?_|with_reducible intro _
            | with_reducible refine zJ ?_ fun y hy=>?_|refine aP ?_ ?_)
           all_goals try (exfalso;omega)
           all_goals
            rename_i g5
            exact q_loop (pre++[d],post,mixedB d B,qs,[]++[d.wood],g5,spB (spOf d) b,spM (spOf d) m) ⟨by rw[hl];simp,he,hq,by show 1≤(pre++[d]).length;rw[len_snoc];omega,(ht.step hx).1,hr.2,hB2⟩ (Nat.lt_succ_self _) ⟨by rw[len_snoc];rfl,rfl,rfl,trivial⟩ ⟨rfl,rfl,trivial⟩ aK aK
         | cons c0 cr=>
           have hcl1:(c0::cr).length≤1000000:=by omega
           repeat' (first
            | with_reducible refine Rd.p ?_
            | (first|refine w_ixP (f:=fun d:Dl=>[AV.int .i64 d.kind,.int .i64 d.bag,.int .i64 d.other,.int .i64 d.wood,.int .i64 d.count]) hl rfl rfl ?_|refine w_ldN rfl rfl hBl ?_|refine w_chkN rfl rfl hBl rfl ?_|refine w_stN rfl rfl (by rw[List.length_map];exact hBl) rfl hdl ?_)
            | with_reducible (first|refine zI fun y hy=>?_|refine zL ?_|refine zS ?_|refine zV ?_|refine zC ?_)
            | ((with_reducible refine aC ?_);first|(refine ACall.val hds rfl rfl ?_)|(refine ACall.bgbg hs1 rfl ?_))
            | refine aX ?_|with_reducible intro _
            | with_reducible refine zJ ?_ fun y hy=>?_|refine aP ?_ ?_)
           all_goals try (exfalso;omega)
           all_goals
            rename_i g5
            exact q_loop (pre++[d],post,mixedB d B,qs,(c0::cr)++[d.wood],g5,spB (spOf d) b,spM (spOf d) m) ⟨by rw[hl];simp,he,hq,by dsimp only;rw[len_snoc,len_snoc];omega,(ht.step hx).1,hr.2,hB2⟩ (Nat.lt_succ_self _) ⟨by rw[len_snoc];rfl,rfl,cv9_snoc _ _ _,trivial⟩ ⟨rfl,cx9_snoc _ _ _,trivial⟩ aK aK
       · rw[if_neg (show ¬(spOf d).2.2=true by rw[hs2];simp;omega)] at he
         repeat' (first
          | with_reducible refine Rd.p ?_
          | (first|refine w_ixP (f:=fun d:Dl=>[AV.int .i64 d.kind,.int .i64 d.bag,.int .i64 d.other,.int .i64 d.wood,.int .i64 d.count]) hl rfl rfl ?_|refine w_ldN rfl rfl hBl ?_|refine w_chkN rfl rfl hBl rfl ?_|refine w_stN rfl rfl (by rw[List.length_map];exact hBl) rfl hdl ?_)
          | with_reducible (first|refine zI fun y hy=>?_|refine zL ?_|refine zS ?_|refine zV ?_|refine zC ?_)
          | ((with_reducible refine aC ?_);first|(refine ACall.val hds rfl rfl ?_)|(refine ACall.bgbg hs1 rfl ?_))
          | refine aX ?_|with_reducible intro _
          | with_reducible refine zJ ?_ fun y hy=>?_|refine aP ?_ ?_)
         all_goals first
          | (exfalso;omega)
          | exact q_loop (pre++[d],post,mixedB d B,qs,c,g,spB (spOf d) b,spM (spOf d) m) ⟨by rw[hl];simp,he,hq,by dsimp only;rw[len_snoc];omega,(ht.step hx).1,hr.2,hB2⟩ (Nat.lt_succ_self _) ⟨by rw[len_snoc];rfl,rfl,rfl,trivial⟩ ⟨rfl,rfl,trivial⟩ aK aK
end Go.Abs
set_option linter.unusedVariables false
set_option linter.unusedSimpArgs false
set_option maxRecDepth 20000
set_option maxHeartbeats 4000000
namespace Go.Abs
open Go.Proofs
def ir4:IFn:=
 ⟨191,[(8,none)],(.seq (.ops [oo 4 (.box 2 0),oo 8 (.mov (kB false))])
 (.seq (.seq (.ops [oo 31 (.ld 2 true 4),oo 32 (.callF 5 [31]),oo 33 (.mov 32),
 ⟨(some 34),(some (33,false)),(.mov 1)⟩,
 ⟨(some 35),(some (33,false)),(.len false 34)⟩,
 ⟨(some 36),(some (33,false)),(.bin .gtr 35 (kI 20))⟩,oo 37 (.pick 33 (kB true) 36),oo 38 (.mov 37),
 ⟨(some 39),(some (38,false)),(.mov 2)⟩,
 ⟨(some 40),(some (38,false)),(.len false 39)⟩,
 ⟨(some 41),(some (38,false)),(.bin .gtr 40 (kI 20))⟩,oo 42 (.pick 38 (kB true) 41)])
 (.cnd 42
 (.seq (.ops [oo 43 (.callF 6 []),oo 8 (.mov 43)])
 .ret)
 .skip))
 (.seq (.ops [oo 44 (.mov 3),oo 45 (.callF 7 [44]),oo 9 (.mov 45)])
 (.seq (.ops [oo 46 (.mov 9),oo 47 (.callF 8 [46,(kI 4),(kI 6),(kI 6)]),oo 10 (.new [.nsl,.nsl]),
 ⟨none,none,(.st 2 10 47)⟩])
 (.seq (.ops [oo 48 (.mov 9),oo 49 (.ld 2 true 10),oo 50 (.callF 10 [48,49]),oo 11 (.mov 50)])
 (.seq (.ops [oo 52 (.ld 2 true 10),oo 53 (.mov 11),oo 54 (.callF 9 [52,53]),oo 51 (.mov 54),oo 55 (.ext 0 51),oo 56 (.ext 1 51),oo 12 (.mov 55),oo 13 (.mov 56)])
 (.seq (.seq (.ops [oo 57 (.mov 9),oo 58 (.callF 21 [57,(kI 3)])])
 (.cnd 58
 (.ops [oo 59 (.mov 12),oo 60 (.mov 9),oo 61 (.mov 12),oo 62 (.len false 61),oo 64 (.mov 9),oo 65 (.flA 0 10),oo 66 (.ld 1 false 65),oo 67 (.len false 66),oo 63 (.callF 22 [60,62]),
 ⟨none,none,(.chk 1 false 65 66)⟩,oo 68 (.callF 22 [64,67]),oo 69 (.ixA 1 59 63),
 ⟨none,none,(.st 1 69 68)⟩])
 .skip))
 (.seq (.seq (.frz 12)
 (.ops [oo 70 (.ld 2 true 4),oo 71 (.ld 2 true 10),oo 72 (.ld 2 true 10),oo 73 (.bsl 2 [[.nsl,.nsl],[.nsl,.nsl],[.nsl,.nsl]] [(0,70),(1,71),(2,72)]),oo 74 (.mov 1),oo 75 (.mov 11),oo 76 (.mov 1),oo 77 (.bsl 1 [[.nsl],[.nsl],[.nsl]] [(0,74),(1,75),(2,76)]),oo 78 (.mov 2),oo 79 (.mov 12),oo 80 (.mov 2),oo 81 (.bsl 1 [[.nsl],[.nsl],[.nsl]] [(0,78),(1,79),(2,80)]),oo 14 (.mov 73),oo 15 (.mov 77),oo 16 (.mov 81)]))
 (.seq (.seq (.ops [oo 17 (.mov (kI 0))])
 (.blk 0 (.loop (.seq (.seq (.ops [oo 82 (.mov 17),oo 83 (.mov 14),oo 84 (.len false 83),oo 85 (.bin .lss 82 84)])
 (.cnd 85
 .skip
 (.exit 0)))
 (.seq (.blk 1 (.seq (.ops [⟨none,none,(.kil 18)⟩,oo 88 (.mov 14),oo 89 (.mov 17),oo 90 (.ixA 2 88 89),oo 91 (.ld 2 true 90),oo 93 (.mov 15),oo 94 (.mov 17),oo 95 (.ixA 1 93 94),oo 96 (.ld 1 false 95),oo 98 (.mov 16),oo 99 (.mov 17),oo 100 (.ixA 1 98 99),oo 101 (.ld 1 false 100),oo 92 (.callF 12 [91]),
 ⟨none,none,(.chk 1 false 95 96)⟩,
 ⟨none,none,(.chk 1 false 100 101)⟩,oo 97 (.callF 13 [96]),
 ⟨none,none,(.chk 1 false 100 101)⟩,oo 102 (.callF 13 [101]),oo 18 (.new [.nsl,.nsl]),
 ⟨none,none,(.st 2 18 92)⟩,oo 19 (.mov 97),oo 20 (.mov 102)])
 (.seq (.ops [oo 104 (.ld 2 true 18),oo 105 (.mov 19),oo 106 (.callF 23 [104,105]),oo 103 (.mov 106),oo 107 (.ext 0 103),oo 108 (.ext 1 103),oo 21 (.mov 107),oo 22 (.mov 108)])
 (.seq (.ops [oo 110 (.mov 14),oo 111 (.mov 17),oo 112 (.ixA 2 110 111),oo 113 (.ld 2 true 112),oo 114 (.mov 15),oo 115 (.mov 17),oo 116 (.ixA 1 114 115),oo 117 (.ld 1 false 116),oo 118 (.callF 9 [113,117]),oo 109 (.mov 118),oo 119 (.ext 0 109),oo 120 (.ext 1 109),oo 23 (.mov 119),oo 24 (.mov 120)])
 (.seq (.ops [oo 122 (.ld 2 true 18),oo 123 (.mov 20),oo 124 (.callF 24 [122,123]),oo 121 (.mov 124),oo 125 (.ext 0 121),oo 126 (.ext 1 121),oo 127 (.ext 2 121),oo 25 (.mov 125),oo 26 (.mov 126),oo 27 (.mov 127)])
 (.seq (.ops [oo 129 (.mov 14),oo 130 (.mov 17),oo 131 (.ixA 2 129 130),oo 132 (.ld 2 true 131),oo 133 (.mov 16),oo 134 (.mov 17),oo 135 (.ixA 1 133 134),oo 136 (.ld 1 false 135),oo 137 (.callF 25 [132,136]),oo 128 (.mov 137),oo 138 (.ext 0 128),oo 139 (.ext 1 128),oo 140 (.ext 2 128),oo 28 (.mov 138),oo 29 (.mov 139),oo 30 (.mov 140)])
 (.seq (.seq (.ops [oo 141 (.mov 22),oo 142 (.mov 24),oo 143 (.bin .neq 141 142),oo 144 (.mov 143),
 ⟨(some 145),(some (144,false)),(.mov 21)⟩,
 ⟨(some 146),(some (144,false)),(.mov 23)⟩,
 ⟨(some 147),(some (144,false)),(.callF 18 [145,146])⟩,
 ⟨(some 148),(some (144,false)),(.not 147)⟩,oo 149 (.pick 144 (kB true) 148),oo 150 (.mov 149),
 ⟨(some 151),(some (150,false)),(.mov 25)⟩,
 ⟨(some 152),(some (150,false)),(.mov 28)⟩,
 ⟨(some 153),(some (150,false)),(.bin .neq 151 152)⟩,oo 154 (.pick 150 (kB true) 153),oo 155 (.mov 154),
 ⟨(some 156),(some (155,false)),(.mov 26)⟩,
 ⟨(some 157),(some (155,false)),(.mov 29)⟩,
 ⟨(some 158),(some (155,false)),(.bin .neq 156 157)⟩,oo 159 (.pick 155 (kB true) 158),oo 160 (.mov 159),
 ⟨(some 161),(some (160,false)),(.mov 27)⟩,
 ⟨(some 162),(some (160,false)),(.mov 30)⟩,
 ⟨(some 163),(some (160,false)),(.bin .neq 161 162)⟩,oo 164 (.pick 160 (kB true) 163)])
 (.cnd 164
 (.seq (.ops [oo 8 (.mov (kB false))])
 .ret)
 .skip))
 (.seq (.ops [oo 165 (.ld 2 true 18),oo 166 (.mov 14),oo 167 (.mov 17),oo 168 (.ixA 2 166 167),oo 169 (.ld 2 true 168),oo 170 (.callF 20 [165,169]),oo 171 (.not 170),oo 172 (.mov 171),
 ⟨(some 173),(some (172,false)),(.mov 19)⟩,
 ⟨(some 174),(some (172,false)),(.mov 15)⟩,
 ⟨(some 175),(some (172,false)),(.mov 17)⟩,
 ⟨(some 176),(some (172,false)),(.ixA 1 174 175)⟩,
 ⟨(some 177),(some (172,false)),(.ld 1 false 176)⟩,
 ⟨(some 178),(some (172,false)),(.callF 18 [173,177])⟩,
 ⟨(some 179),(some (172,false)),(.not 178)⟩,oo 180 (.pick 172 (kB true) 179),oo 181 (.mov 180),
 ⟨(some 182),(some (181,false)),(.mov 20)⟩,
 ⟨(some 183),(some (181,false)),(.mov 16)⟩,
 ⟨(some 184),(some (181,false)),(.mov 17)⟩,
 ⟨(some 185),(some (181,false)),(.ixA 1 183 184)⟩,
 ⟨(some 186),(some (181,false)),(.ld 1 false 185)⟩,
 ⟨(some 187),(some (181,false)),(.callF 18 [182,186])⟩,
 ⟨(some 188),(some (181,false)),(.not 187)⟩,oo 189 (.pick 181 (kB true) 188)])
 (.cnd 189
 (.seq (.ops [oo 8 (.mov (kB false))])
 .ret)
 .skip)))))))))
 (.ops [oo 86 (.mov 17),oo 87 (.bin .add 86 (kI 1)),oo 17 (.mov 87)]))))))
 (.seq (.ops [oo 190 (.callF 6 []),oo 8 (.mov 190)])
 .ret))))))))))⟩
def hint4 (P:Program):Hint:={site:=[],nils:=[],frz:=[(81,12)],mve:=[],wr:=[] }
theorem plO_bd (G:Gm) (ps:List Int):(playO G ps).1.length≤9:=by
 by_cases h0:gmErr G=0
 · by_cases hl:ps.length=(szL (stepsG G.ds) tb0.bags).length
   · by_cases hm:ps∈allP (szL (stepsG G.ds) tb0.bags)
     · obtain⟨c,h1,_,h3⟩:=playO_in h0 hm
       have h4:=((crsG_mem (gm_ok h0)).1 h3).1.1
       have h5:=(gm_ok h0).cen
       rw[h1]
       dsimp only at h4 ⊢
       omega
     · rw[playO_out h0 hl hm];exact Nat.zero_le _
   · rw[playO_len h0 hl];exact Nat.zero_le _
 · rw[show playO G ps=([],gmErr G) from if_neg h0];exact Nat.zero_le _
theorem plO_nil (G:Gm) (ps:List Int):(playO G ps).2=0∨(playO G ps).1=[]:=by
 unfold playO
 split
 · split
   · split
     · exact .inl rfl
     · exact .inr rfl
   · exact .inr rfl
 · exact .inr rfl
structure Plq where
 g:Gm
 ps:List Int
 cs:List Int
end Go.Abs
