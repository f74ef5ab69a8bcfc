/- Contracts of the functions that this law reaches, each proved of the program's form in Lean. No condition beyond those that each contract names. -/
import Derived.Test.YtegfkfgkplnjgaaGreatProg
import Derived.Test.YtegfkfgkplnjgaaGreatSnd3
import Derived.Test.YtegfkfgkplnjgaaGreatA0
import Derived.Test.YtegfkfgkplnjgaaGreatQ1a
import Derived.Test.YtegfkfgkplnjgaaGreatQ1b
import Derived.Test.YtegfkfgkplnjgaaGreatQ1c
import Derived.Test.YtegfkfgkplnjgaaGreatQ1d
import Derived.Test.YtegfkfgkplnjgaaGreatQ1e
import Derived.Test.YtegfkfgkplnjgaaGreatQ1f
import Derived.Test.YtegfkfgkplnjgaaGreatQ1g
import Derived.Test.YtegfkfgkplnjgaaGreatQ1h
import Derived.Test.YtegfkfgkplnjgaaGreatQ1i
import Derived.Test.YtegfkfgkplnjgaaGreatQ1j
import Derived.Test.YtegfkfgkplnjgaaGreatQ1k
import Derived.Test.YtegfkfgkplnjgaaGreatQ1l
set_option linter.unusedVariables false
set_option linter.unusedSimpArgs false
set_option maxRecDepth 20000
set_option maxHeartbeats 4000000
namespace Go.Abs
open Go.RowKit
variable {P:Program}
end Go.Abs
namespace Go.Proofs.YtegfkfgkplnjgaaGreat
open Go.ChangeShapes Go.WideShapes Go.ChangeAt Go.RowKit Go.Abs
theorem open_agg {t:TypeId} {fs:Array Field} {sz:Nat} {α:Type} (T:RowOf Tryz.prog t sz α) {H:Type} {enc:TypeId×Value→H} {W:World} {base:Nat} {v:Value} {d:DataW H} {ps:List MemPlace} (ht:Tryz.prog.underlying t=some (.struct fs)) (hv:Value.okWide Tryz.prog W .any base t v) (h:DataW.Trod enc Tryz.prog W 0 (fun _=>true) true t v d ps):
  ∃x:α,Rel (GS.pure (K0 W)) (.agg (T.row x)) v:=by
 obtain⟨fuel,hf⟩:=h
 simp only[Value.okWide,ht] at hv
 obtain⟨cs,rfl,_⟩:=hv
 obtain⟨x,hx⟩:=T.read hf
 exact⟨x,cs,rfl,by rw[show cs.toList=T.vals x from hx];exact T.rel x _⟩
end Go.Proofs.YtegfkfgkplnjgaaGreat
namespace Go.Abs
theorem idxF'_neg (g:Int):∀(s:Nat) (l:List Int),idxF' g s l<0↔g∉l
 | s,[]=>by simp[idxF']
 | s,x::r=>by
   simp only[idxF',List.mem_cons,not_or]
   split
   · rename_i h
     constructor
     · intro h2;omega
     · intro h2;exact absurd h.symm h2.1
   · rename_i h
     rw[idxF'_neg g (s+1) r]
     exact⟨fun h2=>⟨fun h3=>h h3.symm,h2⟩,fun h2=>h2.2⟩
theorem idx_mem {l:List Int} {g:Int}:0≤idxI l g↔g∈l:=by
 have:=idxF'_neg g 0 l
 have h2:idxI l g=idxF' g 0 l:=rfl
 by_cases h:g∈l
 · exact⟨fun _=>h,fun _=>by have:=mt this.1 (fun hc=>hc h);omega⟩
 · exact⟨fun h3=>absurd (this.2 h) (by omega),fun h3=>absurd h3 h⟩
end Go.Abs
namespace Go.Proofs.YtegfkfgkplnjgaaGreat
open Go.ChangeShapes Go.WideShapes Go.ChangeAt Go.RowKit Go.Abs
theorem cellsAq:Tryz.prog.cellsOf 27=2:=by kernel_rfl
theorem underAq:Tryz.prog.underlying 27=Tryz.prog.underlying 26:=by kernel_rfl
def askT:RowOf Tryz.prog 27 2 Aq where
 row:=fun a=>[.int .i64 a.kind,.int .i64 a.wood]
 vals a:=[.int .i64 a.kind,.int .i64 a.wood]
 cells:=cellsAq
 len _:=rfl
 rel _ _:=⟨_,_,rfl,rfl,_,_,rfl,rfl,rfl⟩
 one x v hv:=by simp only[List.mem_cons,List.not_mem_nil,or_false] at hv;rcases hv with rfl|rfl<;>rfl
 read {H enc w base spare held fuel cs y} h:=by
  have ht:=underAq.trans Tryz.underlying26
  have hl:cs.length=2:=by obtain⟨_,_,_,_,hl,_⟩:=DataW.trod_struct ht h;rw[hl,cellsAq]
  obtain⟨a0,h0⟩:=field_int ht h 0 _ rfl Tryz.underlying3 cells3g
  obtain⟨a1,h1⟩:=field_int ht h 1 _ rfl Tryz.underlying3 cells3g
  exact⟨⟨a0,a1⟩,two2 hl h0 h1⟩
end Go.Proofs.YtegfkfgkplnjgaaGreat
namespace Go.Abs
open Go.Proofs
def crsR (n:Nat) (l:List Sp) (B:List Int):Nat→List Int→List (List Int×Int)
 | 0,c=>if cntP l c B=0 then[] else[(c,cntP l c B)]
 | k+1,c=>if cntP l c B=0 then[] else (List.range n).flatMap fun (w:Nat)=>crsR n l B k (c++[(w:Int)])
theorem flat_congr {α β:Type} {f g:α→List β}:∀{l:List α},(∀x∈l,f x=g x)→l.flatMap f=l.flatMap g
 | [],_=>rfl
 | a::r,h=>by rw[List.flatMap_cons,List.flatMap_cons,h a (by simp),flat_congr fun x hx=>h x (by simp[hx])]
theorem crsR_eq {n:Nat} (hn:n≤6) {l:List Sp} {b:List Int} {m:Int} {B:List Int} (ht:tbIn b m) (hr:runOK n l b m) (hw:wdOK n l) (hB:bgT n b B):∀(k:Nat) (c:List Int),c.length+k=censG l→(∀w∈c,0≤w∧w<n)→crsR n l B k c=((allL n k).filter fun s=>decide (0<cntG n l (c++s) B)).map fun s=>(c++s,cntG n l (c++s) B)
 | 0,c,hl,hc=>by
   have h:=cntP_sum hn ht hr hw hB (by omega) hc
   rw[show censG l-c.length=0 by omega] at h
   have h2:cntP l c B=cntG n l c B:=by
    rw[h];show cntG n l (c++[]) B+0=_;rw[List.append_nil];omega
   have h0:=cntG_nn n (run_stOK hr) c hB.nn
   rw[crsR,h2]
   show _=([[]].filter fun s=>decide (0<cntG n l (c++s) B)).map _
   by_cases e:cntG n l c B=0
   · rw[if_pos e,List.filter_cons,List.append_nil,e];rfl
   · rw[if_neg e,List.filter_cons,List.append_nil,if_pos (by simp;omega)];simp
 | k+1,c,hl,hc=>by
   have h:=cntP_sum hn ht hr hw hB (by omega) hc
   rw[show censG l-c.length=k+1 by omega] at h
   have hnn:∀s,0≤cntG n l (c++s) B:=fun s=>cntG_nn n (run_stOK hr) _ hB.nn
   rw[crsR]
   by_cases e:cntP l c B=0
   · rw[if_pos e]
     rw[e] at h
     have:((allL n (k+1)).filter fun s=>decide (0<cntG n l (c++s) B))=[]:=List.filter_eq_nil_iff.2 fun s hs=>by
      have h1:=lsum_mem (f:=fun s=>cntG n l (c++s) B) (fun s _=>hnn s) s hs
      simp;omega
     rw[this];rfl
   · rw[if_neg e,allL,List.filter_flatMap,List.map_flatMap]
     refine flat_congr fun w hwn=>?_
     have hwn:=List.mem_range.1 hwn
     rw[crsR_eq hn ht hr hw hB k (c++[(w:Int)]) (by simp;omega) (fun v hv=>by
      rcases List.mem_append.1 hv with hv | hv
      · exact hc v hv
      · rw[List.mem_singleton.1 hv];omega),List.filter_map,List.map_map]
     simp only[Function.comp_def,List.append_assoc,List.singleton_append]
theorem crsO_bd (G:Gm):(crsO G).1.length≤5000∧ ∀x∈(crsO G).1,x.1.length≤9:=by
 unfold crsO
 by_cases h0:gmErr G=0
 · rw[if_pos h0]
   by_cases h5:(crsG G).length≤5000
   · rw[if_pos h5]
     refine⟨h5,fun x hx=>?_⟩
     have hG:=gm_ok h0
     have:=((crsG_mem hG).1 hx).1.1
     have:=hG.cen
     omega
   · rw[if_neg h5]
     exact⟨Nat.zero_le _,fun x hx=>by cases hx⟩
 · rw[if_neg h0]
   exact⟨Nat.zero_le _,fun x hx=>by cases hx⟩
def ir11:IFn:=
 ⟨19,[(4,some (2,true))],(.seq (.ops [oo 3 (.box 2 1),oo 4 (.new [(.int .i64 0),(.int .i64 0)])])
 (.seq (.ops [oo 6 (.mov 0),oo 7 (.callF 31 [6,(kI 1),(kI 6)]),oo 8 (.bld [(.int .i64 0),(.int .i64 0)] [(0,1,7)]),oo 5 (.new [(.int .i64 0),(.int .i64 0)]),
 ⟨none,none,(.st 2 5 8)⟩])
 (.seq (.seq (.ops [oo 9 (.flA 0 5),oo 10 (.ld 1 false 9),oo 11 (.bin .eql 10 (kI 4))])
 (.cnd 11
 (.ops [oo 12 (.mov 0),oo 13 (.flA 0 3),oo 14 (.ld 1 false 13),oo 15 (.len false 14),oo 16 (.callF 22 [12,15]),oo 17 (.flA 1 5),
 ⟨none,none,(.st 1 17 16)⟩])
 .skip))
 (.seq (.ops [oo 18 (.ld 2 true 5),
 ⟨none,none,(.st 2 4 18)⟩])
 .ret))))⟩
def hint11 (P:Program):Hint:={}
def ir14:IFn:=
 ⟨32,[(6,none),(7,none)],(.seq (.ops [oo 3 (.box 2 0),oo 4 (.box 2 1),oo 6 (.mov (.k .nsl)),oo 7 (.mov (kI 0))])
 (.seq (.seq (.ops [oo 11 (.ld 2 true 3),oo 12 (.callF 38 [11]),oo 8 (.mov 12)])
 (.seq (.ops [oo 13 (.mov 8),oo 14 (.bin .neq 13 (kI 0))])
 (.cnd 14
 (.seq (.ops [oo 15 (.mov 8),oo 6 (.mov (.k .nsl)),oo 7 (.mov 15)])
 .ret)
 .skip)))
 (.seq (.seq (.ops [oo 16 (.ld 2 true 3),oo 17 (.ld 2 true 4),oo 18 (.callF 39 [16,17]),oo 9 (.mov 18)])
 (.seq (.ops [oo 19 (.mov 9),oo 20 (.bin .neq 19 (kI 0))])
 (.cnd 20
 (.seq (.ops [oo 21 (.mov 9),oo 6 (.mov (.k .nsl)),oo 7 (.mov 21)])
 .ret)
 .skip)))
 (.seq (.seq (.ops [oo 22 (.ld 2 true 3),oo 23 (.mov 2),oo 24 (.callF 40 [22,23]),oo 10 (.mov 24)])
 (.seq (.ops [oo 25 (.mov 10),oo 26 (.bin .neq 25 (kI 0))])
 (.cnd 26
 (.seq (.ops [oo 27 (.mov 10),oo 6 (.mov (.k .nsl)),oo 7 (.mov 27)])
 .ret)
 .skip)))
 (.seq (.ops [oo 28 (.ld 2 true 3),oo 29 (.ld 2 true 4),oo 30 (.mov 2),oo 31 (.callF 41 [28,29,30]),oo 6 (.mov 31),oo 7 (.mov (kI 0))])
 .ret)))))⟩
def hint14 (P:Program):Hint:={}
def ir51:IFn:=
 ⟨40,[(4,none)],(.seq (.ops [oo 4 (.mov (kI 0))])
 (.seq (.seq (.ops [oo 6 (.mov 0),oo 7 (.len false 6),oo 8 (.mov 1),oo 9 (.len false 8),oo 10 (.bin .neq 7 9)])
 (.cnd 10
 (.seq (.ops [oo 11 (.mov 0),oo 12 (.len false 11),oo 13 (.mov 1),oo 14 (.len false 13),oo 15 (.bin .sub 12 14),oo 4 (.mov 15)])
 .ret)
 .skip))
 (.seq (.seq (.ops [oo 5 (.mov (kI 0))])
 (.blk 0 (.loop (.seq (.seq (.ops [oo 16 (.mov 5),oo 17 (.mov 0),oo 18 (.len false 17),oo 19 (.bin .lss 16 18)])
 (.cnd 19
 .skip
 (.exit 0)))
 (.seq (.blk 1 (.seq (.seq (.ops [oo 22 (.mov 0),oo 23 (.mov 5),oo 24 (.ixA 1 22 23),oo 25 (.ld 1 false 24),oo 26 (.mov 1),oo 27 (.mov 5),oo 28 (.ixA 1 26 27),oo 29 (.ld 1 false 28),oo 30 (.bin .lss 25 29)])
 (.cnd 30
 (.seq (.ops [oo 4 (.mov (.k (.int .i64 (-1))))])
 .ret)
 .skip))
 (.seq (.ops [oo 31 (.mov 0),oo 32 (.mov 5),oo 33 (.ixA 1 31 32),oo 34 (.ld 1 false 33),oo 35 (.mov 1),oo 36 (.mov 5),oo 37 (.ixA 1 35 36),oo 38 (.ld 1 false 37),oo 39 (.bin .gtr 34 38)])
 (.cnd 39
 (.seq (.ops [oo 4 (.mov (kI 1))])
 .ret)
 .skip))))
 (.ops [oo 20 (.mov 5),oo 21 (.bin .add 20 (kI 1)),oo 5 (.mov 21)]))))))
 (.seq (.ops [oo 4 (.mov (kI 0))])
 .ret))))⟩
def hint51 (P:Program):Hint:={}
def ir93:IFn:=
 ⟨68,[],(.seq (.ops [oo 6 (.mov 0),oo 7 (.nck 6),oo 8 (.flA 2 7),oo 9 (.ld 1 false 8),oo 10 (.bld [z0,z0,z0,z0,z0,z0,z0,z0,z0,z0,z0,z0,z0,z0,z0,z0,z0,z0,z0,z0,z0,z0,z0,z0] []),oo 11 (.mov 1),oo 12 (.callF 60 [9,10,11]),oo 4 (.mov 12)])
 (.seq (.seq (.ops [oo 13 (.mov 4),oo 14 (.bin .eql 13 (kI 0)),oo 15 (.mov 14),
 ⟨(some 16),(some (15,false)),(.mov 0)⟩,
 ⟨(some 17),(some (15,false)),(.nck 16)⟩,
 ⟨(some 18),(some (15,false)),(.flA 4 17)⟩,
 ⟨(some 19),(some (15,false)),(.ld 1 false 18)⟩,
 ⟨(some 20),(some (15,false)),(.len false 19)⟩,
 ⟨(some 21),(some (15,false)),(.bin .gtr 20 (kI 5000))⟩,oo 22 (.pick 15 (kB true) 21)])
 (.cnd 22
 .ret
 .skip))
 (.seq (.seq (.ops [oo 23 (.mov 1),oo 24 (.len false 23),oo 25 (.mov 0),oo 26 (.nck 25),oo 27 (.flA 3 26),oo 28 (.ld 1 false 27),oo 29 (.bin .eql 24 28)])
 (.cnd 29
 (.seq (.ops [oo 30 (.mov 0),oo 31 (.mov 0),oo 32 (.mov 0),oo 33 (.nck 32),oo 34 (.flA 4 33),oo 35 (.ld 1 false 34),oo 36 (.mov 1),oo 37 (.bsl 1 [[.nsl]] [(0,36)]),oo 39 (.mov 0),oo 40 (.nck 39),oo 41 (.flA 5 40),oo 42 (.ld 1 false 41),oo 43 (.mov 4),oo 44 (.bsl 1 [[(.int .i64 0)]] [(0,43)]),oo 38 (.app 1 24 35 37 1001),
 ⟨none,none,(.chk 1 false 41 42)⟩,oo 45 (.app 1 8 42 44 1002),oo 46 (.nck 30),oo 47 (.flA 4 46),
 ⟨none,none,(.st 1 47 38)⟩,oo 48 (.nck 31),oo 49 (.flA 5 48),
 ⟨none,none,(.st 1 49 45)⟩])
 .ret)
 .skip))
 (.seq (.ops [oo 5 (.mov (kI 0))])
 (.blk 0 (.loop (.seq (.seq (.ops [oo 50 (.mov 5),oo 51 (.mov 0),oo 52 (.nck 51),oo 53 (.flA 0 52),oo 54 (.flA 0 53),oo 55 (.ld 1 false 54),oo 56 (.len false 55),oo 57 (.bin .lss 50 56)])
 (.cnd 57
 .skip
 (.exit 0)))
 (.seq (.blk 1 (.ops [oo 60 (.mov 0),oo 61 (.bsl 1 [] []),oo 62 (.mov 1),oo 63 (.app 1 8 61 62 63),oo 64 (.mov 5),oo 65 (.bsl 1 [[(.int .i64 0)]] [(0,64)]),oo 66 (.app 1 8 63 65 66),oo 67 (.callF 93 [60,66])]))
 (.ops [oo 58 (.mov 5),oo 59 (.bin .add 58 (kI 1)),oo 5 (.mov 59)])))))))))⟩
def hint93 (P:Program):Hint:={site:=[(38,1001),(45,1002)],nils:=[],frz:=[],mve:=[],wr:=[] }
def goO (n:Nat) (A:List Dl) (k:Nat) (c:List Int) (l:List (List Int×Int)):List (List Int×Int):=l++(crsR n (A.map spOf) bg0 k c).take (5001-l.length)
theorem goO_over {n:Nat} {A:List Dl} {k:Nat} {c:List Int} {l:List (List Int×Int)} (h:5000<l.length):goO n A k c l=l:=by
 unfold goO
 rw[show 5001-l.length=0 by omega,List.take_zero,List.append_nil]
theorem goO_zero {n:Nat} {A:List Dl} {c:List Int} {l:List (List Int×Int)} (k:Nat) (h:cntP (A.map spOf) c bg0=0):goO n A k c l=l:=by
 unfold goO
 cases k<;>rw[crsR,if_pos h,List.take_nil,List.append_nil]
theorem goO_leaf {n:Nat} {A:List Dl} {c:List Int} {l:List (List Int×Int)} (h:¬cntP (A.map spOf) c bg0=0) (hl:¬5000<l.length):goO n A 0 c l=l++[(c,cntP (A.map spOf) c bg0)]:=by
 unfold goO
 rw[crsR,if_neg h,List.take_of_length_le (by show 1≤_;omega)]
def goF (n:Nat) (A:List Dl) (k:Nat) (c:List Int) (v:Nat) (l:List (List Int×Int)):List (List Int×Int):=l++((List.range v).flatMap fun (w:Nat)=>crsR n (A.map spOf) bg0 k (c++[(w:Int)])).take (5001-l.length)
theorem take_glue {α:Type} (X Y:List α) (m:Nat):X.take m++Y.take (m-(X.take m).length)=(X++Y).take m:=by
 rw[List.take_append,List.length_take]
 congr 2
 omega
theorem goF_step (n:Nat) (A:List Dl) (k:Nat) (c:List Int) (v:Nat) (l:List (List Int×Int)):goO n A k (c++[(v:Int)]) (goF n A k c v l)=goF n A k c (v+1) l:=by
 unfold goO goF
 rw[List.length_append,Nat.sub_add_eq,List.append_assoc,take_glue,List.range_succ,List.flatMap_append,List.flatMap_cons,List.flatMap_nil,List.append_nil]
theorem goF_all {n:Nat} {A:List Dl} {k:Nat} {c:List Int} {l:List (List Int×Int)} (h:¬cntP (A.map spOf) c bg0=0):goF n A k c n l=goO n A (k+1) c l:=by
 unfold goO goF
 rw[crsR,if_neg h]
theorem goOn0 (G:Gm) (A:List Dl) (b:List Int) (m:Int) (H:goH G A b m) (c:List Int) (hc:c.length<1000) (l:List (List Int×Int)) (hl:l.length<6000) (g h1 h2:Nat):
  RawC Tryz.prog 93 [.ref 1000 g 0,.slc 1 (iR c) .non] (sg (soS 1001 g G A (c.length:Int) l h1 h2)) (SR (fun (x:List (List Int×Int)×Nat×Nat) _=>x.1=goO G.ws.length A 0 c l) (fun x=>soS 1001 g G A (c.length:Int) x.1 x.2.1 x.2.2)):=by
 have hcn:=H.cnt (.inr rfl) hc
 have hcl:(iR c).length=c.length:=List.length_map _
 by_cases h0:cntP (A.map spOf) c bg0=0
 · rw[goO_zero 0 h0]
   rw[h0] at hcn
   refine RawC.walk (H:=hint93 Tryz.prog) ir93 Tryz.func93 rfl rfl rfl ?_
   unfold ir93
   repeat' (first
    | with_reducible refine Rd.p ?_
    | with_reducible (first|refine zI fun y hy=>?_|refine zL ?_|refine zS ?_|refine zV ?_|refine zC ?_)
    | ((with_reducible refine aC ?_);first|(refine ACall.cnt hcn rfl rfl ?_))
    | refine aX ?_|with_reducible intro _
    | with_reducible refine zJ ?_ fun y hy=>?_|refine aP ?_ ?_)
   all_goals first
    | (exfalso;omega)
    | exact⟨(l,h1,h2),rfl,rfl,rfl,rfl,trivial⟩
 obtain⟨N,hN⟩:∃N,cntP (A.map spOf) c bg0=N:=⟨_,rfl⟩
 rw[hN] at hcn
 have h0':¬N=0:=by rw[←hN];exact h0
 cases l with
 | nil=>
   rw[goO_leaf h0 (by simp),hN]
   refine RawC.walk (H:=hint93 Tryz.prog) ir93 Tryz.func93 rfl rfl rfl ?_
   unfold ir93
   repeat' (first
    | with_reducible refine Rd.p ?_
    | with_reducible (first|refine zI fun y hy=>?_|refine zL ?_|refine zS ?_|refine zV ?_|refine zC ?_)
    | ((with_reducible refine aC ?_);first|(refine ACall.cnt hcn rfl rfl ?_))
    | refine aX ?_|with_reducible intro _
    | with_reducible refine zJ ?_ fun y hy=>?_|refine aP ?_ ?_)
   all_goals try (exfalso;omega)
   rename_i k1 k2
   exact⟨([(c,N)],k1,k2),rfl,rfl,rfl,rfl,trivial⟩
 | cons x l=>
   have hl1:((x::l).map (·.1)).length=(x::l).length:=List.length_map _
   have hl2:((x::l).map (·.2)).length=(x::l).length:=List.length_map _
   by_cases h5:5000<(x::l).length
   · rw[goO_over h5]
     refine RawC.walk (H:=hint93 Tryz.prog) ir93 Tryz.func93 rfl rfl rfl ?_
     unfold ir93
     repeat' (first
      | with_reducible refine Rd.p ?_
      | with_reducible (first|refine zI fun y hy=>?_|refine zL ?_|refine zS ?_|refine zV ?_|refine zC ?_)
      | ((with_reducible refine aC ?_);first|(refine ACall.cnt hcn rfl rfl ?_))
      | refine aX ?_|with_reducible intro _
      | with_reducible refine zJ ?_ fun y hy=>?_|refine aP ?_ ?_)
     all_goals first
      | (exfalso;omega)
      | exact⟨(x::l,h1,h2),rfl,rfl,rfl,rfl,trivial⟩
   · rw[goO_leaf h0 h5,hN]
     refine RawC.walk (H:=hint93 Tryz.prog) ir93 Tryz.func93 rfl rfl rfl ?_
     unfold ir93
     repeat' (first
      | with_reducible refine Rd.p ?_
      | with_reducible (first|refine zI fun y hy=>?_|refine zL ?_|refine zS ?_|refine zV ?_|refine zC ?_)
      | ((with_reducible refine aC ?_);first|(refine ACall.cnt hcn rfl rfl ?_))
      | refine aX ?_|with_reducible intro _
      | with_reducible refine zJ ?_ fun y hy=>?_|refine aP ?_ ?_)
     all_goals try (exfalso;omega)
     rename_i k1 k2
     have e1:llR ((x::l).map (·.1)++[c])=llR ((x::l++[(c,N)]).map (·.1)):=by simp
     have e2:iR ((x::l).map (·.2)++[N])=iR ((x::l++[(c,N)]).map (·.2)):=by simp
     exact⟨(x::l++[(c,N)],k1,k2),rfl,by
      show (g,Res.row (soR G A (c.length:Int) (.slc 1 (llR ((x::l).map (·.1)++[c])) (.own 1001 k1)) (.slc 1 (iR ((x::l).map (·.2)++[N])) (.own 1002 k2))))=_
      rw[e1,e2];rfl,rfl,rfl,trivial⟩
theorem goOn1 (G:Gm) (A:List Dl) (b:List Int) (m:Int) (H:goH G A b m):∀(k:Nat) (c:List Int) (a:AV),CV a c→c.length+(k+1)<1000→ ∀(l:List (List Int×Int)),l.length<6000→ ∀(g h1 h2:Nat),
  RawC Tryz.prog 93 [.ref 1000 g 0,a] (sg (soS 2001 g G A ((c.length+(k+1):Nat):Int) l h1 h2)) (SR (fun (x:List (List Int×Int)×Nat×Nat) _=>x.1=goO G.ws.length A (k+1) c l) (fun x=>soS 2001 g G A ((c.length+(k+1):Nat):Int) x.1 x.2.1 x.2.2))
 | k,c,a,ha,hc,l,hl,g,h1,h2=>by
   have hcn:=H.cnt ha (by omega)
   have hcl:(iR c).length=c.length:=List.length_map _
   have hn6:=H.n6
   have hwl:(wR G.ws).length=G.ws.length:=List.length_map _
   obtain⟨M,hM⟩:∃M,c.length+(k+1)=M:=⟨_,rfl⟩
   rw[hM] at hc ⊢
   by_cases h0:cntP (A.map spOf) c bg0=0
   · rw[goO_zero (k+1) h0]
     rw[h0] at hcn
     rcases ha with⟨rfl,rfl⟩|rfl
     all_goals
      refine RawC.walk (H:=hint93 Tryz.prog) ir93 Tryz.func93 rfl rfl rfl ?_
      unfold ir93
      repeat' (first
       | with_reducible refine Rd.p ?_
       | with_reducible (first|refine zL ?_|refine zS ?_|refine zV ?_|refine zC ?_)
       | ((with_reducible refine aC ?_);first|(refine ACall.cnt hcn rfl rfl ?_))
       | refine aX ?_|with_reducible intro _
       | refine aP ?_ ?_)
      all_goals first
       | (exfalso;omega)
       | exact⟨(l,h1,h2),rfl,rfl,rfl,rfl,trivial⟩
   obtain⟨N,hN⟩:∃N,cntP (A.map spOf) c bg0=N:=⟨_,rfl⟩
   rw[hN] at hcn
   have h0':¬N=0:=by rw[←hN];exact h0
   by_cases h5:5000<l.length
   · rw[goO_over h5]
     cases l with
     | nil=>simp at h5
     | cons x l=>
       have hl1:((x::l).map (·.1)).length=(x::l).length:=List.length_map _
       rcases ha with⟨rfl,rfl⟩|rfl
       all_goals
        refine RawC.walk (H:=hint93 Tryz.prog) ir93 Tryz.func93 rfl rfl rfl ?_
        unfold ir93
        repeat' (first
         | with_reducible refine Rd.p ?_
         | with_reducible (first|refine zL ?_|refine zS ?_|refine zV ?_|refine zC ?_)
         | ((with_reducible refine aC ?_);first|(refine ACall.cnt hcn rfl rfl ?_))
         | refine aX ?_|with_reducible intro _
         | refine aP ?_ ?_)
        all_goals first
         | (exfalso;omega)
         | exact⟨(x::l,h1,h2),rfl,rfl,rfl,rfl,trivial⟩
   rw[←goF_all h0]
   have hF0:goF G.ws.length A k c 0 l=l:=by unfold goF;simp
   have hFl:∀v,(goF G.ws.length A k c v l).length<6000:=fun v=>by
    unfold goF
    rw[List.length_append,List.length_take];omega
   have hstep:=goF_step G.ws.length A k c
   have hlp:∀(v:Nat),v<G.ws.length→ ∀(k1 k2:Nat) (σ:Sig) (d:Nat) (t:Tag) (Q:AV→Sig→Prop),renT (flipL [(1000,1000),(2001,2001),(2002,2002)]) t= .non→renT (flipL [(1000,1000)]) t= .non→renT (flipL [(1000,1000),(1001,2001),(1002,2002)]) t= .non→σ 1000=(g,.row (soR G A (M:Int) (goV 2001 (goF G.ws.length A k c v l) k1) (goW 2002 (goF G.ws.length A k c v l) k2)))→σ 2001=goX (goF G.ws.length A k c v l) k1→σ 2002=goX (goF G.ws.length A k c v l) k2→
     (∀(k1 k2:Nat) av,Q av (upd (upd (upd σ 2002 (goX (goF G.ws.length A k c (v+1) l) k2)) 2001 (goX (goF G.ws.length A k c (v+1) l) k1)) 1000 (g,.row (soR G A (M:Int) (goV 2001 (goF G.ws.length A k c (v+1) l) k1) (goW 2002 (goF G.ws.length A k c (v+1) l) k2)))))→
     ACall Tryz.prog 93 [.ref 1000 g 0,.slc 1 (iR (c++[(v:Int)])) t] σ d Q:=fun v hv k1 k2 σ d t Q ht1 ht2 ht3 q1 q2 q3 hQ=>by
    have hlen:(c++[(v:Int)]).length=c.length+1:=by simp
    have ha1:[AV.ref 1000 g 0,.slc 1 (iR (c++[(v:Int)])) .non]=renL (flipL [(1000,1000)]) [.ref 1000 g 0,.slc 1 (iR (c++[(v:Int)])) t]:=by
     show _=[AV.ref 1000 g 0,.slc 1 (iR (c++[(v:Int)])) (renT (flipL [(1000,1000)]) t)]
     rw[ht2]
    have ha2:[AV.ref 1000 g 0,.slc 1 (iR (c++[(v:Int)])) .non]=renL (flipL [(1000,1000),(2001,2001),(2002,2002)]) [.ref 1000 g 0,.slc 1 (iR (c++[(v:Int)])) t]:=by
     show _=[AV.ref 1000 g 0,.slc 1 (iR (c++[(v:Int)])) (renT (flipL [(1000,1000),(2001,2001),(2002,2002)]) t)]
     rw[ht1]
    cases k with
    | zero=>
      have ih:=goOn0 G A b m H (c++[(v:Int)]) (by omega) (goF G.ws.length A 0 c v l) (hFl v) g k1 k2
      rw[goF_step,show (((c++[(v:Int)]).length:Nat):Int)=(M:Int) by omega] at ih
      refine ACall.so (C:=fun x=>x=goF G.ws.length A 0 c (v+1) l) (s0:=1001) ih (by decide) (by decide) rfl rfl rfl rfl rfl rfl rfl rfl rfl rfl rfl ha1 ?_ q1 q2 q3 ?_
      · show _=[AV.ref 1000 g 0,.slc 1 (iR (c++[(v:Int)])) (renT (flipL [(1000,1000),(1001,2001),(1002,2002)]) t)]
        rw[ht3]
      · rintro _ k1 k2 av rfl
        exact hQ k1 k2 av
    | succ k=>
      have ih:=goOn1 G A b m H k (c++[(v:Int)]) (.slc 1 (iR (c++[(v:Int)])) .non) (.inr rfl) (by omega) (goF G.ws.length A (k+1) c v l) (hFl v) g k1 k2
      rw[goF_step,show (((c++[(v:Int)]).length+(k+1):Nat):Int)=(M:Int) by omega] at ih
      refine ACall.so (C:=fun x=>x=goF G.ws.length A (k+1) c (v+1) l) (s0:=2001) ih (by decide) (by decide) rfl rfl rfl rfl rfl rfl rfl rfl rfl rfl rfl ha1 ha2 q1 q2 q3 ?_
      rintro _ k1 k2 av rfl
      exact hQ k1 k2 av
   obtain⟨F,hF⟩:∃F:Nat→List (List Int×Int),(fun v=>goF G.ws.length A k c v l)=F:=⟨_,rfl⟩
   have hFv:∀v,goF G.ws.length A k c v l=F v:=fun v=>by rw[←hF]
   simp only[hFv] at hlp hF0 ⊢
   clear hstep hFl hFv hF
   cases l with
   | nil=>
     rcases ha with⟨rfl,rfl⟩|rfl
     all_goals
      refine RawC.walk (H:=hint93 Tryz.prog) ir93 Tryz.func93 rfl rfl rfl ?_
      unfold ir93
      repeat' (first
       | with_reducible refine Rd.p ?_
       | with_reducible (first|refine zL ?_|refine zS ?_|refine zV ?_|refine zC ?_)
       | ((with_reducible refine aC ?_);first|(refine ACall.cnt hcn rfl rfl ?_))
       | refine aX ?_|with_reducible intro _
       | refine aP ?_ ?_)
      all_goals try (exfalso;omega)
      refine w_loopK [0,1] [] (fun x:Nat×Nat×Nat=>x.1≤G.ws.length) (fun x=>G.ws.length-x.1) (fun x=>[(5,.int .i64 (x.1:Int))]) (fun x=>[(1000,(g,.row (soR G A (M:Int) (goV 2001 (F x.1) x.2.1) (goW 2002 (F x.1) x.2.2)))),(2001,goX (F x.1) x.2.1),(2002,goX (F x.1) x.2.2)]) (0,h1,h2) (Nat.zero_le _) ⟨rfl,trivial⟩ ⟨by rw[hF0];rfl,by rw[hF0];rfl,by rw[hF0];rfl,trivial⟩ ?_
      rintro⟨v,k1,k2⟩ hv e σ
      dsimp only at hv ⊢
      by_cases hvn:v=G.ws.length
      · subst hvn
        repeat' (first
         | with_reducible refine Rd.p ?_
         | with_reducible (first|refine zL ?_|refine zS ?_|refine zV ?_|refine zC ?_)
         | refine aX ?_|with_reducible intro _
         | refine aP ?_ ?_)
        all_goals first
         | (exfalso;omega)
         | exact⟨(F G.ws.length,k1,k2),rfl,rfl,rfl,rfl,trivial⟩
      · repeat' (first
         | with_reducible refine Rd.p ?_
         | with_reducible (first|refine zL ?_|refine zS ?_|refine zV ?_|refine zC ?_)
         | ((with_reducible refine aC ?_);first|((refine hlp v (by omega) _ _ _ _ _ _ rfl rfl rfl rfl rfl rfl ?_;intro k3 k4 av)))
         | refine aX ?_|with_reducible intro _
         | refine aP ?_ ?_)
        all_goals first
         | (exfalso;omega)
         | exact q_loop (v+1,k3,k4) (by show v+1≤_;omega) (by show _-(v+1)<_-v;omega) ⟨int_eq (by simp),trivial⟩ aS aK aK
   | cons x l=>
     have hl1:((x::l).map (·.1)).length=(x::l).length:=List.length_map _
     rcases ha with⟨rfl,rfl⟩|rfl
     all_goals
      refine RawC.walk (H:=hint93 Tryz.prog) ir93 Tryz.func93 rfl rfl rfl ?_
      unfold ir93
      repeat' (first
       | with_reducible refine Rd.p ?_
       | with_reducible (first|refine zL ?_|refine zS ?_|refine zV ?_|refine zC ?_)
       | ((with_reducible refine aC ?_);first|(refine ACall.cnt hcn rfl rfl ?_))
       | refine aX ?_|with_reducible intro _
       | refine aP ?_ ?_)
      all_goals try (exfalso;omega)
      refine w_loopK [0,1] [] (fun x:Nat×Nat×Nat=>x.1≤G.ws.length) (fun x=>G.ws.length-x.1) (fun x=>[(5,.int .i64 (x.1:Int))]) (fun x=>[(1000,(g,.row (soR G A (M:Int) (goV 2001 (F x.1) x.2.1) (goW 2002 (F x.1) x.2.2)))),(2001,goX (F x.1) x.2.1),(2002,goX (F x.1) x.2.2)]) (0,h1,h2) (Nat.zero_le _) ⟨rfl,trivial⟩ ⟨by rw[hF0];rfl,by rw[hF0];rfl,by rw[hF0];rfl,trivial⟩ ?_
      rintro⟨v,k1,k2⟩ hv e σ
      dsimp only at hv ⊢
      by_cases hvn:v=G.ws.length
      · subst hvn
        repeat' (first
         | with_reducible refine Rd.p ?_
         | with_reducible (first|refine zL ?_|refine zS ?_|refine zV ?_|refine zC ?_)
         | refine aX ?_|with_reducible intro _
         | refine aP ?_ ?_)
        all_goals first
         | (exfalso;omega)
         | exact⟨(F G.ws.length,k1,k2),rfl,rfl,rfl,rfl,trivial⟩
      · repeat' (first
         | with_reducible refine Rd.p ?_
         | with_reducible (first|refine zL ?_|refine zS ?_|refine zV ?_|refine zC ?_)
         | ((with_reducible refine aC ?_);first|((refine hlp v (by omega) _ _ _ _ _ _ rfl rfl rfl rfl rfl rfl ?_;intro k3 k4 av)))
         | refine aX ?_|with_reducible intro _
         | refine aP ?_ ?_)
        all_goals first
         | (exfalso;omega)
         | exact q_loop (v+1,k3,k4) (by show v+1≤_;omega) (by show _-(v+1)<_-v;omega) ⟨int_eq (by simp),trivial⟩ aS aK aK
def ir50:IFn:=
 ⟨35,[(2,none),(3,none),(4,none)],(.seq (.ops [oo 1 (.box 2 0),oo 2 (.mov (.k .nsl)),oo 3 (.mov (.k .nsl)),oo 4 (.mov (kI 0))])
 (.seq (.seq (.ops [oo 7 (.ld 2 true 1),oo 8 (.callF 26 [7]),oo 5 (.mov 8)])
 (.seq (.ops [oo 9 (.mov 5),oo 10 (.bin .neq 9 (kI 0))])
 (.cnd 10
 (.seq (.ops [oo 11 (.mov 5),oo 2 (.mov (.k .nsl)),oo 3 (.mov (.k .nsl)),oo 4 (.mov 11)])
 .ret)
 .skip)))
 (.seq (.ops [oo 12 (.ld 2 true 1),oo 13 (.ld 2 true 1),oo 15 (.ld 2 true 1),oo 14 (.callF 33 [13]),
 ⟨none,none,(.chk 2 true 1 12)⟩,
 ⟨none,none,(.chk 2 true 1 15)⟩,oo 16 (.callF 81 [15]),
 ⟨none,none,(.chk 2 true 1 12)⟩,oo 17 (.bld [.nsl,.nsl,.nsl,(.int .i64 0),.nsl,.nsl] [(0,2,12),(2,1,14),(3,1,16)]),oo 18 (.box 6 17),oo 6 (.mov 18)])
 (.seq (.ops [oo 19 (.mov 6),oo 20 (.callF 93 [19,(.k .nsl)])])
 (.seq (.seq (.ops [oo 21 (.mov 6),oo 22 (.nck 21),oo 23 (.flA 4 22),oo 24 (.ld 1 false 23),oo 25 (.len false 24),oo 26 (.bin .gtr 25 (kI 5000))])
 (.cnd 26
 (.seq (.ops [oo 2 (.mov (.k .nsl)),oo 3 (.mov (.k .nsl)),oo 4 (.mov (kI 8))])
 .ret)
 .skip))
 (.seq (.ops [oo 27 (.mov 6),oo 28 (.nck 27),oo 29 (.flA 4 28),oo 30 (.ld 1 false 29),oo 31 (.mov 6),oo 32 (.nck 31),oo 33 (.flA 5 32),oo 34 (.ld 1 false 33),oo 2 (.mov 30),oo 3 (.mov 34),oo 4 (.mov (kI 0))])
 .ret))))))⟩
def hint50 (P:Program):Hint:={}
theorem crsR_crsG {G:Gm} (h:GOK G):crsR G.ws.length ((actsF G.ds).map spOf) bg0 (censG (stepsG G.ds)) []=crsG G:=by
 rw[acts_sp,crsR_eq h.n6 tb0_in (runOK_nrm h.ex) (wdOK_nrm h.wd) (bgT0 _) (censG (stepsG G.ds)) [] (by rw[censG_nrm];simp) (by simp),crsG_list h]
 simp only[List.nil_append,cntG_nrm]
 rfl
theorem rCourses_c (G:Gm) (hw:G.ws.length<1000) (hd:G.ds.length<1000) (hs:∀w∈G.ws,w.name.size≤1000):Fn0 Tryz.prog 50 [gmA G] (fun v=>v=crsA (crsO G).1 (crsO G).2):=by
 have hck:=gRefCheck_c G hw hd hs
 obtain⟨B,hB⟩:∃B,crsO G=B:=⟨_,rfl⟩
 rw[hB]
 unfold crsO at hB
 by_cases h0:gmErr G=0
 rotate_left
 · rw[if_neg h0] at hB
   subst hB
   refine RawC.walk (H:=hint50 Tryz.prog) ir50 Tryz.func50 rfl rfl rfl ?_
   unfold ir50
   repeat' (first
    | with_reducible refine Rd.p ?_
    | with_reducible (first|refine zL ?_|refine zS ?_|refine zV ?_|refine zC ?_)
    | ((with_reducible refine aC ?_);first|(refine ACall.val hck rfl rfl ?_))
    | refine aX ?_|with_reducible intro _
    | refine aP ?_ ?_)
   all_goals first
    | (exfalso;omega)
    | (simp;done)
    | rfl
 rw[if_pos h0] at hB
 have hG:=gm_ok h0
 rw[h0] at hck
 have hac:=acts_c G hG.d24 hG.cnt
 have hcen:=Censers_c G hG.d24 hG.cnt
 have hal:=acts_len G.ds hG.cnt
 have hd24:=hG.d24
 have hcs:=crsR_crsG hG
 obtain⟨k,hk⟩:∃k,censG (stepsG G.ds)=([]:List Int).length+(k+1):=⟨censG (stepsG G.ds)-1,by have:=hG.cen;simp;omega⟩
 have hc9:=hG.cen.2
 rw[hk] at hcen hcs hc9
 have H:goH G (actsF G.ds) tb0.bags tb0.mixed:=⟨hG.n6,tb0_in,run_acts hG,bgT0 _,by omega⟩
 have hgo:=fun g=>goOn1 G (actsF G.ds) tb0.bags tb0.mixed H k [] .nsl (.inl ⟨rfl,rfl⟩) (by omega) [] (by simp) g 0 0
 have hX:goO G.ws.length (actsF G.ds) (k+1) [] []=(crsG G).take 5001:=by
  unfold goO
  rw[←hcs]
  show[]++_=_
  rw[List.nil_append,show ([]:List Int).length+(k+1)=k+1 by simp];rfl
 rw[hX] at hgo
 obtain⟨X,hX2⟩:∃X,(crsG G).take 5001=X:=⟨_,rfl⟩
 rw[hX2] at hgo
 have hXl:=congrArg List.length hX2
 rw[List.length_take] at hXl
 by_cases h5:(crsG G).length≤5000
 · rw[if_pos h5] at hB
   rw[List.take_of_length_le (by omega)] at hX2
   rw[hX2] at hB
   subst hB
   cases X with
   | nil=>
     refine RawC.walk (H:=hint50 Tryz.prog) ir50 Tryz.func50 rfl rfl rfl ?_
     unfold ir50
     repeat' (first
      | with_reducible refine Rd.p ?_
      | with_reducible (first|refine zL ?_|refine zS ?_|refine zV ?_|refine zC ?_)
      | ((with_reducible refine aC ?_);first|(refine ACall.val hck rfl rfl ?_)|(refine ACall.val hac rfl rfl ?_)|(refine ACall.val hcen rfl rfl ?_)|((refine ACall.so (C:=fun y=>y=[]) (p:=18) (s0:=2001) (hgo _) (by decide) (by decide) rfl rfl rfl rfl rfl rfl rfl rfl rfl rfl rfl rfl rfl rfl rfl rfl ?_;rintro _ k1 k2 av rfl)))
      | refine aX ?_|with_reducible intro _
      | refine aP ?_ ?_)
     all_goals first
      | (exfalso;omega)
      | (simp;done)
      | rfl
   | cons x l=>
     have hl1:((x::l).map (·.1)).length=(x::l).length:=List.length_map _
     refine RawC.walk (H:=hint50 Tryz.prog) ir50 Tryz.func50 rfl rfl rfl ?_
     unfold ir50
     repeat' (first
      | with_reducible refine Rd.p ?_
      | with_reducible (first|refine zL ?_|refine zS ?_|refine zV ?_|refine zC ?_)
      | ((with_reducible refine aC ?_);first|(refine ACall.val hck rfl rfl ?_)|(refine ACall.val hac rfl rfl ?_)|(refine ACall.val hcen rfl rfl ?_)|((refine ACall.so (C:=fun y=>y=x::l) (p:=18) (s0:=2001) (hgo _) (by decide) (by decide) rfl rfl rfl rfl rfl rfl rfl rfl rfl rfl rfl rfl rfl rfl rfl rfl ?_;rintro _ k1 k2 av rfl)))
      | refine aX ?_|with_reducible intro _
      | refine aP ?_ ?_)
     all_goals first
      | (exfalso;omega)
      | (simp;done)
      | rfl
 · rw[if_neg h5] at hB
   subst hB
   cases X with
   | nil=>rw[List.length_nil] at hXl;omega
   | cons x l=>
     have hl1:((x::l).map (·.1)).length=(x::l).length:=List.length_map _
     refine RawC.walk (H:=hint50 Tryz.prog) ir50 Tryz.func50 rfl rfl rfl ?_
     unfold ir50
     repeat' (first
      | with_reducible refine Rd.p ?_
      | with_reducible (first|refine zL ?_|refine zS ?_|refine zV ?_|refine zC ?_)
      | ((with_reducible refine aC ?_);first|(refine ACall.val hck rfl rfl ?_)|(refine ACall.val hac rfl rfl ?_)|(refine ACall.val hcen rfl rfl ?_)|((refine ACall.so (C:=fun y=>y=x::l) (p:=18) (s0:=2001) (hgo _) (by decide) (by decide) rfl rfl rfl rfl rfl rfl rfl rfl rfl rfl rfl rfl rfl rfl rfl rfl ?_;rintro _ k1 k2 av rfl)))
      | refine aX ?_|with_reducible intro _
      | refine aP ?_ ?_)
     all_goals first
      | (exfalso;omega)
      | (simp;done)
      | rfl
theorem mid_of {α:Type} {l:List α} {k:Nat} {v:α} (h:l[k]?=some v):l=l.take k++v::l.drop (k+1)∧(l.take k).length=k:=by
 obtain⟨h1,h2⟩:=List.getElem?_eq_some_iff.1 h
 exact⟨by rw[←h2,List.getElem_cons_drop,List.take_append_drop],by rw[List.length_take];omega⟩
theorem askOf_c (g:Nat) (w:Int) (G:Gm) (h1:1≤G.ws.length) (h6:G.ws.length≤6):RawC Tryz.prog 11 [.ref 1000 g 0,gmA G] (BoxS g w) (BoxR g fun av=>∃a,av=aqA a∧askErr G.ws.length a=0):=by
 have hwl:(wR G.ws).length=G.ws.length:=List.length_map _
 refine RawC.walk (H:=hint11 Tryz.prog) ir11 Tryz.func11 rfl rfl rfl ?_
 unfold ir11
 repeat' (first
  | with_reducible refine Rd.p ?_
  | with_reducible (first|refine zI fun y hy=>?_|refine zL ?_|refine zS ?_|refine zV ?_|refine zC ?_)
  | ((with_reducible refine aC ?_);first|(refine ACall.box (any_c _ _ 1 6 (by decide) (by decide) (by decide) (by decide)) rfl rfl rfl ?_;rintro _ _ ⟨k,rfl,hk1,hk2⟩)|(refine ACall.box (upp_c _ _ _ (by omega) (by omega)) rfl rfl rfl ?_;rintro _ _ ⟨wd,rfl,hd1,hd2⟩))
  | refine aX ?_|with_reducible intro _
  | with_reducible refine zJ ?_ fun y hy=>?_|refine aP ?_ ?_)
 all_goals try (exfalso;omega)
 · rename_i h4 _ _
   refine⟨_,⟨⟨k,wd⟩,rfl,?_⟩,rfl⟩
   unfold askErr
   rw[if_pos (inB_t.2 (by dsimp only;omega)),if_pos (by dsimp only;omega),if_pos (inB_t.2 (by dsimp only;omega))]
 · rename_i h4
   refine⟨_,⟨⟨k,0⟩,rfl,?_⟩,rfl⟩
   unfold askErr
   rw[if_pos (inB_t.2 (by dsimp only;omega)),if_neg (by dsimp only;omega),if_pos rfl]
def befF (a b:List Int):Int:=if (a.length:Int)=b.length then lexI a b else (a.length:Int)-b.length
theorem befF_neg {a b:List Int} (h:lsI a b<0):befF a b<0:=by
 unfold lsI at h
 unfold befF
 by_cases h1:(a.length:Int)=b.length
 · rw[if_pos h1]
   rw[if_pos (cmpI_eq.2 h1)] at h
   exact h
 · rw[if_neg h1]
   rw[if_neg fun h2=>h1 (cmpI_eq.1 h2)] at h
   have:=cmpI_lt.1 h
   omega
theorem befr_c (a b:List Int) (ha:a.length<1000000) (hb:b.length<1000000):Fn0 Tryz.prog 51 [.slc 1 (iR a) .non,.slc 1 (iR b) .non] (fun v=>v= .int .i64 (befF a b)):=by
 have hal:(iR a).length=a.length:=List.length_map _
 have hbl:(iR b).length=b.length:=List.length_map _
 obtain⟨R,hR⟩:∃R,befF a b=R:=⟨_,rfl⟩
 rw[hR]
 unfold befF at hR
 by_cases hl:(a.length:Int)=b.length
 rotate_left
 · rw[if_neg hl] at hR
   subst hR
   refine RawC.walk (H:=hint51 Tryz.prog) ir51 Tryz.func51 rfl rfl rfl ?_
   unfold ir51
   repeat' (first
    | with_reducible refine Rd.p ?_
    | with_reducible (first|refine zL ?_|refine zS ?_|refine zV ?_|refine zC ?_)
    | refine aX ?_|with_reducible intro _
    | refine aP ?_ ?_)
   all_goals first
    | (exfalso;omega)
    | rfl
 rw[if_pos hl] at hR
 refine RawC.walk (H:=hint51 Tryz.prog) ir51 Tryz.func51 rfl rfl rfl ?_
 unfold ir51
 repeat' (first
  | with_reducible refine Rd.p ?_
  | with_reducible (first|refine zL ?_|refine zS ?_|refine zV ?_|refine zC ?_)
  | refine aX ?_|with_reducible intro _
  | refine aP ?_ ?_)
 all_goals try (exfalso;omega)
 refine w_loopK [0,1] [] (fun x:List Int×List Int×List Int×List Int=>a=x.1++x.2.1∧b=x.2.2.1++x.2.2.2∧x.1.length=x.2.2.1.length∧lexI x.2.1 x.2.2.2=R) (fun x=>x.2.1.length) (fun x=>[(5,.int .i64 (x.1.length:Int))]) (fun _=>[]) ([],a,[],b) ⟨rfl,rfl,rfl,hR⟩ ⟨rfl,trivial⟩ trivial ?_
 rintro⟨pa,ra,pb,rb⟩ ⟨h1,h2,h3,h4⟩ e σ
 dsimp only at h1 h2 h3 h4 ⊢
 have hn1:=congrArg List.length h1
 have hn2:=congrArg List.length h2
 rw[List.length_append] at hn1 hn2
 cases ra with
 | nil=>
   simp only[List.length_nil] at hn1
   have hrb:rb=[]:=List.eq_nil_of_length_eq_zero (by omega)
   subst hrb
   rw[←h4]
   repeat' (first
    | with_reducible refine Rd.p ?_
    | with_reducible (first|refine zL ?_|refine zS ?_|refine zV ?_|refine zC ?_)
    | refine aX ?_|with_reducible intro _
    | refine aP ?_ ?_)
   all_goals first
    | (exfalso;omega)
    | rfl
 | cons x ra=>
   cases rb with
   | nil=>exfalso;simp only[List.length_cons,List.length_nil] at hn1 hn2;omega
   | cons y rb=>
     simp only[List.length_cons] at hn1 hn2
     have h2':b=pb++y::rb:=h2
     rw[lexI] at h4
     unfold cmpI at h4
     repeat' (first
      | with_reducible refine Rd.p ?_
      | (first|refine w_ixP (f:=fun x:Int=>[AV.int .i64 x]) h1 rfl rfl ?_|refine w_ixP (f:=fun x:Int=>[AV.int .i64 x]) h2' rfl (by rw[←h3];rfl) ?_)
      | with_reducible (first|refine zL ?_|refine zS ?_|refine zV ?_|refine zC ?_)
      | refine aX ?_|with_reducible intro _
      | refine aP ?_ ?_)
     all_goals first
      | (exfalso;omega)
      | exact int_eq (by rw[←h4,if_pos ‹x<y›];rfl)
      | exact int_eq (by rw[←h4,if_neg ‹¬x<y›,if_pos ‹y<x›];rfl)
      | exact q_loop (pa++[x],ra,pb++[y],rb) ⟨by show a=_;rw[h1];simp,by show b=_;rw[h2'];simp,by dsimp only;rw[len_snoc,len_snoc,h3],by dsimp only;rw[←h4,if_neg ‹¬x<y›,if_neg ‹¬y<x›];rfl⟩ (Nat.lt_succ_self _) ⟨by rw[len_snoc];rfl,trivial⟩ aS aK aK
end Go.Abs
set_option linter.unusedVariables false
set_option linter.unusedSimpArgs false
set_option maxRecDepth 20000
set_option maxHeartbeats 4000000
namespace Go.Abs
open Go.Proofs
theorem befF_lt {a b:List Int}:befF a b<0↔lsI a b<0:=by
 refine⟨fun h=>?_,befF_neg⟩
 unfold befF at h
 unfold lsI
 by_cases h1:(a.length:Int)=b.length
 · rw[if_pos h1] at h
   rw[if_pos (cmpI_eq.2 h1)]
   exact h
 · rw[if_neg h1] at h
   rw[if_neg fun h2=>h1 (cmpI_eq.1 h2)]
   exact cmpI_lt.2 (by omega)
theorem befF_eq {a b:List Int}:befF a b=0↔a=b:=by
 rw[←lsI_eq]
 unfold befF lsI
 by_cases h1:(a.length:Int)=b.length
 · rw[if_pos h1,if_pos (cmpI_eq.2 h1)]
 · rw[if_neg h1,if_neg fun h2=>h1 (cmpI_eq.1 h2)]
   constructor
   · intro h;exfalso;omega
   · intro h;exact absurd (cmpI_eq.1 h) h1
def shfL {α:Type} (L:List α) (k:Nat) (z:α):List α:=L.take k++z::L.drop k
theorem shf_len {α:Type} {L:List α} {k:Nat} {z:α} (h:k≤L.length):(shfL L k z).length=L.length+1:=by
 unfold shfL
 rw[List.length_append,List.length_cons,List.length_take,List.length_drop];omega
theorem shf_end {α:Type} (L:List α) (z:α):L++[z]=shfL L L.length z:=by
 unfold shfL
 rw[List.take_length,List.drop_length]
theorem shf_set {α:Type} {L:List α} {k:Nat} {z x:α} (h:k≤L.length):(shfL L k z).set k x=shfL L k x:=by
 unfold shfL
 have hl:(L.take k).length=k:=by rw[List.length_take];omega
 rw[List.set_append_right _ _ (by omega),hl,Nat.sub_self,List.set_cons_zero]
theorem shf_step {α:Type} {L:List α} {k:Nat} {z d:α} (h:k<L.length):(shfL L (k+1) z).set (k+1) (L.getD k d)=shfL L k (L.getD k d):=by
 rw[shf_set (by omega)]
 unfold shfL
 rw[List.getD_eq_getElem?_getD,List.getElem?_eq_getElem h]
 show List.take (k+1) L++L[k]::List.drop (k+1) L=List.take k L++L[k]::List.drop k L
 rw[List.take_succ_eq_append_getElem h,List.append_assoc]
 show List.take k L++L[k]::L[k]::List.drop (k+1) L=_
 rw[←List.drop_eq_getElem_cons h]
end Go.Abs
set_option linter.unusedVariables false
set_option linter.unusedSimpArgs false
set_option maxRecDepth 20000
set_option maxHeartbeats 4000000
namespace Go.Abs
open Go.Proofs
def ir84:IFn:=
 ⟨19,[(4,none)],(.seq (.ops [oo 4 (.mov (kI 0))])
 (.seq (.seq (.ops [oo 5 (.mov (kI 0))])
 (.blk 0 (.loop (.seq (.seq (.ops [oo 6 (.mov 5),oo 7 (.mov 0),oo 8 (.len false 7),oo 9 (.bin .lss 6 8)])
 (.cnd 9
 .skip
 (.exit 0)))
 (.seq (.blk 1 (.seq (.ops [oo 12 (.mov 0),oo 13 (.mov 5),oo 14 (.ixA 1 12 13),oo 15 (.ld 1 false 14),oo 16 (.mov 1),oo 17 (.bin .eql 15 16)])
 (.cnd 17
 (.seq (.ops [oo 18 (.mov 5),oo 4 (.mov 18)])
 .ret)
 .skip)))
 (.ops [oo 10 (.mov 5),oo 11 (.bin .add 10 (kI 1)),oo 5 (.mov 11)]))))))
 (.seq (.ops [oo 4 (.mov (.k (.int .i64 (-1))))])
 .ret)))⟩
def hint84 (P:Program):Hint:={}
def ir82:IFn:=
 ⟨36,[(2,none)],(.seq (.ops [oo 2 (.mov (.k .nsl))])
 (.seq (.ops [oo 3 (.nil 1 3)])
 (.seq (.ops [oo 4 (.mov (kI 0))])
 (.seq (.seq (.ops [oo 5 (.mov (kI 0))])
 (.blk 0 (.loop (.seq (.seq (.ops [oo 7 (.mov 5),oo 8 (.mov 0),oo 9 (.len false 8),oo 10 (.bin .lss 7 9)])
 (.cnd 10
 .skip
 (.exit 0)))
 (.seq (.blk 1 (.seq (.ops [oo 13 (.mov 0),oo 14 (.mov 0),oo 15 (.mov 5),oo 16 (.ixA 1 14 15),oo 17 (.ld 1 false 16),oo 18 (.callF 84 [13,17]),oo 6 (.mov 18)])
 (.seq (.seq (.ops [oo 19 (.mov 6),oo 20 (.mov 5),oo 21 (.bin .lss 19 20)])
 (.cnd 21
 (.seq (.ops [oo 22 (.mov 3),oo 23 (.mov 3),oo 24 (.mov 6),oo 25 (.ixA 1 23 24),oo 26 (.ld 1 false 25),oo 27 (.bsl 1 [[(.int .i64 0)]] [(0,26)]),oo 28 (.app 1 8 22 27 3),oo 3 (.mov 28)])
 (.exit 1))
 .skip))
 (.ops [oo 29 (.mov 3),oo 30 (.mov 4),oo 31 (.bsl 1 [[(.int .i64 0)]] [(0,30)]),oo 32 (.app 1 8 29 31 3),oo 33 (.mov 4),oo 34 (.bin .add 33 (kI 1)),oo 3 (.mov 32),oo 4 (.mov 34)]))))
 (.ops [oo 11 (.mov 5),oo 12 (.bin .add 11 (kI 1)),oo 5 (.mov 12)]))))))
 (.seq (.ops [oo 35 (.mov 3),oo 2 (.mov 35)])
 .ret)))))⟩
def hint82 (P:Program):Hint:={site:=[(28,3),(32,3)],nils:=[(3,1)],frz:=[],mve:=[],wr:=[] }
def ir83:IFn:=
 ⟨30,[(4,none)],(.seq (.ops [oo 2 (.box 2 0),oo 4 (.mov (kB false))])
 (.seq (.seq (.ops [oo 5 (.mov (kI 0))])
 (.blk 0 (.loop (.seq (.seq (.ops [oo 6 (.mov 5),oo 7 (.flA 1 2),oo 8 (.ld 1 false 7),oo 9 (.len false 8),oo 10 (.bin .lss 6 9)])
 (.cnd 10
 .skip
 (.exit 0)))
 (.seq (.blk 1 (.seq (.ops [oo 13 (.flA 1 2),oo 14 (.ld 1 false 13),oo 15 (.mov 5),oo 16 (.ixA 5 14 15),oo 17 (.flA 0 16),oo 18 (.ld 1 false 17),oo 19 (.bin .eql 18 (kI 1)),oo 20 (.mov 19),
 ⟨(some 21),(some (20,true)),(.flA 1 2)⟩,
 ⟨(some 22),(some (20,true)),(.ld 1 false 21)⟩,
 ⟨(some 23),(some (20,true)),(.mov 5)⟩,
 ⟨(some 24),(some (20,true)),(.ixA 5 22 23)⟩,
 ⟨(some 25),(some (20,true)),(.flA 3 24)⟩,
 ⟨(some 26),(some (20,true)),(.ld 1 false 25)⟩,
 ⟨(some 27),(some (20,true)),(.mov 1)⟩,
 ⟨(some 28),(some (20,true)),(.bin .eql 26 27)⟩,oo 29 (.pick 20 28 (kB false))])
 (.cnd 29
 (.seq (.ops [oo 4 (.mov (kB true))])
 .ret)
 .skip)))
 (.ops [oo 11 (.mov 5),oo 12 (.bin .add 11 (kI 1)),oo 5 (.mov 12)]))))))
 (.seq (.ops [oo 4 (.mov (kB false))])
 .ret)))⟩
def hint83 (P:Program):Hint:={}
def ir42:IFn:=
 ⟨30,[(4,none)],(.seq (.ops [oo 2 (.box 2 0),oo 3 (.box 2 1),oo 4 (.mov (kI 0))])
 (.seq (.seq (.ops [oo 5 (.flA 0 3),oo 6 (.ld 1 false 5),oo 7 (.callF 32 [6,(kI 1),(kI 6)]),oo 8 (.not 7)])
 (.cnd 8
 (.seq (.ops [oo 4 (.mov (kI 4))])
 .ret)
 .skip))
 (.seq (.seq (.ops [oo 9 (.flA 0 3),oo 10 (.ld 1 false 9),oo 11 (.bin .eql 10 (kI 4)),oo 12 (.mov 11),
 ⟨(some 13),(some (12,true)),(.flA 1 3)⟩,
 ⟨(some 14),(some (12,true)),(.ld 1 false 13)⟩,
 ⟨(some 15),(some (12,true)),(.flA 0 2)⟩,
 ⟨(some 16),(some (12,true)),(.ld 1 false 15)⟩,
 ⟨(some 17),(some (12,true)),(.len false 16)⟩,
 ⟨(some 18),(some (12,true)),(.bin .sub 17 (kI 1))⟩,
 ⟨(some 19),(some (12,true)),(.callF 32 [14,(kI 0),18])⟩,
 ⟨(some 20),(some (12,true)),(.not 19)⟩,oo 21 (.pick 12 20 (kB false))])
 (.cnd 21
 (.seq (.ops [oo 4 (.mov (kI 7))])
 .ret)
 .skip))
 (.seq (.seq (.ops [oo 22 (.flA 0 3),oo 23 (.ld 1 false 22),oo 24 (.bin .neq 23 (kI 4)),oo 25 (.mov 24),
 ⟨(some 26),(some (25,true)),(.flA 1 3)⟩,
 ⟨(some 27),(some (25,true)),(.ld 1 false 26)⟩,
 ⟨(some 28),(some (25,true)),(.bin .neq 27 (kI 0))⟩,oo 29 (.pick 25 28 (kB false))])
 (.cnd 29
 (.seq (.ops [oo 4 (.mov (kI 3))])
 .ret)
 .skip))
 (.seq (.ops [oo 4 (.mov (kI 0))])
 .ret)))))⟩
def hint42 (P:Program):Hint:={}
def fstI (c:List Int) (w:Int):Int:=if w∈c then (c.idxOf w:Int) else-1
theorem rfirst_c (c:List Int) (w:Int) (hc:c.length<1000000):Fn0 Tryz.prog 84 [.slc 1 (iR c) .non,.int .i64 w] (fun v=>v= .int .i64 (fstI c w)):=by
 have hcl:(iR c).length=c.length:=List.length_map _
 refine RawC.walk (H:=hint84 Tryz.prog) ir84 Tryz.func84 rfl rfl rfl ?_
 unfold ir84
 repeat' (first
  | with_reducible refine Rd.p ?_
  | with_reducible (first|refine zL ?_|refine zS ?_|refine zV ?_|refine zC ?_)
  | refine aX ?_|with_reducible intro _
  | refine aP ?_ ?_)
 refine w_loopK [0,1] [] (fun x:List Int×List Int=>c=x.1++x.2∧ ¬w∈x.1) (fun x=>x.2.length) (fun x=>[(5,.int .i64 (x.1.length:Int))]) (fun _=>[]) ([],c) ⟨rfl,by simp⟩ ⟨rfl,trivial⟩ trivial ?_
 rintro⟨pre,post⟩ ⟨hl,hn⟩ e σ
 dsimp only at hl hn ⊢
 have hlen:=congrArg List.length hl
 rw[List.length_append] at hlen
 cases post with
 | nil=>
   simp only[List.length_nil] at hlen
   have e1:fstI c w= -1:=by unfold fstI;rw[hl,List.append_nil,if_neg hn]
   rw[e1]
   repeat' (first
    | with_reducible refine Rd.p ?_
    | with_reducible (first|refine zL ?_|refine zS ?_|refine zV ?_|refine zC ?_)
    | refine aX ?_|with_reducible intro _
    | refine aP ?_ ?_)
   all_goals first
    | (exfalso;omega)
    | rfl
 | cons x post=>
   simp only[List.length_cons] at hlen
   by_cases hx:x=w
   · have e1:fstI c w=pre.length:=by
      unfold fstI
      rw[hl,if_pos (by simp[hx]),List.idxOf_append,if_neg hn,hx,List.idxOf_cons_self,Nat.zero_add]
     rw[e1]
     repeat' (first
      | with_reducible refine Rd.p ?_
      | (first|refine w_ixP (f:=fun x:Int=>[AV.int .i64 x]) hl rfl rfl ?_)
      | with_reducible (first|refine zL ?_|refine zS ?_|refine zV ?_|refine zC ?_)
      | refine aX ?_|with_reducible intro _
      | refine aP ?_ ?_)
     all_goals first
      | (exfalso;omega)
      | rfl
   · repeat' (first
      | with_reducible refine Rd.p ?_
      | (first|refine w_ixP (f:=fun x:Int=>[AV.int .i64 x]) hl rfl rfl ?_)
      | with_reducible (first|refine zL ?_|refine zS ?_|refine zV ?_|refine zC ?_)
      | refine aX ?_|with_reducible intro _
      | refine aP ?_ ?_)
     all_goals first
      | (exfalso;omega)
      | exact q_loop (pre++[x],post) ⟨by show c=_;rw[hl];simp,by show ¬w∈pre++[x];rw[List.mem_append,List.mem_singleton];rintro (h | h);exact hn h;exact hx h.symm⟩ (Nat.lt_succ_self _) ⟨by rw[len_snoc];rfl,trivial⟩ aS aK aK
theorem fstI_new {pre post:List Int} {x:Int} (h:¬x∈pre):fstI (pre++x::post) x=pre.length:=by
 unfold fstI
 rw[if_pos (by simp),List.idxOf_append,if_neg h,List.idxOf_cons_self,Nat.zero_add]
theorem fstI_old {pre post:List Int} {x:Int} (h:x∈pre):fstI (pre++x::post) x=(pre.idxOf x:Nat)∧pre.idxOf x<pre.length:=by
 unfold fstI
 rw[if_pos (by simp),List.idxOf_append,if_pos h]
 exact⟨rfl,List.idxOf_lt_length_of_mem h⟩
theorem rsame_c (c:List Int) (hc:c.length<1000000):Fn0 Tryz.prog 82 [.slc 1 (iR c) .non] (fun v=>v= .slc 1 (iR (numF [] c)) .non):=by
 have hcl:(iR c).length=c.length:=List.length_map _
 refine RawC.walk (H:=hint82 Tryz.prog) ir82 Tryz.func82 rfl rfl rfl ?_
 unfold ir82
 repeat' (first
  | with_reducible refine Rd.p ?_
  | with_reducible (first|refine zI fun y hy=>?_|refine zL ?_|refine zS ?_|refine zV ?_|refine zC ?_)
  | refine aX ?_|with_reducible intro _
  | with_reducible refine zJ ?_ fun y hy=>?_|refine aP ?_ ?_)
 rename_i g3
 refine w_loopK [0] [] (fun x:List Int×List Int×List Int×List Int×Nat=>c=x.1++x.2.1∧x.2.2.1++numF x.2.2.2.1 x.2.1=numF [] c∧x.2.2.1=x.1.map (fun y=>(x.2.2.2.1.idxOf y:Int))∧(∀y,y∈x.2.2.2.1↔y∈x.1)∧x.2.2.2.1.length≤x.1.length) (fun x=>x.2.1.length) (fun x=>[(5,.int .i64 (x.1.length:Int)),(4,.int .i64 (x.2.2.2.1.length:Int)),(3,.slc 1 (iR x.2.2.1) (.own 3 x.2.2.2.2))]) (fun x=>[(3,(x.2.2.2.2,.row []))]) ([],c,[],[],g3) ⟨rfl,rfl,rfl,fun y=>Iff.rfl,Nat.le_refl _⟩ ⟨rfl,rfl,rfl,trivial⟩ ⟨rfl,trivial⟩ ?_
 rintro⟨pre,post,out,met,g⟩ ⟨hl,hb,ho,hm,hml⟩ e σ
 dsimp only at hl hb ho hm hml ⊢
 have hlen:=congrArg List.length hl
 rw[List.length_append] at hlen
 have hol:out.length=pre.length:=by rw[ho,List.length_map]
 have hol2:(iR out).length=out.length:=List.length_map _
 cases post with
 | nil=>
   simp only[List.length_nil] at hlen
   rw[show numF met []=[] from rfl,List.append_nil] at hb
   rw[←hb]
   repeat' (first
    | with_reducible refine Rd.p ?_
    | with_reducible (first|refine zI fun y hy=>?_|refine zL ?_|refine zS ?_|refine zV ?_|refine zC ?_)
    | refine aX ?_|with_reducible intro _
    | with_reducible refine zJ ?_ fun y hy=>?_|refine aP ?_ ?_)
   all_goals first
    | (exfalso;omega)
    | rfl
 | cons x post=>
   simp only[List.length_cons] at hlen
   have hf:=rfirst_c c x hc
   rw[numF] at hb
   by_cases hx:x∈pre
   · rw[if_pos ((hm x).2 hx)] at hb
     have he:fstI c x=(pre.idxOf x:Nat)∧pre.idxOf x<pre.length:=by rw[hl];exact fstI_old hx
     obtain⟨e1,e2⟩:=he
     rw[e1] at hf
     have hov:out[pre.idxOf x]?=some (met.idxOf x:Int):=by
      rw[ho,List.getElem?_map,List.getElem?_eq_getElem e2,List.getElem_idxOf];rfl
     obtain⟨hV1,hV2⟩:=mid_of hov
     have hi3:((pre.idxOf x:Nat):Int)=((out.take (pre.idxOf x)).length:Int):=by rw[hV2]
     repeat' (first
      | with_reducible refine Rd.p ?_
      | (first|refine w_ixP (f:=fun x:Int=>[AV.int .i64 x]) hl rfl rfl ?_|refine w_ixP (f:=fun x:Int=>[AV.int .i64 x]) hV1 rfl (congrArg (AV.int .i64) hi3) ?_)
      | with_reducible (first|refine zI fun y hy=>?_|refine zL ?_|refine zS ?_|refine zV ?_|refine zC ?_)
      | ((with_reducible refine aC ?_);first|(refine ACall.val hf rfl rfl ?_))
      | refine aX ?_|with_reducible intro _
      | with_reducible refine zJ ?_ fun y hy=>?_|refine aP ?_ ?_)
     all_goals try (exfalso;omega)
     all_goals
      rename_i g5
      exact q_loop (pre++[x],post,out++[(met.idxOf x:Int)],met,g5) ⟨by show c=_;rw[hl];simp,by dsimp only;rw[←hb];simp,by dsimp only;rw[List.map_append,←ho];rfl,fun y=>by
       dsimp only
       rw[hm,List.mem_append,List.mem_singleton]
       exact⟨.inl,fun h=>h.elim id fun h=>h▸hx⟩,by dsimp only;rw[len_snoc];omega⟩ (Nat.lt_succ_self _) ⟨by rw[len_snoc];rfl,rfl,by first|rfl|exact congrArg (fun z=>AV.slc 1 z (.own 3 g5)) (map_snoc (f:=fun x:Int=>[AV.int .i64 x]) (x:=(met.idxOf x:Int))).symm,trivial⟩ aS aK aK
   · rw[if_neg (fun h=>hx ((hm x).1 h))] at hb
     have hxm:¬x∈met:=fun h=>hx ((hm x).1 h)
     have e1:fstI c x=pre.length:=by rw[hl];exact fstI_new hx
     rw[e1] at hf
     repeat' (first
      | with_reducible refine Rd.p ?_
      | (first|refine w_ixP (f:=fun x:Int=>[AV.int .i64 x]) hl rfl rfl ?_)
      | with_reducible (first|refine zI fun y hy=>?_|refine zL ?_|refine zS ?_|refine zV ?_|refine zC ?_)
      | ((with_reducible refine aC ?_);first|(refine ACall.val hf rfl rfl ?_))
      | refine aX ?_|with_reducible intro _
      | with_reducible refine zJ ?_ fun y hy=>?_|refine aP ?_ ?_)
     all_goals try (exfalso;omega)
     all_goals
      rename_i g5
      exact q_loop (pre++[x],post,out++[(met.length:Int)],met++[x],g5) ⟨by show c=_;rw[hl];simp,by dsimp only;rw[←hb];simp,by
       dsimp only
       rw[List.map_append,ho]
       congr 1
       · refine List.map_congr_left fun y hy=>?_
         rw[List.idxOf_append,if_pos ((hm y).2 hy)]
       · show _=[(((met++[x]).idxOf x:Nat):Int)]
         rw[List.idxOf_append,if_neg hxm,List.idxOf_cons_self,Nat.zero_add],fun y=>by
       dsimp only
       rw[List.mem_append,List.mem_append,hm],by dsimp only;rw[len_snoc,len_snoc];omega⟩ (Nat.lt_succ_self _) ⟨by rw[len_snoc];rfl,by rw[len_snoc];rfl,by first|rfl|exact congrArg (fun z=>AV.slc 1 z (.own 3 g5)) (map_snoc (f:=fun x:Int=>[AV.int .i64 x]) (x:=(met.length:Int))).symm,trivial⟩ aS aK aK
theorem rtried_c (G:Gm) (w:Int) (hd:G.ds.length<1000000):Fn0 Tryz.prog 83 [gmA G,.int .i64 w] (fun v=>v= .bool (triedB G.ds w)):=by
 have hdl:(dlR G.ds).length=G.ds.length:=List.length_map _
 obtain⟨R,hR⟩:∃R,triedB G.ds w=R:=⟨_,rfl⟩
 rw[hR]
 refine RawC.walk (H:=hint83 Tryz.prog) ir83 Tryz.func83 rfl rfl rfl ?_
 unfold ir83
 repeat' (first
  | with_reducible refine Rd.p ?_
  | with_reducible (first|refine zL ?_|refine zS ?_|refine zV ?_|refine zC ?_)
  | refine aX ?_|with_reducible intro _
  | refine aP ?_ ?_)
 refine w_loopK [1,2] [2] (fun x:List Dl×List Dl=>G.ds=x.1++x.2∧triedB x.2 w=R) (fun x=>x.2.length) (fun x=>[(5,.int .i64 (x.1.length:Int))]) (fun _=>[]) ([],G.ds) ⟨rfl,hR⟩ ⟨rfl,trivial⟩ trivial ?_
 rintro⟨pre,post⟩ ⟨hl,hr⟩ e σ
 dsimp only at hl hr ⊢
 have hlen:=congrArg List.length hl
 rw[List.length_append] at hlen
 cases post with
 | nil=>
   simp only[List.length_nil] at hlen
   have hr0:false=R:=hr
   subst hr0
   repeat' (first
    | with_reducible refine Rd.p ?_
    | with_reducible (first|refine zL ?_|refine zS ?_|refine zV ?_|refine zC ?_)
    | refine aX ?_|with_reducible intro _
    | refine aP ?_ ?_)
   all_goals first
    | (exfalso;omega)
    | rfl
 | cons d post=>
   simp only[List.length_cons] at hlen
   have hrc:(decide (d.kind=1) && decide (d.wood=w) || triedB post w)=R:=hr
   by_cases h1:d.kind=1
   · by_cases h2:d.wood=w
     · have hr0:true=R:=by rw[←hrc];simp[h1,h2]
       subst hr0
       repeat' (first
        | with_reducible refine Rd.p ?_
        | (first|refine w_ixP (f:=fun d:Dl=>[AV.int .i64 d.kind,.int .i64 d.bag,.int .i64 d.other,.int .i64 d.wood,.int .i64 d.count]) hl rfl rfl ?_)
        | with_reducible (first|refine zL ?_|refine zS ?_|refine zV ?_|refine zC ?_)
        | refine aX ?_|with_reducible intro _
        | refine aP ?_ ?_)
       all_goals first
        | (exfalso;omega)
        | rfl
     · have hr0:triedB post w=R:=by rw[←hrc];simp[h2]
       repeat' (first
        | with_reducible refine Rd.p ?_
        | (first|refine w_ixP (f:=fun d:Dl=>[AV.int .i64 d.kind,.int .i64 d.bag,.int .i64 d.other,.int .i64 d.wood,.int .i64 d.count]) hl rfl rfl ?_)
        | with_reducible (first|refine zL ?_|refine zS ?_|refine zV ?_|refine zC ?_)
        | refine aX ?_|with_reducible intro _
        | refine aP ?_ ?_)
       all_goals first
        | (exfalso;omega)
        | exact q_loop (pre++[d],post) ⟨by show G.ds=_;rw[hl];simp,hr0⟩ (Nat.lt_succ_self _) ⟨by rw[len_snoc];rfl,trivial⟩ aS aK aK
   · have hr0:triedB post w=R:=by rw[←hrc];simp[h1]
     repeat' (first
      | with_reducible refine Rd.p ?_
      | (first|refine w_ixP (f:=fun d:Dl=>[AV.int .i64 d.kind,.int .i64 d.bag,.int .i64 d.other,.int .i64 d.wood,.int .i64 d.count]) hl rfl rfl ?_)
      | with_reducible (first|refine zL ?_|refine zS ?_|refine zV ?_|refine zC ?_)
      | refine aX ?_|with_reducible intro _
      | refine aP ?_ ?_)
     all_goals first
      | (exfalso;omega)
      | exact q_loop (pre++[d],post) ⟨by show G.ds=_;rw[hl];simp,hr0⟩ (Nat.lt_succ_self _) ⟨by rw[len_snoc];rfl,trivial⟩ aS aK aK
theorem rcheckAsk_c (G:Gm) (a:Aq) (hn:G.ws.length<1000):Fn0 Tryz.prog 42 [gmA G,aqA a] (fun v=>v= .int .i64 (askErr G.ws.length a)):=by
 have hwl:(wR G.ws).length=G.ws.length:=List.length_map _
 obtain⟨B,hB⟩:∃B,askErr G.ws.length a=B:=⟨_,rfl⟩
 rw[hB]
 unfold askErr at hB
 have h1:=rin_c a.kind 1 6
 have h2:=rin_c a.wood 0 (G.ws.length-1)
 cases e1:inB a.kind 1 6 with
 | false=>
   rw[e1] at hB h1
   rw[if_neg Bool.false_ne_true] at hB
   subst hB
   refine RawC.walk (H:=hint42 Tryz.prog) ir42 Tryz.func42 rfl rfl rfl ?_
   unfold ir42
   repeat' (first
    | with_reducible refine Rd.p ?_
    | with_reducible (first|refine zL ?_|refine zS ?_|refine zV ?_|refine zC ?_)
    | ((with_reducible refine aC ?_);first|(refine ACall.val h1 rfl rfl ?_))
    | refine aX ?_|with_reducible intro _
    | refine aP ?_ ?_)
   all_goals first
    | (exfalso;omega)
    | rfl
 | true=>
   rw[e1] at hB h1
   rw[if_pos rfl] at hB
   by_cases e4:a.kind=4
   · rw[if_pos e4] at hB
     cases e2:inB a.wood 0 (G.ws.length-1) with
     | true=>
       rw[e2] at hB h2
       rw[if_pos rfl] at hB
       subst hB
       refine RawC.walk (H:=hint42 Tryz.prog) ir42 Tryz.func42 rfl rfl rfl ?_
       unfold ir42
       repeat' (first
        | with_reducible refine Rd.p ?_
        | with_reducible (first|refine zL ?_|refine zS ?_|refine zV ?_|refine zC ?_)
        | ((with_reducible refine aC ?_);first|(refine ACall.val h1 rfl rfl ?_)|(refine ACall.val h2 rfl rfl ?_))
        | refine aX ?_|with_reducible intro _
        | refine aP ?_ ?_)
       all_goals first
        | (exfalso;omega)
        | rfl
     | false=>
       rw[e2] at hB h2
       rw[if_neg Bool.false_ne_true] at hB
       subst hB
       refine RawC.walk (H:=hint42 Tryz.prog) ir42 Tryz.func42 rfl rfl rfl ?_
       unfold ir42
       repeat' (first
        | with_reducible refine Rd.p ?_
        | with_reducible (first|refine zL ?_|refine zS ?_|refine zV ?_|refine zC ?_)
        | ((with_reducible refine aC ?_);first|(refine ACall.val h1 rfl rfl ?_)|(refine ACall.val h2 rfl rfl ?_))
        | refine aX ?_|with_reducible intro _
        | refine aP ?_ ?_)
       all_goals first
        | (exfalso;omega)
        | rfl
   · rw[if_neg e4] at hB
     by_cases e5:a.wood=0
     · rw[if_pos e5] at hB
       subst hB
       refine RawC.walk (H:=hint42 Tryz.prog) ir42 Tryz.func42 rfl rfl rfl ?_
       unfold ir42
       repeat' (first
        | with_reducible refine Rd.p ?_
        | with_reducible (first|refine zL ?_|refine zS ?_|refine zV ?_|refine zC ?_)
        | ((with_reducible refine aC ?_);first|(refine ACall.val h1 rfl rfl ?_))
        | refine aX ?_|with_reducible intro _
        | refine aP ?_ ?_)
       all_goals first
        | (exfalso;omega)
        | rfl
     · rw[if_neg e5] at hB
       subst hB
       refine RawC.walk (H:=hint42 Tryz.prog) ir42 Tryz.func42 rfl rfl rfl ?_
       unfold ir42
       repeat' (first
        | with_reducible refine Rd.p ?_
        | with_reducible (first|refine zL ?_|refine zS ?_|refine zV ?_|refine zC ?_)
        | ((with_reducible refine aC ?_);first|(refine ACall.val h1 rfl rfl ?_))
        | refine aX ?_|with_reducible intro _
        | refine aP ?_ ?_)
       all_goals first
        | (exfalso;omega)
        | rfl
end Go.Abs
set_option linter.unusedVariables false
set_option linter.unusedSimpArgs false
set_option maxRecDepth 20000
set_option maxHeartbeats 4000000
namespace Go.Abs
open Go.Proofs
def ir44:IFn:=
 ⟨100,[(6,none)],(.seq (.ops [oo 3 (.box 2 0),oo 4 (.box 2 1),oo 6 (.nil 1 6)])
 (.seq (.ops [oo 7 (.nil 1 7)])
 (.seq (.seq (.ops [oo 10 (.flA 0 4),oo 11 (.ld 1 false 10)])
 (.blk 0 (.seq (.ops [oo 13 (.bin .eql 11 (kI 1)),oo 12 (.mov 13)])
 (.cnd 12
 (.seq (.ops [oo 14 (.mov 2),oo 15 (.callF 82 [14]),oo 6 (.mov 15)])
 .ret)
 (.seq (.ops [oo 17 (.bin .eql 11 (kI 3)),oo 16 (.mov 17)])
 (.cnd 16
 (.seq (.ops [oo 18 (.mov 7),oo 19 (.mov 2),oo 20 (.app 1 8 18 19 6),oo 6 (.mov 20)])
 .ret)
 (.seq (.ops [oo 22 (.bin .eql 11 (kI 6)),oo 21 (.mov 22)])
 (.cnd 21
 (.seq (.ops [oo 23 (.flA 0 3),oo 24 (.ld 1 false 23),oo 25 (.len false 24),oo 26 (.mks 1 8 [(.int .i64 0)] 25 25),oo 7 (.mov 26)])
 (.seq (.seq (.ops [oo 8 (.mov (kI 0))])
 (.blk 1 (.loop (.seq (.seq (.ops [oo 27 (.mov 8),oo 28 (.mov 2),oo 29 (.len false 28),oo 30 (.bin .lss 27 29)])
 (.cnd 30
 .skip
 (.exit 1)))
 (.seq (.blk 2 (.ops [oo 33 (.mov 7),oo 34 (.mov 2),oo 35 (.mov 8),oo 36 (.ixA 1 34 35),oo 37 (.ld 1 false 36),oo 38 (.ixA 1 33 37),oo 39 (.ld 1 false 38),oo 40 (.bin .add 39 (kI 1)),oo 41 (.ixA 1 33 37),
 ⟨none,none,(.st 1 41 40)⟩]))
 (.ops [oo 31 (.mov 8),oo 32 (.bin .add 31 (kI 1)),oo 8 (.mov 32)]))))))
 (.seq (.seq (.frz 7)
 (.ops [oo 42 (.mov 7),oo 6 (.mov 42)]))
 .ret)))
 .skip))))))))
 (.seq (.seq (.ops [oo 9 (.mov (kI 0))])
 (.blk 3 (.loop (.seq (.seq (.ops [oo 43 (.mov 9),oo 44 (.mov 2),oo 45 (.len false 44),oo 46 (.bin .lss 43 45)])
 (.cnd 46
 .skip
 (.exit 3)))
 (.seq (.blk 4 (.blk 5 (.seq (.seq (.ops [oo 50 (.flA 0 4),oo 51 (.ld 1 false 50),oo 52 (.bin .eql 51 (kI 2)),oo 53 (.mov 52),
 ⟨(some 54),(some (53,true)),(.ld 2 true 3)⟩,
 ⟨(some 55),(some (53,true)),(.mov 2)⟩,
 ⟨(some 56),(some (53,true)),(.mov 9)⟩,
 ⟨(some 57),(some (53,true)),(.ixA 1 55 56)⟩,
 ⟨(some 58),(some (53,true)),(.ld 1 false 57)⟩,
 ⟨(some 59),(some (53,true)),(.callF 83 [54,58])⟩,
 ⟨(some 60),(some (53,true)),(.not 59)⟩,oo 61 (.pick 53 60 (kB false)),oo 49 (.mov 61)])
 (.cnd 49
 .skip
 (.ops [oo 62 (.flA 0 4),oo 63 (.ld 1 false 62),oo 64 (.bin .eql 63 (kI 4)),oo 65 (.mov 64),
 ⟨(some 66),(some (65,true)),(.mov 2)⟩,
 ⟨(some 67),(some (65,true)),(.mov 9)⟩,
 ⟨(some 68),(some (65,true)),(.ixA 1 66 67)⟩,
 ⟨(some 69),(some (65,true)),(.ld 1 false 68)⟩,
 ⟨(some 70),(some (65,true)),(.flA 1 4)⟩,
 ⟨(some 71),(some (65,true)),(.ld 1 false 70)⟩,
 ⟨(some 72),(some (65,true)),(.bin .eql 69 71)⟩,oo 73 (.pick 65 72 (kB false)),oo 49 (.mov 73)])))
 (.cnd 49
 (.ops [oo 74 (.mov 7),oo 75 (.mov 9),oo 76 (.bsl 1 [[(.int .i64 0)]] [(0,75)]),oo 77 (.app 1 8 74 76 7),oo 7 (.mov 77)])
 (.seq (.ops [oo 79 (.flA 0 4),oo 80 (.ld 1 false 79),oo 81 (.bin .eql 80 (kI 5)),oo 82 (.mov 81),
 ⟨(some 83),(some (82,true)),(.mov 2)⟩,
 ⟨(some 84),(some (82,true)),(.mov 2)⟩,
 ⟨(some 85),(some (82,true)),(.mov 9)⟩,
 ⟨(some 86),(some (82,true)),(.ixA 1 84 85)⟩,
 ⟨(some 87),(some (82,true)),(.ld 1 false 86)⟩,
 ⟨(some 88),(some (82,true)),(.callF 84 [83,87])⟩,
 ⟨(some 89),(some (82,true)),(.mov 9)⟩,
 ⟨(some 90),(some (82,true)),(.bin .eql 88 89)⟩,oo 91 (.pick 82 90 (kB false)),oo 78 (.mov 91)])
 (.cnd 78
 (.ops [oo 92 (.mov 7),oo 93 (.mov 2),oo 94 (.mov 9),oo 95 (.ixA 1 93 94),oo 96 (.ld 1 false 95),oo 97 (.bsl 1 [[(.int .i64 0)]] [(0,96)]),oo 98 (.app 1 8 92 97 7),oo 7 (.mov 98)])
 .skip))))))
 (.ops [oo 47 (.mov 9),oo 48 (.bin .add 47 (kI 1)),oo 9 (.mov 48)]))))))
 (.seq (.ops [oo 99 (.mov 7),oo 6 (.mov 99)])
 .ret)))))⟩
def hint44 (P:Program):Hint:={site:=[(20,6),(77,7),(98,7)],nils:=[(6,1),(7,1)],frz:=[(42,7)],mve:=[],wr:=[] }
end Go.Abs
