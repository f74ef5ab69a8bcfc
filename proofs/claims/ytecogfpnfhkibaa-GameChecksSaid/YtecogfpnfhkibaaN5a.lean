/- A part of the proofs of the laws of this seat: contracts of the functions that they reach, each proved of the program's form in Lean. No condition beyond those that each contract names. -/
import Derived.Test.YtecogfpnfhkibaaProg
import Derived.Test.YtecogfpnfhkibaaSnd3
import Derived.Test.YtecogfpnfhkibaaA0
import Derived.Test.YtecogfpnfhkibaaN1a
import Derived.Test.YtecogfpnfhkibaaN1b
import Derived.Test.YtecogfpnfhkibaaN1c
import Derived.Test.YtecogfpnfhkibaaN1d
import Derived.Test.YtecogfpnfhkibaaN1e
import Derived.Test.YtecogfpnfhkibaaN1f
import Derived.Test.YtecogfpnfhkibaaN1g
import Derived.Test.YtecogfpnfhkibaaN2a
import Derived.Test.YtecogfpnfhkibaaN2b
import Derived.Test.YtecogfpnfhkibaaN2c
import Derived.Test.YtecogfpnfhkibaaN3a
set_option linter.unusedVariables false
set_option linter.unusedSimpArgs false
set_option maxRecDepth 20000
set_option maxHeartbeats 4000000
namespace Go.Abs
open Go.RowKit
variable {P:Program}
end Go.Abs
namespace Go.Proofs.Ytecogfpnfhkibaa
open Go.ChangeShapes Go.WideShapes Go.ChangeAt Go.RowKit Go.Abs
theorem open_agg {t:TypeId} {fs:Array Field} {sz:Nat} {α:Type} (T:RowOf Try.prog t sz α) {H:Type} {enc:TypeId×Value→H} {W:World} {base:Nat} {v:Value} {d:DataW H} {ps:List MemPlace} (ht:Try.prog.underlying t=some (.struct fs)) (hv:Value.okWide Try.prog W .any base t v) (h:DataW.Trod enc Try.prog W 0 (fun _=>true) true t v d ps):
  ∃x:α,Rel (GS.pure (K0 W)) (.agg (T.row x)) v:=by
 obtain⟨fuel,hf⟩:=h
 simp only[Value.okWide,ht] at hv
 obtain⟨cs,rfl,_⟩:=hv
 obtain⟨x,hx⟩:=T.read hf
 exact⟨x,cs,rfl,by rw[show cs.toList=T.vals x from hx];exact T.rel x _⟩
theorem wfI {n:Int} (h:(Lit.int .i64 n).wf=true): -9223372036854775808≤n∧n≤9223372036854775807:=by
 have h1:IntKind.i64.min= -9223372036854775808:=by decide
 have h2:IntKind.i64.max=9223372036854775807:=by decide
 simp only[Lit.wf,h1,h2,Bool.and_eq_true,decide_eq_true_eq] at h;exact h
end Go.Proofs.Ytecogfpnfhkibaa
namespace Go.Abs
open Go.Proofs
section
variable {P:Program}
variable {α:Type} {row:α→List AV} {sz:Nat}
theorem renL_app (ρ:List (Nat×Nat)):∀l m:List AV,renL ρ (l++m)=renL ρ l++renL ρ m
 | [],m=>rfl
 | a::l,m=>by rw[List.cons_append,renL,renL,renL_app ρ l m];rfl
theorem FlatR.rens (h:FlatR row sz) (ρ:List (Nat×Nat)):∀xs:List α,renL ρ (xs.map row).flatten=(xs.map row).flatten
 | []=>rfl
 | x::xs=>by rw[List.map_cons,List.flatten_cons,renL_app,h.ren,h.rens ρ xs]
theorem FlatR.scals (h:FlatR row sz):∀xs:List α,(xs.map row).flatten.all AV.scal=true
 | []=>rfl
 | x::xs=>by rw[List.map_cons,List.flatten_cons,List.all_append,h.scal,h.scals xs];rfl
end
section
variable {P:Program} {α:Type} {row:α→List AV} {sz:Nat}
theorem w_apmMK {K:(Nat→AV)→Sig→Prop} {e:Nat→AV} {σ:Sig} {x y:IOpd} {r:List IStep} {d i g bytes n:Nat} {xs:List α} {x0:α} {t:Tag} (hR:FlatR row sz) (hn:xs.length=n) (hx:x.ev e= .msl i g n sz) (hσ:σ i=(g,.row (xs.map row).flatten)) (hy:y.ev e= .slc sz [row x0] t) (hb:(n+1)*bytes≤140737488355328)
  (hk:∀g',stepsW P r K (upd e d (.msl i g' (xs++[x0]).length sz)) (upd (upd σ i (g,.dead)) i (g',.row ((xs++[x0]).map row).flatten))):stepsW P (⟨some d,none,.apm sz bytes x y i⟩::r) K e σ:=by
 subst hn
 have hl:=hR.flat_len xs
 have e1:((xs++[x0]).map row).flatten=(xs.map row).flatten++[row x0].flatten:=by simp
 have e2:(xs++[x0]).length=xs.length+1:=by simp
 refine w_det (p:=(g=g∧sz=sz∧(xs.map row).flatten.length=xs.length*sz)∧sz=sz∧(xs.length+[row x0].length)*bytes≤140737488355328) (v:=fun g'=> .msl i g' (xs++[x0]).length sz) (σ':=fun g'=>upd (upd σ i (g,.dead)) i (g',.row ((xs++[x0]).map row).flatten)) (fun g'=>?_) ⟨⟨rfl,rfl,hl⟩,rfl,hb⟩ hk
 show (match baseM sz σ (x.ev e),rowsO sz (y.ev e) with
  | some (p,n,c,σ'),some (q,ys)=>(match ys with
    | []=>some (p∧q,x.ev e,σ)
    | _::_=>some (p∧q∧(n+ys.length)*bytes≤140737488355328,AV.msl i g' (n+ys.length) sz,newS σ' i g' (c++ys.flatten)))
  | some (p,n,c,σ'),none=>(match rowsM sz σ (y.ev e) with
    | some (q,m,ys)=>some (p∧q∧(n+m)*bytes≤140737488355328,AV.msl i g' (n+m) sz,newS σ' i g' (c++ys))
    | none=>none)
  | _,_=>none)=_
 rw[hx,hy,e1,e2]
 simp only[baseM,hσ,rowsO];rfl
theorem w_apmNK {K:(Nat→AV)→Sig→Prop} {e:Nat→AV} {σ:Sig} {x y:IOpd} {r:List IStep} {d i bytes:Nat} {x0:α} {t:Tag} (hx:x.ev e= .nsl) (hy:y.ev e= .slc sz [row x0] t) (hb:1*bytes≤140737488355328)
  (hk:∀g',stepsW P r K (upd e d (.msl i g' [x0].length sz)) (newS σ i g' ([x0].map row).flatten)):stepsW P (⟨some d,none,.apm sz bytes x y i⟩::r) K e σ:=by
 refine w_det (p:=True∧sz=sz∧(0+[row x0].length)*bytes≤140737488355328) (v:=fun g'=> .msl i g' [x0].length sz) (σ':=fun g'=>newS σ i g' ([x0].map row).flatten) (fun g'=>?_) ⟨trivial,rfl,hb⟩ hk
 show (match baseM sz σ (x.ev e),rowsO sz (y.ev e) with
  | some (p,n,c,σ'),some (q,ys)=>(match ys with
    | []=>some (p∧q,x.ev e,σ)
    | _::_=>some (p∧q∧(n+ys.length)*bytes≤140737488355328,AV.msl i g' (n+ys.length) sz,newS σ' i g' (c++ys.flatten)))
  | some (p,n,c,σ'),none=>(match rowsM sz σ (y.ev e) with
    | some (q,m,ys)=>some (p∧q∧(n+m)*bytes≤140737488355328,AV.msl i g' (n+m) sz,newS σ' i g' (c++ys))
    | none=>none)
  | _,_=>none)=_
 rw[hx,hy]
 simp only[baseM,rowsO];rfl
theorem setL_get2 {β:Type}:∀(xs pre ys post:List β),xs.length=ys.length→setL (pre++ys++post) pre.length xs=pre++xs++post
 | [],pre,[],post,_=>rfl
 | [],pre,y::ys,post,h=>by simp at h
 | x::xs,pre,[],post,h=>by simp at h
 | x::xs,pre,y::ys,post,h=>by
   have e:(pre++(y::ys)++post).set pre.length x=(pre++[x])++ys++post:=by simp
   rw[setL,e,show pre.length+1=(pre++[x]).length by simp,setL_get2 xs (pre++[x]) ys post (by simpa using h)]
   simp
theorem FlatR.setRow (h:FlatR row sz) {pre post:List α} {y y':α}:setL ((pre++y::post).map row).flatten (pre.length*sz) (row y')=((pre++y'::post).map row).flatten:=by
 have e:∀z,((pre++z::post).map row).flatten=(pre.map row).flatten++row z++(post.map row).flatten:=fun z=>by simp
 rw[e,e,←h.flat_len pre];exact setL_get2 _ _ _ _ (by rw[h.len,h.len])
theorem w_stRow {K:(Nat→AV)→Sig→Prop} {e:Nat→AV} {σ:Sig} {x v:IOpd} {r:List IStep} {i g off:Nat} {xs:List α} {k:Nat} {y':α} (hR:FlatR row sz) (hx:x.ev e= .ref i g off) (hσ:σ i=(g,.row (xs.map row).flatten)) (ho:off=k*sz) (hk0:k<xs.length) (hv:v.ev e= .agg (row y'))
  (hk:stepsW P r K e (upd σ i (g,.row ((xs.set k y').map row).flatten))):stepsW P (⟨none,none,.st sz x v⟩::r) K e σ:=by
 have hlen:=hR.flat_len xs
 have hle:off+sz≤xs.length*sz:=by rw[ho,←Nat.succ_mul];exact Nat.mul_le_mul_right _ hk0
 refine w_det0 (p:=g=g∧((row y').length=sz∧(row y').all AV.scal=true)∧off+sz≤(xs.map row).flatten.length) (v:= .junk) (σ':=upd σ i (g,.row (setL (xs.map row).flatten off (row y')))) (fun _=>?_) ⟨rfl,⟨hR.len _,hR.scal _⟩,by rw[hlen];exact hle⟩ ?_
 · show stO sz σ (v.ev e) (x.ev e)=_
   rw[hx,hv];simp only[stO,cellsO,hσ]
 · have e1:xs=xs.take k++xs[k]::xs.drop (k+1):=by rw[List.getElem_cons_drop,List.take_append_drop]
   have e2:xs.set k y'=xs.take k++y'::xs.drop (k+1):=by rw[List.set_eq_take_append_cons_drop,if_pos hk0]
   have e3:(xs.take k).length=k:=by rw[List.length_take];omega
   have:=hR.setRow (pre:=xs.take k) (y:=xs[k]) (post:=xs.drop (k+1)) (y':=y')
   rw[e3,←e1,←e2] at this
   rw[ho,this];exact hk
theorem frzS_keep {i g j h:Nat} {c d:List AV} {σ:Sig} (hs:σ j=(h,.row d)) (hj:j≠i) (hd:frzL i g c d=d):frzS i g c σ j=(h,.row d):=by simp[frzS,hj,hs,frzR,hd]
theorem w_frzG {Q:Post} {e:Nat→AV} {σ:Sig} {b:IR} {t i g n:Nat} {c:List AV} (F:List (Nat×AV)) (S:List (Nat×(Nat×Res))) (h1:e t= .msl i g n sz) (hσ:σ i=(g,.row c)) (hc:c.all AV.scal=true) (hF:slots F (frzE i g c e)) (hS:slots S (frzS i g c σ))
  (hk:∀e' σ',awp P b Q (updL F e') (updL S σ')):awp P (.seq (.frz (.t t)) b) Q e σ:=by
 show frzW (e t) e σ (seqQ (awp P b Q) Q .nor)
 rw[h1]
 show (match σ i with | (g',.row c)=>g=g'∧c.all AV.scal=true∧seqQ (awp P b Q) Q .nor (frzE i g c e) (frzS i g c σ) | _=>False)
 rw[hσ]
 refine⟨rfl,hc,?_⟩
 have:=hk (frzE i g c e) (frzS i g c σ)
 rw[updL_slots hF,updL_slots hS] at this
 exact this
theorem frzS_at {i g j h n:Nat} {d:AV} {xs:List α} {σ:Sig} (hR:FlatR row sz) (hn:xs.length=n) (hs:σ j=(h,.row [d,.msl i g n sz])) (hj:j≠i) (hd:frzL i g (xs.map row).flatten [d]=[d]):frzS i g (xs.map row).flatten σ j=(h,.row [d,.slc sz (xs.map row) .non]):=by
 subst hn
 have hl:=hR.flat_len xs
 simp only[frzL,List.cons.injEq,and_true] at hd
 simp[frzS,hj,hs,frzR,frzL,frzA,hl,hR.chunk,hd]
end
def ir14v:IFn:=
 ⟨255,[(8,some (2,true))],(.seq (.ops [oo 8 (.new [.nsl,.nsl])])
 (.seq (.ops [oo 23 (.mov 0),
 oo 24 (.mov 1),
 oo 25 (.callF 32 [23,24]),
 oo 26 (.bld [.nsl,.nsl] [(0,1,25)]),
 oo 9 (.new [.nsl,.nsl]),
 ⟨none,none,(.st 2 9 26)⟩])
 (.seq (.seq (.ops [oo 10 (.mov (kI 0))])
 (.blk 0 (.loop (.seq (.seq (.ops [oo 27 (.mov 10),
 oo 28 (.flA 0 9),
 oo 29 (.ld 1 false 28),
 oo 30 (.len false 29),
 oo 31 (.bin .lss 27 30)])
 (.cnd 31
 .skip
 (.exit 0)))
 (.seq (.blk 1 (.seq (.ops [oo 34 (.mov 0),
 oo 35 (.callF 47 [34,(kI 3)]),
 oo 36 (.not 35)])
 (.cnd 36
 (.ops [oo 37 (.flA 1 9),
 oo 38 (.ld 1 false 37),
 oo 39 (.mov 10),
 oo 40 (.bld [(.int .i64 0),(.int .i64 0),(.int .i64 0),(.int .i64 0),(.int .i64 0)] [(0,1,(kI 1)),(3,1,39)]),
 oo 41 (.bsl 5 [[(.int .i64 0),(.int .i64 0),(.int .i64 0),(.int .i64 0),(.int .i64 0)]] [(0,40)]),
 oo 42 (.apm 5 40 38 41 42),
 oo 43 (.flA 1 9),
 ⟨none,none,(.st 1 43 42)⟩])
 .skip)))
 (.ops [oo 32 (.mov 10),
 oo 33 (.bin .add 32 (kI 1)),
 oo 10 (.mov 33)]))))))
 (.seq (.ops [oo 44 (.mov 0),
 oo 45 (.callF 31 [44,(kI 2)]),
 oo 46 (.bin .add (kI 1) 45),
 oo 11 (.mov 46)])
 (.seq (.ops [oo 12 (.new [(.int .i64 0),(.int .i64 0),(.int .i64 0),(.int .i64 0)])])
 (.seq (.ops [oo 13 (.mov (kI 0)),
 oo 14 (.mov (kI 0)),
 oo 15 (.mov (kI 0))])
 (.seq (.seq (.ops [oo 16 (.mov (kI 0))])
 (.blk 2 (.loop (.seq (.seq (.ops [oo 47 (.mov 16),
 oo 48 (.bin .lss 47 (kI 10)),
 oo 49 (.mov 48),
 ⟨(some 50),(some (49,true)),(.flA 1 9)⟩,
 ⟨(some 51),(some (49,true)),(.ld 1 false 50)⟩,
 ⟨(some 52),(some (49,true)),(.len false 51)⟩,
 ⟨(some 53),(some (49,true)),(.bin .lss 52 (kI 22))⟩,
 oo 54 (.pick 49 53 (kB false))])
 (.cnd 54
 .skip
 (.exit 2)))
 (.seq (.blk 3 (.seq (.ops [oo 57 (.mov 0),
 oo 58 (.mov 11),
 oo 59 (.callF 31 [57,58]),
 oo 17 (.mov 59)])
 (.seq (.ops [oo 60 (.mov 0),
 oo 61 (.callF 31 [60,(kI 7)])])
 (.blk 4 (.seq (.seq (.ops [oo 83 (.bin .eql 61 (kI 0)),
 oo 82 (.mov 83)])
 (.cnd 82
 .skip
 (.seq (.ops [oo 84 (.bin .eql 61 (kI 1)),
 oo 82 (.mov 84)])
 (.cnd 82
 .skip
 (.ops [oo 85 (.bin .eql 61 (kI 2)),
 oo 82 (.mov 85)])))))
 (.cnd 82
 (.seq (.ops [oo 86 (.mov 0),
 oo 87 (.callF 30 [86,(kI 1),(kI 3)]),
 oo 18 (.mov 87)])
 (.seq (.ops [oo 88 (.mov 13),
 oo 89 (.mov 18),
 oo 90 (.bin .add 88 89),
 oo 91 (.bin .leq 90 (kI 12))])
 (.cnd 91
 (.seq (.ops [oo 92 (.flA 1 9),
 oo 93 (.ld 1 false 92),
 oo 94 (.mov 17),
 oo 95 (.mov 0),
 oo 96 (.flA 0 9),
 oo 97 (.ld 1 false 96),
 oo 98 (.len false 97),
 oo 100 (.mov 18),
 oo 99 (.callF 31 [95,98]),
 ⟨none,none,(.chk 1 false 92 93)⟩,
 oo 101 (.bld [(.int .i64 0),(.int .i64 0),(.int .i64 0),(.int .i64 0),(.int .i64 0)] [(0,1,(kI 2)),(1,1,94),(3,1,99),(4,1,100)]),
 oo 102 (.bsl 5 [[(.int .i64 0),(.int .i64 0),(.int .i64 0),(.int .i64 0),(.int .i64 0)]] [(0,101)]),
 oo 103 (.apm 5 40 93 102 42),
 oo 104 (.flA 1 9),
 ⟨none,none,(.st 1 104 103)⟩])
 (.ops [oo 105 (.mov 17),
 oo 106 (.mov 13),
 oo 107 (.mov 18),
 oo 108 (.bin .add 106 107),
 oo 109 (.mov 17),
 oo 110 (.ixAr 4 1 12 109),
 oo 111 (.ld 1 false 110),
 oo 112 (.mov 18),
 oo 113 (.bin .add 111 112),
 oo 13 (.mov 108),
 oo 114 (.ixAr 4 1 12 105),
 ⟨none,none,(.st 1 114 113)⟩]))
 .skip)))
 (.seq (.ops [oo 116 (.bin .eql 61 (kI 3)),
 oo 115 (.mov 116)])
 (.cnd 115
 (.seq (.ops [oo 117 (.mov 0),
 oo 118 (.mov 11),
 oo 119 (.callF 31 [117,118]),
 oo 19 (.mov 119)])
 (.seq (.ops [oo 120 (.mov 19),
 oo 121 (.mov 17),
 oo 122 (.bin .neq 120 121)])
 (.cnd 122
 (.seq (.ops [oo 123 (.flA 1 9),
 oo 124 (.ld 1 false 123),
 oo 125 (.mov 17),
 oo 126 (.mov 19),
 oo 127 (.bld [(.int .i64 0),(.int .i64 0),(.int .i64 0),(.int .i64 0),(.int .i64 0)] [(0,1,(kI 3)),(1,1,125),(2,1,126)]),
 oo 128 (.bsl 5 [[(.int .i64 0),(.int .i64 0),(.int .i64 0),(.int .i64 0),(.int .i64 0)]] [(0,127)]),
 oo 129 (.apm 5 40 124 128 42),
 oo 130 (.flA 1 9),
 ⟨none,none,(.st 1 130 129)⟩])
 (.ops [oo 131 (.mov 19),
 oo 132 (.mov 17),
 oo 133 (.mov 19),
 oo 134 (.ixAr 4 1 12 133),
 oo 135 (.ld 1 false 134),
 oo 136 (.mov 17),
 oo 137 (.ixAr 4 1 12 136),
 oo 138 (.ld 1 false 137),
 oo 139 (.bin .add 135 138),
 oo 140 (.ixAr 4 1 12 131),
 ⟨none,none,(.st 1 140 139)⟩,
 oo 141 (.ixAr 4 1 12 132),
 ⟨none,none,(.st 1 141 (kI 0))⟩]))
 .skip)))
 (.seq (.ops [oo 143 (.bin .eql 61 (kI 4)),
 oo 142 (.mov 143)])
 (.cnd 142
 (.seq (.ops [oo 144 (.mov 0),
 oo 145 (.callF 30 [144,(kI 1),(kI 2)]),
 oo 20 (.mov 145)])
 (.seq (.ops [oo 146 (.mov 20),
 oo 147 (.mov 17),
 oo 148 (.ixAr 4 1 12 147),
 oo 149 (.ld 1 false 148),
 oo 150 (.bin .leq 146 149),
 oo 151 (.mov 150),
 ⟨(some 152),(some (151,true)),(.mov 14)⟩,
 ⟨(some 153),(some (151,true)),(.mov 20)⟩,
 ⟨(some 154),(some (151,true)),(.bin .add 152 153)⟩,
 ⟨(some 155),(some (151,true)),(.mov 2)⟩,
 ⟨(some 156),(some (151,true)),(.bin .leq 154 155)⟩,
 oo 157 (.pick 151 156 (kB false))])
 (.cnd 157
 (.seq (.ops [oo 158 (.flA 1 9),
 oo 159 (.ld 1 false 158),
 oo 160 (.mov 17),
 oo 161 (.mov 20),
 oo 162 (.bld [(.int .i64 0),(.int .i64 0),(.int .i64 0),(.int .i64 0),(.int .i64 0)] [(0,1,(kI 4)),(1,1,160),(4,1,161)]),
 oo 163 (.bsl 5 [[(.int .i64 0),(.int .i64 0),(.int .i64 0),(.int .i64 0),(.int .i64 0)]] [(0,162)]),
 oo 164 (.apm 5 40 159 163 42),
 oo 165 (.flA 1 9),
 ⟨none,none,(.st 1 165 164)⟩])
 (.ops [oo 166 (.mov 17),
 oo 167 (.mov 14),
 oo 168 (.mov 20),
 oo 169 (.bin .add 167 168),
 oo 170 (.mov 17),
 oo 171 (.ixAr 4 1 12 170),
 oo 172 (.ld 1 false 171),
 oo 173 (.mov 20),
 oo 174 (.bin .sub 172 173),
 oo 14 (.mov 169),
 oo 175 (.ixAr 4 1 12 166),
 ⟨none,none,(.st 1 175 174)⟩]))
 .skip)))
 (.seq (.ops [oo 177 (.bin .eql 61 (kI 5)),
 oo 176 (.mov 177)])
 (.cnd 176
 (.seq (.ops [oo 178 (.mov 0),
 oo 179 (.callF 30 [178,(kI 1),(kI 3)]),
 oo 21 (.mov 179)])
 (.seq (.ops [oo 180 (.mov 21),
 oo 181 (.mov 17),
 oo 182 (.ixAr 4 1 12 181),
 oo 183 (.ld 1 false 182),
 oo 184 (.bin .leq 180 183),
 oo 185 (.mov 184),
 ⟨(some 186),(some (185,true)),(.mov 14)⟩,
 ⟨(some 187),(some (185,true)),(.mov 21)⟩,
 ⟨(some 188),(some (185,true)),(.bin .add 186 187)⟩,
 ⟨(some 189),(some (185,true)),(.mov 2)⟩,
 ⟨(some 190),(some (185,true)),(.bin .leq 188 189)⟩,
 oo 191 (.pick 185 190 (kB false)),
 oo 192 (.mov 191),
 ⟨(some 193),(some (192,true)),(.mov 15)⟩,
 ⟨(some 194),(some (192,true)),(.mov 21)⟩,
 ⟨(some 195),(some (192,true)),(.bin .add 193 194)⟩,
 ⟨(some 196),(some (192,true)),(.mov 3)⟩,
 ⟨(some 197),(some (192,true)),(.bin .leq 195 196)⟩,
 oo 198 (.pick 192 197 (kB false))])
 (.cnd 198
 (.seq (.ops [oo 199 (.flA 1 9),
 oo 200 (.ld 1 false 199),
 oo 201 (.mov 17),
 oo 202 (.mov 21),
 oo 203 (.bld [(.int .i64 0),(.int .i64 0),(.int .i64 0),(.int .i64 0),(.int .i64 0)] [(0,1,(kI 5)),(1,1,201),(4,1,202)]),
 oo 204 (.bsl 5 [[(.int .i64 0),(.int .i64 0),(.int .i64 0),(.int .i64 0),(.int .i64 0)]] [(0,203)]),
 oo 205 (.apm 5 40 200 204 42),
 oo 206 (.flA 1 9),
 ⟨none,none,(.st 1 206 205)⟩])
 (.ops [oo 207 (.mov 17),
 oo 208 (.mov 14),
 oo 209 (.mov 21),
 oo 210 (.bin .add 208 209),
 oo 211 (.mov 15),
 oo 212 (.mov 21),
 oo 213 (.bin .add 211 212),
 oo 214 (.mov 17),
 oo 215 (.ixAr 4 1 12 214),
 oo 216 (.ld 1 false 215),
 oo 217 (.mov 21),
 oo 218 (.bin .sub 216 217),
 oo 14 (.mov 210),
 oo 15 (.mov 213),
 oo 219 (.ixAr 4 1 12 207),
 ⟨none,none,(.st 1 219 218)⟩]))
 .skip)))
 (.seq (.ops [oo 62 (.mov 15),
 oo 63 (.mov 3),
 oo 64 (.bin .lss 62 63),
 oo 65 (.mov 64),
 ⟨(some 66),(some (65,true)),(.mov 0)⟩,
 ⟨(some 67),(some (65,true)),(.callF 47 [66,(kI 3)])⟩,
 oo 68 (.pick 65 67 (kB false))])
 (.cnd 68
 (.seq (.ops [oo 69 (.flA 1 9),
 oo 70 (.ld 1 false 69),
 oo 71 (.mov 0),
 oo 72 (.flA 0 9),
 oo 73 (.ld 1 false 72),
 oo 74 (.len false 73),
 oo 75 (.callF 31 [71,74]),
 ⟨none,none,(.chk 1 false 69 70)⟩,
 oo 76 (.bld [(.int .i64 0),(.int .i64 0),(.int .i64 0),(.int .i64 0),(.int .i64 0)] [(0,1,(kI 6)),(3,1,75)]),
 oo 77 (.bsl 5 [[(.int .i64 0),(.int .i64 0),(.int .i64 0),(.int .i64 0),(.int .i64 0)]] [(0,76)]),
 oo 78 (.apm 5 40 70 77 42),
 oo 79 (.flA 1 9),
 ⟨none,none,(.st 1 79 78)⟩])
 (.ops [oo 80 (.mov 15),
 oo 81 (.bin .add 80 (kI 1)),
 oo 15 (.mov 81)]))
 .skip))))))))))))))
 (.ops [oo 55 (.mov 16),
 oo 56 (.bin .add 55 (kI 1)),
 oo 16 (.mov 56)]))))))
 (.seq (.seq (.ops [oo 220 (.ixAr 4 1 12 (kI 0)),
 oo 221 (.ld 1 false 220),
 oo 222 (.mov 2),
 oo 223 (.mov 14),
 oo 224 (.bin .sub 222 223),
 oo 225 (.mov 3),
 oo 226 (.mov 15),
 oo 227 (.bin .sub 225 226),
 oo 228 (.mx3 false 221 224 227),
 oo 22 (.mov 228)])
 (.seq (.ops [oo 229 (.mov 22),
 oo 230 (.bin .gtr 229 (kI 0))])
 (.cnd 230
 (.seq (.ops [oo 231 (.flA 1 9),
 oo 232 (.ld 1 false 231),
 oo 233 (.mov 22),
 oo 234 (.bld [(.int .i64 0),(.int .i64 0),(.int .i64 0),(.int .i64 0),(.int .i64 0)] [(0,1,(kI 5)),(4,1,233)]),
 oo 235 (.bsl 5 [[(.int .i64 0),(.int .i64 0),(.int .i64 0),(.int .i64 0),(.int .i64 0)]] [(0,234)]),
 oo 236 (.apm 5 40 232 235 42),
 oo 237 (.flA 1 9),
 ⟨none,none,(.st 1 237 236)⟩])
 (.ops [oo 238 (.mov 15),
 oo 239 (.mov 22),
 oo 240 (.bin .add 238 239),
 oo 15 (.mov 240)]))
 .skip)))
 (.seq (.seq (.ops [oo 241 (.mov 15),
 oo 242 (.bin .eql 241 (kI 0))])
 (.cnd 242
 (.ops [oo 243 (.flA 1 9),
 oo 244 (.ld 1 false 243),
 oo 245 (.mov 0),
 oo 246 (.flA 0 9),
 oo 247 (.ld 1 false 246),
 oo 248 (.len false 247),
 oo 249 (.callF 31 [245,248]),
 ⟨none,none,(.chk 1 false 243 244)⟩,
 oo 250 (.bld [(.int .i64 0),(.int .i64 0),(.int .i64 0),(.int .i64 0),(.int .i64 0)] [(0,1,(kI 6)),(3,1,249)]),
 oo 251 (.bsl 5 [[(.int .i64 0),(.int .i64 0),(.int .i64 0),(.int .i64 0),(.int .i64 0)]] [(0,250)]),
 oo 252 (.apm 5 40 244 251 42),
 oo 253 (.flA 1 9),
 ⟨none,none,(.st 1 253 252)⟩])
 .skip))
 (.seq (.ops [oo 254 (.ld 2 true 9),
 ⟨none,none,(.st 2 8 254)⟩])
 .ret))))))))))⟩
def hint14v (P:Program):Hint:={site:=[(42,42),(78,42),(103,42),(129,42),(164,42),(205,42),(236,42),(252,42)],nils:=[],frz:=[],mve:=[],wr:=[42,103,129,164,205,78,236,252] }
theorem dlFl:FlatR Dl.row 5:=⟨fun _=>rfl,fun _=>rfl,fun _=>rfl,fun _ _ _ _=>rfl,fun _ _=>rfl⟩
def dlW (D:List Dl) (g:Nat):AV:=match D with
 | []=> .nsl
 | x::l=> .msl 42 g (x::l).length 5
def dlY (D:List Dl) (g:Nat):Nat×Res:=match D with
 | []=>(0,.dead)
 | x::l=>(g,.row ((x::l).map Dl.row).flatten)
theorem gameOfW_c (g:Nat) (w woods drawn cens:Int) (h1:1≤woods∧woods≤6) (h2:0≤drawn∧drawn≤9) (h3:1≤cens∧cens≤9):RawC Try.prog 14 [.ref 1000 g 0,.int .i64 woods,.int .i64 drawn,.int .i64 cens] (BoxS g w)
  (SR (fun (x:List Wd×Dl×List Dl×Nat×Int) av=>av= .agg [.slc 2 (wR x.1) .non,dlW (x.2.1::x.2.2.1) x.2.2.2.1]∧madeO ⟨x.1,x.2.1::x.2.2.1⟩ woods drawn cens) (fun x=>[(1000,(g,.row [.int .u64 x.2.2.2.2])),(42,dlY (x.2.1::x.2.2.1) x.2.2.2.1)])):=by
 refine RawC.walk (H:=hint14v Try.prog) ir14v Try.func14 rfl rfl rfl ?_
 unfold ir14v
 repeat' (first
  | with_reducible (first | refine Rd.p ?_ | refine w_alt ?_ ?_ | refine zE ?_ | refine zE0 ?_)
  | with_reducible (first | refine zI fun y hy=>?_ | refine zL ?_ | refine zS ?_ | refine zA fun _=>?_ | refine zV ?_ | refine zC ?_ | refine zG ?_ | refine zU ?_ | refine zG0 ?_ | refine zU0 ?_ | refine zF ?_)
  | ((with_reducible refine acall_id ?_);refine ACall.box (woodsOf_c _ _ _ h1) rfl rfl rfl ?_;rintro _ _ ⟨ws,rfl,hmw,hw1,hw2⟩)
  | with_reducible (first | refine zX ?_ | refine zD fun _=>?_ | refine zD0 ?_ | refine zN ?_ | refine zF0 ?_ | refine zX0 ?_ | refine z1 ?_ | refine z2 ?_ | refine z3 ?_ | refine z4 ?_ | refine z5 ?_ | refine z6 ?_ | refine z7 ?_ | refine z8 ?_ | refine y1 ?_ | refine y2 ?_ | refine y3 ?_ | refine y4 ?_ | refine y5 ?_ | refine y6 ?_ | refine y7 ?_ | refine y8 ?_ | refine Rt.p (fun _=>?_) fun _=>?_)
  | ((with_reducible apply w_ixM);(focus exact rfl);(focus exact rfl);case' hk=>intro y hy) | ((with_reducible (first | apply w_val | apply q_ends));(focus exact rfl)))
 rename_i g8 w0 g9
 have hwl:(wR ws).length=ws.length:=List.length_map _
 refine w_loopK [0,2,3,8,9,50,51,52,53,66,67,152,153,154,155,156,186,187,188,189,190,193,194,195,196,197] [8] (fun x:List Dl×List Bool×Int×Nat×Nat=>mkG ws.length x.1 {tb0 with tried:=x.2.1 } 0∧x.2.2.2.2≤ws.length∧x.1.length≤x.2.2.2.2∧ ∀i:Nat,x.2.2.2.2≤i→x.2.1.getD i false=false)
  (fun x=>ws.length-x.2.2.2.2) (fun x=>[(10,.int .i64 (x.2.2.2.2:Int))]) (fun x=>[(1000,(g,.row [.int .u64 x.2.2.1])),(9,(g9,.row [.slc 2 (wR ws) .non,dlW x.1 x.2.2.2.1])),(42,dlY x.1 x.2.2.2.1)]) ([],tb0.tried,w0,0,0) ⟨mkG.nil _,Nat.zero_le _,Nat.le_refl _,fun i _=>by
    show ([false,false,false,false,false,false]:List Bool).getD i false=false
    rcases i with _ | _ | _ | _ | _ | _ | i<;>rfl⟩ ⟨rfl,trivial⟩ ⟨rfl,rfl,rfl,trivial⟩ ?_
 rintro⟨D,tr,w,gd,j⟩ ⟨hmk,hj,hDl,htr⟩ e σ
 dsimp only at hmk hj hDl htr ⊢
 by_cases hjn:j=ws.length
 rotate_left
 · have hmk2:=hmk.trial (w:=(j:Int)) (by omega) (htr j (Nat.le_refl _))
   have htr2:∀i:Nat,j+1≤i→(tr.set j true).getD i false=false:=fun i hi=>by
    rw[List.getD_eq_getElem?_getD,List.getElem?_set,if_neg (by omega),←List.getD_eq_getElem?_getD]
    exact htr i (by omega)
   cases D with
   | nil=>
     repeat' (first
      | with_reducible (first | refine Rd.p ?_ | refine w_alt ?_ ?_ | refine zE ?_ | refine zE0 ?_)
      | (refine w_apmNK (row:=Dl.row) (x0:=⟨_,_,_,_,_⟩) rfl rfl (by decide) ?_;intro g42)
      | with_reducible (first | refine zI fun y hy=>?_ | refine zL ?_ | refine zS ?_ | refine zA fun _=>?_ | refine zV ?_ | refine zC ?_ | refine zG ?_ | refine zU ?_ | refine zG0 ?_ | refine zU0 ?_ | refine zF ?_)
      | ((with_reducible refine acall_id ?_);refine ACall.box (one_c _ _ _ (by omega)) rfl rfl rfl ?_;rintro _ _ ⟨b,rfl⟩)
      | with_reducible (first | refine zX ?_ | refine zD fun _=>?_ | refine zD0 ?_ | refine zN ?_ | refine zF0 ?_ | refine zX0 ?_ | refine z1 ?_ | refine z2 ?_ | refine z3 ?_ | refine z4 ?_ | refine z5 ?_ | refine z6 ?_ | refine z7 ?_ | refine z8 ?_ | refine y1 ?_ | refine y2 ?_ | refine y3 ?_ | refine y4 ?_ | refine y5 ?_ | refine y6 ?_ | refine y7 ?_ | refine y8 ?_ | refine Rt.p (fun _=>?_) fun _=>?_)
      | ((with_reducible apply w_ixM);(focus exact rfl);(focus exact rfl);case' hk=>intro y hy) | ((with_reducible (first | apply w_val | apply q_ends));(focus exact rfl)))
     all_goals first
      | (exfalso;omega)
      | exact q_loop ([⟨1,0,0,(j:Int),0⟩],tr.set j true,_,_,j+1) ⟨hmk2,by show j+1≤_;omega,Nat.le_add_left _ _,htr2⟩ (by show _-(j+1)<_-j;omega) ⟨int_eq (by simp),trivial⟩ (by repeat' (first | exact slots_nil | apply slots_cons | rfl | (rw[map_snoc];rfl) | (rw[len_snoc];rfl) | (rw[hS];rfl) | (rw[hS,map_snoc];rfl) | (refine int_eq ?_;(try dsimp only);omega) | (refine congrArg AV.bool ?_;simp_all;done))) (by repeat' (first | exact kept_nil | apply kept_cons | rfl)) (by repeat' (first | exact kept_nil | apply kept_cons | rfl))
      | exact q_loop ([],tr,_,gd,j+1) ⟨hmk,by show j+1≤_;omega,Nat.zero_le _,fun i hi=>htr i (by dsimp only at hi;omega)⟩ (by show _-(j+1)<_-j;omega) ⟨int_eq (by simp),trivial⟩ (by repeat' (first | exact slots_nil | apply slots_cons | rfl | (rw[map_snoc];rfl) | (rw[len_snoc];rfl) | (rw[hS];rfl) | (rw[hS,map_snoc];rfl) | (refine int_eq ?_;(try dsimp only);omega) | (refine congrArg AV.bool ?_;simp_all;done))) (by repeat' (first | exact kept_nil | apply kept_cons | rfl)) (by repeat' (first | exact kept_nil | apply kept_cons | rfl))
   | cons x l=>
     have hxl:(dlR (x::l)).length=(x::l).length:=List.length_map _
     repeat' (first
      | with_reducible (first | refine Rd.p ?_ | refine w_alt ?_ ?_ | refine zE ?_ | refine zE0 ?_)
      | (refine w_apmMK (row:=Dl.row) (xs:=x::l) (x0:=⟨_,_,_,_,_⟩) dlFl rfl rfl rfl rfl (by omega) ?_;intro g42)
      | with_reducible (first | refine zI fun y hy=>?_ | refine zL ?_ | refine zS ?_ | refine zA fun _=>?_ | refine zV ?_ | refine zC ?_ | refine zG ?_ | refine zU ?_ | refine zG0 ?_ | refine zU0 ?_ | refine zF ?_)
      | ((with_reducible refine acall_id ?_);refine ACall.box (one_c _ _ _ (by omega)) rfl rfl rfl ?_;rintro _ _ ⟨b,rfl⟩)
      | with_reducible (first | refine zX ?_ | refine zD fun _=>?_ | refine zD0 ?_ | refine zN ?_ | refine zF0 ?_ | refine zX0 ?_ | refine z1 ?_ | refine z2 ?_ | refine z3 ?_ | refine z4 ?_ | refine z5 ?_ | refine z6 ?_ | refine z7 ?_ | refine z8 ?_ | refine y1 ?_ | refine y2 ?_ | refine y3 ?_ | refine y4 ?_ | refine y5 ?_ | refine y6 ?_ | refine y7 ?_ | refine y8 ?_ | refine Rt.p (fun _=>?_) fun _=>?_)
      | ((with_reducible apply w_ixM);(focus exact rfl);(focus exact rfl);case' hk=>intro y hy) | ((with_reducible (first | apply w_val | apply q_ends));(focus exact rfl)))
     all_goals first
      | (exfalso;omega)
      | exact q_loop (x::l++[⟨1,0,0,(j:Int),0⟩],tr.set j true,_,_,j+1) ⟨hmk2,by show j+1≤_;omega,by show (x::l++[_]).length≤j+1;rw[len_snoc];omega,htr2⟩ (by show _-(j+1)<_-j;omega) ⟨int_eq (by simp),trivial⟩ ⟨rfl,rfl,rfl,trivial⟩ (by repeat' (first | exact kept_nil | apply kept_cons | rfl)) (by repeat' (first | exact kept_nil | apply kept_cons | rfl))
      | exact q_loop (x::l,tr,_,gd,j+1) ⟨hmk,by show j+1≤_;omega,by show (x::l).length≤j+1;omega,fun i hi=>htr i (by dsimp only at hi;omega)⟩ (by show _-(j+1)<_-j;omega) ⟨int_eq (by simp),trivial⟩ (by repeat' (first | exact slots_nil | apply slots_cons | rfl | (rw[map_snoc];rfl) | (rw[len_snoc];rfl) | (rw[hS];rfl) | (rw[hS,map_snoc];rfl) | (refine int_eq ?_;(try dsimp only);omega) | (refine congrArg AV.bool ?_;simp_all;done))) (by repeat' (first | exact kept_nil | apply kept_cons | rfl)) (by repeat' (first | exact kept_nil | apply kept_cons | rfl))
 subst hjn
 clear htr hj
 repeat' (first
  | with_reducible (first | refine Rd.p ?_ | refine w_alt ?_ ?_ | refine zE ?_ | refine zE0 ?_)
  | (refine w_apmMK (row:=Dl.row) (xs:=x::l) (x0:=⟨_,_,_,_,_⟩) dlFl rfl rfl rfl rfl (by omega) ?_;intro g42)
  | with_reducible (first | refine zI fun y hy=>?_ | refine zL ?_ | refine zS ?_ | refine zA fun _=>?_ | refine zV ?_ | refine zC ?_ | refine zG ?_ | refine zU ?_ | refine zG0 ?_ | refine zU0 ?_ | refine zF ?_)
  | ((with_reducible refine acall_id ?_);refine ACall.box (upp_c _ _ 2 (by omega) (by omega)) rfl rfl rfl ?_;rintro _ _ ⟨bg,rfl,hbg1,hbg2⟩)
  | with_reducible (first | refine zX ?_ | refine zD fun _=>?_ | refine zD0 ?_ | refine zN ?_ | refine zF0 ?_ | refine zX0 ?_ | refine z1 ?_ | refine z2 ?_ | refine z3 ?_ | refine z4 ?_ | refine z5 ?_ | refine z6 ?_ | refine z7 ?_ | refine z8 ?_ | refine y1 ?_ | refine y2 ?_ | refine y3 ?_ | refine y4 ?_ | refine y5 ?_ | refine y6 ?_ | refine y7 ?_ | refine y8 ?_ | refine Rt.p (fun _=>?_) fun _=>?_)
  | ((with_reducible apply w_ixM);(focus exact rfl);(focus exact rfl);case' hk=>intro y hy) | ((with_reducible (first | apply w_val | apply q_ends));(focus exact rfl)))
 rename_i w1 g12
 refine w_loopK [0,2,3,8,9,11,12] [8] (fun x:List Dl×Tb×Int×Nat×Int×Nat=>mkG ws.length x.1 x.2.1 x.2.2.1∧x.2.2.2.1≤10∧x.1.length≤22∧0≤x.2.2.1∧x.2.2.1≤drawn∧x.2.1.cens≤cens)
  (fun x=>10-x.2.2.2.1) (fun x=>[(13,.int .i64 x.2.1.mixed),(14,.int .i64 x.2.2.1),(15,.int .i64 x.2.1.cens),(16,.int .i64 (x.2.2.2.1:Int))]) (fun x=>[(1000,(g,.row [.int .u64 x.2.2.2.2.1])),(9,(g9,.row [.slc 2 (wR ws) .non,dlW x.1 x.2.2.2.2.2])),(42,dlY x.1 x.2.2.2.2.2),(12,(g12,.row (nI x.2.1.bags)))]) (D,{tb0 with tried:=tr },0,0,w1,gd) ⟨hmk,Nat.zero_le _,by dsimp only;omega,Int.le_refl _,by dsimp only;omega,by show (0:Int)≤cens;omega⟩ ⟨rfl,rfl,rfl,rfl,trivial⟩ ⟨rfl,rfl,rfl,rfl,trivial⟩ ?_
 clear hmk hDl
 rintro⟨D,T,had,turn,w,gd⟩ ⟨hmk,hturn,hDl,hh0,hhd,hcn⟩ e σ
 dsimp only at hmk hturn hDl hh0 hhd hcn ⊢
 have hok:=hmk.ok
 have hb4:=hok.b
 have hm:=hok.m
 have hcc:=hok.c
 by_cases hgo:turn<10∧D.length<22
 · cases D with
   | nil=>
     repeat' (first
      | with_reducible (first | refine Rd.p ?_ | refine w_alt ?_ ?_ | refine zE ?_ | refine zE0 ?_)
      | (refine w_apmNK (row:=Dl.row) (x0:=⟨_,_,_,_,_⟩) rfl rfl (by decide) ?_;intro g42)
      | with_reducible (first | refine zI fun y hy=>?_ | refine zL ?_ | refine zS ?_ | refine zA fun _=>?_ | refine zV ?_ | refine zC ?_ | refine zG ?_ | refine zU ?_ | refine zG0 ?_ | refine zU0 ?_ | refine zF ?_)
      | ((with_reducible refine acall_id ?_);refine ACall.box (upp_c _ _ (1+bg) (by omega) (by omega)) rfl rfl rfl ?_;rintro _ _ ⟨bag,rfl,hbag1,hbag2⟩)
      | with_reducible (first | refine zX ?_ | refine zD fun _=>?_ | refine zD0 ?_ | refine zN ?_ | refine zF0 ?_ | refine zX0 ?_ | refine z1 ?_ | refine z2 ?_ | refine z3 ?_ | refine z4 ?_ | refine z5 ?_ | refine z6 ?_ | refine z7 ?_ | refine z8 ?_ | refine y1 ?_ | refine y2 ?_ | refine y3 ?_ | refine y4 ?_ | refine y5 ?_ | refine y6 ?_ | refine y7 ?_ | refine y8 ?_ | refine Rt.p (fun _=>?_) fun _=>?_)
      | ((with_reducible apply w_ixM);(focus exact rfl);(focus exact rfl);case' hk=>intro y hy) | ((with_reducible (first | apply w_val | apply q_ends));(focus exact rfl)))
     repeat' (first
      | with_reducible (first | refine Rd.p ?_ | refine w_alt ?_ ?_ | refine zE ?_ | refine zE0 ?_)
      | (first | (refine w_apmNK (row:=Dl.row) (x0:=⟨_,_,_,_,_⟩) rfl rfl (by decide) ?_;intro g42) | (refine w_ldBag (p:=bag.toNat) hok rfl (by omega) rfl (by omega) ?_;intro hbdB) | (refine w_ldBag (p:=oth.toNat) hok rfl (by omega) rfl (by omega) ?_;intro hbdO) | refine w_stEl (p:=bag.toNat) rfl (by omega) rfl (by first | omega | (rw[List.length_set];omega)) rfl ?_ | refine w_stEl (p:=oth.toNat) rfl (by omega) rfl (by omega) rfl ?_)
      | with_reducible (first | refine zI fun y hy=>?_ | refine zL ?_ | refine zS ?_ | refine zA fun _=>?_ | refine zV ?_ | refine zC ?_ | refine zG ?_ | refine zU ?_ | refine zG0 ?_ | refine zU0 ?_ | refine zF ?_)
      | ((with_reducible refine acall_id ?_);refine ACall.box (upp_c _ _ 7 (by omega) (by omega)) rfl rfl rfl ?_;rintro _ _ ⟨kd,rfl,hkd1,hkd2⟩)
      | ((with_reducible refine acall_id ?_);refine ACall.box (upp_c _ _ (1+bg) (by omega) (by omega)) rfl rfl rfl ?_;rintro _ _ ⟨oth,rfl,ho1,ho2⟩)
      | ((with_reducible refine acall_id ?_);refine ACall.box (any_c _ _ _ _ (by omega) (by omega) (by omega) (by omega)) rfl rfl rfl ?_;rintro _ _ ⟨c,rfl,hc1,hc2⟩)
      | ((with_reducible refine acall_id ?_);refine ACall.box (upp_c _ _ _ (by omega) (by omega)) rfl rfl rfl ?_;rintro _ _ ⟨wd,rfl,hw1,hw2⟩)
      | ((with_reducible refine acall_id ?_);refine ACall.box (one_c _ _ _ (by omega)) rfl rfl rfl ?_;rintro _ _ ⟨b,rfl⟩)
      | with_reducible (first | refine zX ?_ | refine zD fun _=>?_ | refine zD0 ?_ | refine zN ?_ | refine zF0 ?_ | refine zX0 ?_ | refine z1 ?_ | refine z2 ?_ | refine z3 ?_ | refine z4 ?_ | refine z5 ?_ | refine z6 ?_ | refine z7 ?_ | refine z8 ?_ | refine y1 ?_ | refine y2 ?_ | refine y3 ?_ | refine y4 ?_ | refine y5 ?_ | refine y6 ?_ | refine y7 ?_ | refine y8 ?_ | refine Rt.p (fun _=>?_) fun _=>?_)
      | ((with_reducible apply w_ixM);(focus exact rfl);(focus exact rfl);case' hk=>intro y hy) | ((with_reducible (first | apply w_val | apply q_ends));(focus exact rfl)))
     all_goals first
      | (exfalso;omega)
      | (have hq:kd≤2∧T.mixed+c≤12:=by omega
         exact q_loop ([⟨2,bag,0,wd,c⟩],{T with mixed:=T.mixed+c,bags:=setI T.bags bag (atI T.bags bag+c) },had,turn+1,_,_) ⟨hmk.mix (by omega) (by omega) (by omega) (by omega),by show turn+1≤10;omega,by show (1:Nat)≤22;decide,by dsimp only;omega,by dsimp only;omega,by dsimp only;omega⟩ (by show 10-(turn+1)<10-turn;omega) ⟨rfl,rfl,rfl,int_eq (by simp),trivial⟩ ⟨rfl,rfl,rfl,rfl,trivial⟩ (by repeat' (first | exact kept_nil | apply kept_cons | rfl)) (by repeat' (first | exact kept_nil | apply kept_cons | rfl)))
      | (have hq:kd=3∧bag≠oth:=by omega
         exact q_loop ([⟨3,bag,oth,0,0⟩],{T with bags:=setI (setI T.bags oth (atI T.bags oth+atI T.bags bag)) bag 0 },had,turn+1,_,_) ⟨hmk.pour (by omega) (by omega) (by omega),by show turn+1≤10;omega,by show (1:Nat)≤22;decide,by dsimp only;omega,by dsimp only;omega,by dsimp only;omega⟩ (by show 10-(turn+1)<10-turn;omega) ⟨rfl,rfl,rfl,int_eq (by simp),trivial⟩ ⟨rfl,rfl,rfl,rfl,trivial⟩ (by repeat' (first | exact kept_nil | apply kept_cons | rfl)) (by repeat' (first | exact kept_nil | apply kept_cons | rfl)))
      | (have hq:kd=4∧c≤T.bags.getD bag.toNat 0∧had+c≤drawn:=by omega
         exact q_loop ([⟨4,bag,0,0,c⟩],{T with bags:=setI T.bags bag (atI T.bags bag-c) },had+c,turn+1,_,_) ⟨hmk.aside (by omega) (by unfold atI;omega),by show turn+1≤10;omega,by show (1:Nat)≤22;decide,by dsimp only;omega,by dsimp only;omega,by dsimp only;omega⟩ (by show 10-(turn+1)<10-turn;omega) ⟨rfl,rfl,rfl,int_eq (by simp),trivial⟩ ⟨rfl,rfl,rfl,rfl,trivial⟩ (by repeat' (first | exact kept_nil | apply kept_cons | rfl)) (by repeat' (first | exact kept_nil | apply kept_cons | rfl)))
      | (have hq:kd=5∧c≤T.bags.getD bag.toNat 0∧had+c≤drawn∧T.cens+c≤cens:=by omega
         exact q_loop ([⟨5,bag,0,0,c⟩],{T with bags:=setI T.bags bag (atI T.bags bag-c),cens:=T.cens+c },had+c,turn+1,_,_) ⟨hmk.pass (by omega) (by unfold atI;omega) (by omega),by show turn+1≤10;omega,by show (1:Nat)≤22;decide,by dsimp only;omega,by dsimp only;omega,by dsimp only;omega⟩ (by show 10-(turn+1)<10-turn;omega) ⟨rfl,rfl,rfl,int_eq (by simp),trivial⟩ ⟨rfl,rfl,rfl,rfl,trivial⟩ (by repeat' (first | exact kept_nil | apply kept_cons | rfl)) (by repeat' (first | exact kept_nil | apply kept_cons | rfl)))
      | (have hq:kd=6∧T.cens<cens:=by omega
         exact q_loop ([⟨6,0,0,wd,0⟩],{T with cens:=T.cens+1 },had,turn+1,_,_) ⟨hmk.place (by omega) (by omega),by show turn+1≤10;omega,by show (1:Nat)≤22;decide,by dsimp only;omega,by dsimp only;omega,by dsimp only;omega⟩ (by show 10-(turn+1)<10-turn;omega) ⟨rfl,rfl,rfl,int_eq (by simp),trivial⟩ ⟨rfl,rfl,rfl,rfl,trivial⟩ (by repeat' (first | exact kept_nil | apply kept_cons | rfl)) (by repeat' (first | exact kept_nil | apply kept_cons | rfl)))
      | exact q_loop ([],T,had,turn+1,_,gd) ⟨hmk,by show turn+1≤10;omega,by show (([]:List Dl)).length≤22;decide,by dsimp only;omega,by dsimp only;omega,by dsimp only;omega⟩ (by show 10-(turn+1)<10-turn;omega) ⟨rfl,rfl,rfl,int_eq (by simp),trivial⟩ (by repeat' (first | exact slots_nil | apply slots_cons | rfl | (rw[map_snoc];rfl) | (rw[len_snoc];rfl) | (rw[hS];rfl) | (rw[hS,map_snoc];rfl) | (refine int_eq ?_;(try dsimp only);omega) | (refine congrArg AV.bool ?_;simp_all;done))) (by repeat' (first | exact kept_nil | apply kept_cons | rfl)) (by repeat' (first | exact kept_nil | apply kept_cons | rfl))
   | cons x l=>
     have hxl:(dlR (x::l)).length=(x::l).length:=List.length_map _
     repeat' (first
      | with_reducible (first | refine Rd.p ?_ | refine w_alt ?_ ?_ | refine zE ?_ | refine zE0 ?_)
      | (refine w_apmMK (row:=Dl.row) (xs:=x::l) (x0:=⟨_,_,_,_,_⟩) dlFl rfl rfl rfl rfl (by omega) ?_;intro g42)
      | with_reducible (first | refine zI fun y hy=>?_ | refine zL ?_ | refine zS ?_ | refine zA fun _=>?_ | refine zV ?_ | refine zC ?_ | refine zG ?_ | refine zU ?_ | refine zG0 ?_ | refine zU0 ?_ | refine zF ?_)
      | ((with_reducible refine acall_id ?_);refine ACall.box (upp_c _ _ (1+bg) (by omega) (by omega)) rfl rfl rfl ?_;rintro _ _ ⟨bag,rfl,hbag1,hbag2⟩)
      | with_reducible (first | refine zX ?_ | refine zD fun _=>?_ | refine zD0 ?_ | refine zN ?_ | refine zF0 ?_ | refine zX0 ?_ | refine z1 ?_ | refine z2 ?_ | refine z3 ?_ | refine z4 ?_ | refine z5 ?_ | refine z6 ?_ | refine z7 ?_ | refine z8 ?_ | refine y1 ?_ | refine y2 ?_ | refine y3 ?_ | refine y4 ?_ | refine y5 ?_ | refine y6 ?_ | refine y7 ?_ | refine y8 ?_ | refine Rt.p (fun _=>?_) fun _=>?_)
      | ((with_reducible apply w_ixM);(focus exact rfl);(focus exact rfl);case' hk=>intro y hy) | ((with_reducible (first | apply w_val | apply q_ends));(focus exact rfl)))
     repeat' (first
      | with_reducible (first | refine Rd.p ?_ | refine w_alt ?_ ?_ | refine zE ?_ | refine zE0 ?_)
      | (first | (refine w_apmMK (row:=Dl.row) (xs:=x::l) (x0:=⟨_,_,_,_,_⟩) dlFl rfl rfl rfl rfl (by omega) ?_;intro g42) | (refine w_ldBag (p:=bag.toNat) hok rfl (by omega) rfl (by omega) ?_;intro hbdB) | (refine w_ldBag (p:=oth.toNat) hok rfl (by omega) rfl (by omega) ?_;intro hbdO) | refine w_stEl (p:=bag.toNat) rfl (by omega) rfl (by first | omega | (rw[List.length_set];omega)) rfl ?_ | refine w_stEl (p:=oth.toNat) rfl (by omega) rfl (by omega) rfl ?_)
      | with_reducible (first | refine zI fun y hy=>?_ | refine zL ?_ | refine zS ?_ | refine zA fun _=>?_ | refine zV ?_ | refine zC ?_ | refine zG ?_ | refine zU ?_ | refine zG0 ?_ | refine zU0 ?_ | refine zF ?_)
      | ((with_reducible refine acall_id ?_);refine ACall.box (upp_c _ _ 7 (by omega) (by omega)) rfl rfl rfl ?_;rintro _ _ ⟨kd,rfl,hkd1,hkd2⟩)
      | ((with_reducible refine acall_id ?_);refine ACall.box (upp_c _ _ (1+bg) (by omega) (by omega)) rfl rfl rfl ?_;rintro _ _ ⟨oth,rfl,ho1,ho2⟩)
      | ((with_reducible refine acall_id ?_);refine ACall.box (any_c _ _ _ _ (by omega) (by omega) (by omega) (by omega)) rfl rfl rfl ?_;rintro _ _ ⟨c,rfl,hc1,hc2⟩)
      | ((with_reducible refine acall_id ?_);refine ACall.box (upp_c _ _ _ (by omega) (by omega)) rfl rfl rfl ?_;rintro _ _ ⟨wd,rfl,hw1,hw2⟩)
      | ((with_reducible refine acall_id ?_);refine ACall.box (one_c _ _ _ (by omega)) rfl rfl rfl ?_;rintro _ _ ⟨b,rfl⟩)
      | with_reducible (first | refine zX ?_ | refine zD fun _=>?_ | refine zD0 ?_ | refine zN ?_ | refine zF0 ?_ | refine zX0 ?_ | refine z1 ?_ | refine z2 ?_ | refine z3 ?_ | refine z4 ?_ | refine z5 ?_ | refine z6 ?_ | refine z7 ?_ | refine z8 ?_ | refine y1 ?_ | refine y2 ?_ | refine y3 ?_ | refine y4 ?_ | refine y5 ?_ | refine y6 ?_ | refine y7 ?_ | refine y8 ?_ | refine Rt.p (fun _=>?_) fun _=>?_)
      | ((with_reducible apply w_ixM);(focus exact rfl);(focus exact rfl);case' hk=>intro y hy) | ((with_reducible (first | apply w_val | apply q_ends));(focus exact rfl)))
     all_goals first
      | (exfalso;omega)
      | (have hq:kd≤2∧T.mixed+c≤12:=by omega
         exact q_loop (x::l++[⟨2,bag,0,wd,c⟩],{T with mixed:=T.mixed+c,bags:=setI T.bags bag (atI T.bags bag+c) },had,turn+1,_,_) ⟨hmk.mix (by omega) (by omega) (by omega) (by omega),by show turn+1≤10;omega,by show (x::l++[_]).length≤22;rw[len_snoc];omega,by dsimp only;omega,by dsimp only;omega,by dsimp only;omega⟩ (by show 10-(turn+1)<10-turn;omega) ⟨rfl,rfl,rfl,int_eq (by simp),trivial⟩ ⟨rfl,rfl,rfl,rfl,trivial⟩ (by repeat' (first | exact kept_nil | apply kept_cons | rfl)) (by repeat' (first | exact kept_nil | apply kept_cons | rfl)))
      | (have hq:kd=3∧bag≠oth:=by omega
         exact q_loop (x::l++[⟨3,bag,oth,0,0⟩],{T with bags:=setI (setI T.bags oth (atI T.bags oth+atI T.bags bag)) bag 0 },had,turn+1,_,_) ⟨hmk.pour (by omega) (by omega) (by omega),by show turn+1≤10;omega,by show (x::l++[_]).length≤22;rw[len_snoc];omega,by dsimp only;omega,by dsimp only;omega,by dsimp only;omega⟩ (by show 10-(turn+1)<10-turn;omega) ⟨rfl,rfl,rfl,int_eq (by simp),trivial⟩ ⟨rfl,rfl,rfl,rfl,trivial⟩ (by repeat' (first | exact kept_nil | apply kept_cons | rfl)) (by repeat' (first | exact kept_nil | apply kept_cons | rfl)))
      | (have hq:kd=4∧c≤T.bags.getD bag.toNat 0∧had+c≤drawn:=by omega
         exact q_loop (x::l++[⟨4,bag,0,0,c⟩],{T with bags:=setI T.bags bag (atI T.bags bag-c) },had+c,turn+1,_,_) ⟨hmk.aside (by omega) (by unfold atI;omega),by show turn+1≤10;omega,by show (x::l++[_]).length≤22;rw[len_snoc];omega,by dsimp only;omega,by dsimp only;omega,by dsimp only;omega⟩ (by show 10-(turn+1)<10-turn;omega) ⟨rfl,rfl,rfl,int_eq (by simp),trivial⟩ ⟨rfl,rfl,rfl,rfl,trivial⟩ (by repeat' (first | exact kept_nil | apply kept_cons | rfl)) (by repeat' (first | exact kept_nil | apply kept_cons | rfl)))
      | (have hq:kd=5∧c≤T.bags.getD bag.toNat 0∧had+c≤drawn∧T.cens+c≤cens:=by omega
         exact q_loop (x::l++[⟨5,bag,0,0,c⟩],{T with bags:=setI T.bags bag (atI T.bags bag-c),cens:=T.cens+c },had+c,turn+1,_,_) ⟨hmk.pass (by omega) (by unfold atI;omega) (by omega),by show turn+1≤10;omega,by show (x::l++[_]).length≤22;rw[len_snoc];omega,by dsimp only;omega,by dsimp only;omega,by dsimp only;omega⟩ (by show 10-(turn+1)<10-turn;omega) ⟨rfl,rfl,rfl,int_eq (by simp),trivial⟩ ⟨rfl,rfl,rfl,rfl,trivial⟩ (by repeat' (first | exact kept_nil | apply kept_cons | rfl)) (by repeat' (first | exact kept_nil | apply kept_cons | rfl)))
      | (have hq:kd=6∧T.cens<cens:=by omega
         exact q_loop (x::l++[⟨6,0,0,wd,0⟩],{T with cens:=T.cens+1 },had,turn+1,_,_) ⟨hmk.place (by omega) (by omega),by show turn+1≤10;omega,by show (x::l++[_]).length≤22;rw[len_snoc];omega,by dsimp only;omega,by dsimp only;omega,by dsimp only;omega⟩ (by show 10-(turn+1)<10-turn;omega) ⟨rfl,rfl,rfl,int_eq (by simp),trivial⟩ ⟨rfl,rfl,rfl,rfl,trivial⟩ (by repeat' (first | exact kept_nil | apply kept_cons | rfl)) (by repeat' (first | exact kept_nil | apply kept_cons | rfl)))
      | exact q_loop (x::l,T,had,turn+1,_,gd) ⟨hmk,by show turn+1≤10;omega,by show (x::l).length≤22;omega,by dsimp only;omega,by dsimp only;omega,by dsimp only;omega⟩ (by show 10-(turn+1)<10-turn;omega) ⟨rfl,rfl,rfl,int_eq (by simp),trivial⟩ (by repeat' (first | exact slots_nil | apply slots_cons | rfl | (rw[map_snoc];rfl) | (rw[len_snoc];rfl) | (rw[hS];rfl) | (rw[hS,map_snoc];rfl) | (refine int_eq ?_;(try dsimp only);omega) | (refine congrArg AV.bool ?_;simp_all;done))) (by repeat' (first | exact kept_nil | apply kept_cons | rfl)) (by repeat' (first | exact kept_nil | apply kept_cons | rfl))
 · have hstop:¬(turn:Int)<10∨(turn:Int)<10∧ ¬(D.length:Int)<22:=by omega
   cases D with
   | nil=>
     have hT:tb0=T:=hmk.t
     subst hT
     have hz:([]:List Dl).length=0:=rfl
     have hb0:tb0.bags.getD 0 0=0:=rfl
     have hc0:tb0.cens=0:=rfl
     repeat' (first
      | with_reducible (first | refine Rd.p ?_ | refine w_alt ?_ ?_ | refine zO ?_ | refine zE0 ?_)
      | (first | (refine w_apmNK (row:=Dl.row) (x0:=⟨_,_,_,_,_⟩) rfl rfl (by decide) ?_;intro g42) | refine w_ldEl (p:=0) rfl rfl rfl (by decide) ?_)
      | with_reducible (first | refine zI fun y hy=>?_ | refine zL ?_ | refine zS ?_ | refine zA fun _=>?_ | refine zV ?_ | refine zC ?_ | refine zG ?_ | refine zU ?_ | refine zG0 ?_ | refine zU0 ?_ | refine zF ?_)
      | ((with_reducible refine acall_id ?_);refine ACall.box (upp_c _ _ _ (by omega) (by omega)) rfl rfl rfl ?_;rintro _ _ ⟨wd,rfl,hwd1,hwd2⟩)
      | with_reducible (first | refine zX ?_ | refine zD fun _=>?_ | refine zD0 ?_ | refine zN ?_ | refine zF0 ?_ | refine zX0 ?_ | refine z1 ?_ | refine z2 ?_ | refine z3 ?_ | refine z4 ?_ | refine z5 ?_ | refine z6 ?_ | refine z7 ?_ | refine z8 ?_ | refine y1 ?_ | refine y2 ?_ | refine y3 ?_ | refine y4 ?_ | refine y5 ?_ | refine y6 ?_ | refine y7 ?_ | refine y8 ?_ | refine Rt.p (fun _=>?_) fun _=>?_)
      | ((with_reducible apply w_ixM);(focus exact rfl);(focus exact rfl);case' hk=>intro y hy) | ((with_reducible (first | apply w_val | apply q_ends));(focus exact rfl)))
     all_goals first
      | (exfalso;omega)
      | exact⟨(ws,⟨6,0,0,wd,0⟩,[],_,_),⟨rfl,mkG.made (G:=⟨ws,[⟨6,0,0,wd,0⟩]⟩) (hmk.place (by omega) (by omega)) hmw hw1 hw2 h1.2 (by show (1:Nat)≤24;decide) hhd ⟨by show (1:Int)≤tb0.cens+1;omega,by show tb0.cens+1≤cens;omega⟩⟩,rfl,rfl,trivial⟩
   | cons x l=>
     have hxl:(dlR (x::l)).length=(x::l).length:=List.length_map _
     rcases hstop with hstop | ⟨hstop,hstop2⟩
     all_goals
      repeat' (first
       | with_reducible (first | refine Rd.p ?_ | refine w_alt ?_ ?_ | refine zO ?_ | refine zE0 ?_)
       | (first | (refine w_apmMK (row:=Dl.row) (xs:=x::l) (x0:=⟨_,_,_,_,_⟩) dlFl rfl rfl rfl rfl (by omega) ?_;intro g42) | (refine w_ldBag (p:=0) hok rfl rfl rfl (by decide) ?_;intro hbd0))
       | with_reducible (first | refine zI fun y hy=>?_ | refine zL ?_ | refine zS ?_ | refine zA fun _=>?_ | refine zV ?_ | refine zC ?_ | refine zG ?_ | refine zU ?_ | refine zG0 ?_ | refine zU0 ?_ | refine zF ?_)
       | ((with_reducible refine acall_id ?_);refine ACall.box (upp_c _ _ _ (by omega) (by omega)) rfl rfl rfl ?_;rintro _ _ ⟨wd,rfl,hwd1,hwd2⟩)
       | with_reducible (first | refine zX ?_ | refine zD fun _=>?_ | refine zD0 ?_ | refine zN ?_ | refine zF0 ?_ | refine zX0 ?_ | refine z1 ?_ | refine z2 ?_ | refine z3 ?_ | refine z4 ?_ | refine z5 ?_ | refine z6 ?_ | refine z7 ?_ | refine z8 ?_ | refine y1 ?_ | refine y2 ?_ | refine y3 ?_ | refine y4 ?_ | refine y5 ?_ | refine y6 ?_ | refine y7 ?_ | refine y8 ?_ | refine Rt.p (fun _=>?_) fun _=>?_)
       | ((with_reducible apply w_ixM);(focus exact rfl);(focus exact rfl);case' hk=>intro y hy) | ((with_reducible (first | apply w_val | apply q_ends));(focus exact rfl)))
      all_goals first
       | (exfalso;omega)
       | (have hq:0<min (min (T.bags.getD 0 0) (drawn-had)) (cens-T.cens):=by omega
          exact⟨(ws,x,l++[⟨5,0,0,0,min (min (T.bags.getD 0 0) (drawn-had)) (cens-T.cens)⟩],_,_),⟨rfl,mkG.made (G:=⟨ws,x::l++[⟨5,0,0,0,min (min (T.bags.getD 0 0) (drawn-had)) (cens-T.cens)⟩]⟩) (hmk.pass (b:=0) (by omega) (by unfold atI;rw[show (0:Int).toNat=0 from rfl];omega) (by omega)) hmw hw1 hw2 h1.2 (by show (x::l++[_]).length≤24;rw[len_snoc];omega) (by omega) ⟨by dsimp only;omega,by dsimp only;omega⟩⟩,rfl,rfl,trivial⟩)
       | (have hq:T.cens=0:=by omega
          exact⟨(ws,x,l++[⟨6,0,0,wd,0⟩],_,_),⟨rfl,mkG.made (G:=⟨ws,x::l++[⟨6,0,0,wd,0⟩]⟩) (hmk.place (by omega) (by omega)) hmw hw1 hw2 h1.2 (by show (x::l++[_]).length≤24;rw[len_snoc];omega) hhd ⟨by dsimp only;omega,by dsimp only;omega⟩⟩,rfl,rfl,trivial⟩)
       | exact⟨(ws,x,l,_,_),⟨rfl,mkG.made (G:=⟨ws,x::l⟩) hmk hmw hw1 hw2 h1.2 (by show (x::l).length≤24;omega) hhd ⟨by omega,hcn⟩⟩,rfl,rfl,trivial⟩
def ir16:IFn:=
 ⟨16,[(4,none)],(.seq (.ops [oo 4 (.mov (kI 0))])
 (.seq (.seq (.ops [oo 5 (.mov 1),
 oo 6 (.bin .lss 5 (kI 2))])
 (.cnd 6
 (.seq (.ops [oo 4 (.mov (kI 0))])
 .ret)
 .skip))
 (.seq (.ops [oo 7 (.mov 0),
 oo 8 (.mov 1),
 oo 9 (.bin .rem 7 8),
 oo 0 (.mov 9)])
 (.seq (.seq (.ops [oo 10 (.mov 0),
 oo 11 (.bin .lss 10 (kI 0))])
 (.cnd 11
 (.ops [oo 12 (.mov 0),
 oo 13 (.mov 1),
 oo 14 (.bin .add 12 13),
 oo 0 (.mov 14)])
 .skip))
 (.seq (.ops [oo 15 (.mov 0),
 oo 4 (.mov 15)])
 .ret)))))⟩
def hint16 (P:Program):Hint:={}
def ir3:IFn:=
 ⟨48,[(8,none)],(.seq (.ops [oo 4 (.box 2 0),
 oo 5 (.box 5 1),
 oo 8 (.mov (kB false))])
 (.seq (.seq (.ops [oo 11 (.ld 2 true 4),
 oo 12 (.callF 12 [11])])
 (.cnd 12
 (.seq (.ops [oo 13 (.callF 13 []),
 oo 8 (.mov 13)])
 .ret)
 .skip))
 (.seq (.ops [oo 14 (.mov 3),
 oo 15 (.callF 15 [14]),
 oo 16 (.callF 14 [15,(kI 4),(kI 6),(kI 6)]),
 oo 9 (.new [.nsl,.nsl]),
 ⟨none,none,(.st 2 9 16)⟩])
 (.seq (.ops [oo 17 (.flA 1 9),
 oo 18 (.ld 1 false 17),
 oo 19 (.mov 2),
 oo 20 (.flA 1 9),
 oo 21 (.ld 1 false 20),
 oo 22 (.len false 21),
 oo 24 (.ld 5 true 5),
 oo 23 (.callF 16 [19,22]),
 ⟨none,none,(.chk 1 false 17 18)⟩,
 ⟨none,none,(.chk 5 true 5 24)⟩,
 oo 25 (.ixA 5 18 23),
 ⟨none,none,(.st 5 25 24)⟩])
 (.seq (.seq (.frz 18)
 (.ops [oo 26 (.ld 2 true 4),
 oo 27 (.callF 17 [26]),
 oo 10 (.new [.nsl,.nsl]),
 ⟨none,none,(.st 2 10 27)⟩]))
 (.seq (.ops [oo 28 (.ld 2 true 10),
 oo 30 (.ld 2 true 4),
 oo 29 (.callF 18 [28]),
 ⟨none,none,(.chk 2 true 4 30)⟩,
 oo 31 (.callF 19 [30]),
 oo 32 (.bin .eql 29 31),
 oo 33 (.mov 32),
 ⟨(some 34),(some (33,true)),(.ld 2 true 10)⟩,
 ⟨(some 35),(some (33,true)),(.ld 2 true 4)⟩,
 ⟨(some 36),(some (33,true)),(.callF 20 [34,35])⟩,
 oo 37 (.pick 33 36 (kB false)),
 oo 38 (.mov 37),
 ⟨(some 39),(some (38,true)),(.ld 2 true 9)⟩,
 ⟨(some 41),(some (38,true)),(.ld 2 true 9)⟩,
 ⟨(some 40),(some (38,true)),(.callF 18 [39])⟩,
 ⟨none,(some (38,true)),(.chk 2 true 9 41)⟩,
 ⟨(some 42),(some (38,true)),(.callF 19 [41])⟩,
 ⟨(some 43),(some (38,true)),(.bin .eql 40 42)⟩,
 oo 44 (.pick 38 43 (kB false)),
 oo 45 (.mov 44),
 ⟨(some 46),(some (45,true)),(.callF 13 [])⟩,
 oo 47 (.pick 45 46 (kB false)),
 oo 8 (.mov 47)])
 .ret))))))⟩
def hint3 (P:Program):Hint:={site:=[],nils:=[],frz:=[(27,18)],mve:=[],wr:=[] }
theorem fitN_c (a m:Int) (ha: -9223372036854775808≤a∧a≤9223372036854775807) (hm:1≤m∧m≤1000):Fn0 Try.prog 16 [.int .i64 a,.int .i64 m] (fun v=>v= .int .i64 (a%m)):=by
 have h0:=Int.emod_nonneg a (show m≠0 by omega)
 have h1:=Int.emod_lt_of_pos a (show 0<m by omega)
 by_cases hm1:m=1
 · subst hm1
   refine RawC.walk (H:=hint16 Try.prog) ir16 Try.func16 rfl rfl rfl ?_
   unfold ir16
   repeat' (first
    | refine advE ?_ | with_reducible refine w_alt ?_ ?_
    | with_reducible refine zI fun y hy=>?_ | refine advL ?_
    | refine adv ?_ | with_reducible (first | intro _ | refine Rt.p (fun _=>?_) fun _=>?_)
    | ((with_reducible apply w_ixM);(focus exact rfl);(focus exact rfl);case' hk=>intro y hy) | ((with_reducible (first | apply w_val | apply q_ends));(focus exact rfl)))
   all_goals first | (exfalso;omega) | (refine congrArg (AV.int .i64) ?_;omega)
 have ht:a.tmod m=a%m∨a.tmod m=a%m-m:=by
  rcases Int.le_total 0 a with h | h
  · left;exact Int.tmod_eq_emod_of_nonneg h
  · rw[Int.tmod_eq_emod]
    split
    · left;omega
    · right
      have:(m.natAbs:Int)=m:=by omega
      omega
 refine RawC.walk (H:=hint16 Try.prog) ir16 Try.func16 rfl rfl rfl ?_
 unfold ir16
 repeat' (first
  | refine advE ?_ | with_reducible refine w_alt ?_ ?_
  | with_reducible refine zI fun y hy=>?_ | refine advL ?_
  | refine adv ?_ | with_reducible (first | intro _ | refine Rt.p (fun _=>?_) fun _=>?_)
  | ((with_reducible apply w_ixM);(focus exact rfl);(focus exact rfl);case' hk=>intro y hy) | ((with_reducible (first | apply w_val | apply q_ends));(focus exact rfl)))
 all_goals first | (exfalso;omega) | (refine congrArg (AV.int .i64) ?_;omega)
theorem fitK_c (a m:Int) (ha: -9223372036854775808≤a∧a≤9223372036854775807) (hm:1≤m∧m≤1000):Fn0 Try.prog 16 [.int .i64 a,.int .i64 m] (fun v=>∃k:Int,v= .int .i64 k∧0≤k∧k<m):=
 (fitN_c a m ha hm).mono fun _ _ e=>⟨_,e,Int.emod_nonneg a (by omega),Int.emod_lt_of_pos a (by omega)⟩
theorem lawChecks_c (G:Gm) (d:Dl) (at_:Int) (nums:List Int) (hw:G.ws.length<2^63) (hd:G.ds.length<2^63) (ha: -9223372036854775808≤at_∧at_≤9223372036854775807) (hn:nums.length<2^62):Fn0 Try.prog 3 [gmA G,.agg d.row,.int .i64 at_,.slc 1 (iR nums) .non] (fun v=>v= .bool true):=by
 have hbig:=gmBig_c G hw hd
 refine RawC.walk (H:=hint3 Try.prog) ir3 Try.func3 rfl rfl rfl ?_
 unfold ir3
 repeat' (first
  | refine advE ?_ | with_reducible refine w_alt ?_ ?_
  | (refine w_stRow dlFl (k:=k.toNat) (xs:=x::l) (y':=d) rfl (by show (g42,Res.row (renL _ ((x::l).map Dl.row).flatten))=_;rw[dlFl.rens]) (by omega) (by omega) rfl ?_)
  | with_reducible refine zI fun y hy=>?_ | refine advL ?_
  | ((with_reducible refine acall_id ?_);refine ACall.val awake_c rfl rfl ?_)
  | ((with_reducible refine acall_id ?_);(refine ACall.exb hbig rfl ?_;intro b hb))
  | ((with_reducible refine acall_id ?_);refine ACall.liftS (boxOf_s nums hn) [] (some 6) rfl rfl rfl trivial (fun _=>rfl) ?_;rintro⟨gb,w⟩ _ rfl)
  | ((with_reducible refine acall_id ?_);refine ACall.liftS (gameOfW_c _ _ 4 6 6 (by decide) (by decide) (by decide)) [(1000,15)] (some 42) rfl rfl rfl ⟨⟨_,rfl⟩,trivial⟩ (fun _=>rfl) ?_;rintro⟨ws,x,l,g42,w2⟩ _ ⟨rfl,hm⟩<;>dsimp only[dlW,dlY])
  | ((with_reducible refine acall_id ?_);refine ACall.fn0 (fitK_c _ _ ha (by have h1:(x::l).length=l.length+1:=rfl;have h2:(x::l).length≤24:=hm.d;omega)) rfl ?_;rintro _ ⟨k,rfl,hk0,hk1⟩)
  | refine adv ?_ | with_reducible (first | intro _ | refine Rt.p (fun _=>?_) fun _=>?_)
  | ((with_reducible apply w_ixM);(focus exact rfl);(focus exact rfl);case' hk=>intro y hy) | ((with_reducible (first | apply w_val | apply q_ends));(focus exact rfl)))
 · rfl
 rename_i g4 g5 hbf g9
 have hsm:=hb hbf
 obtain⟨s1,s2,s3⟩:=hsm
 have hws:∀w∈G.ws,w.name.size≤1000:=fun w hw=>by have:=s3 w hw;omega
 have hl24:(x::l).length≤24:=hm.d
 have hw6:(ws.length:Int)≤4:=hm.n2
 have hws2:∀w∈ws,w.name.size≤1000:=fun w hw=>by have:=(madeW_ok hm.w).2 w hw;omega
 obtain⟨ds,hds⟩:∃ds,(x::l).set k.toNat d=ds:=⟨_,rfl⟩
 have hdl:ds.length=(x::l).length:=by rw[←hds,List.length_set]
 have hOw:=ownGame_c G (by omega) (by omega)
 have hck:=gCheck_c G (by omega) (by omega) hws
 have hrk:=gRefCheck_c G (by omega) (by omega) hws
 have hck2:=gCheck_c ⟨ws,ds⟩ (by show ws.length<1000;omega) (by show ds.length<1000;omega) hws2
 have hrk2:=gRefCheck_c ⟨ws,ds⟩ (by show ws.length<1000;omega) (by show ds.length<1000;omega) hws2
 have hEG:=eqGames_c G G (by omega) (by omega)
 rw[decide_eq_true ⟨rfl,rfl⟩] at hEG
 refine w_frzG (t:=18) (i:=16) (g:=g42) (n:=(x::l).length) (sz:=5) (c:=(ds.map Dl.row).flatten) [(4,.ref 4 g4 0),(9,.ref 9 g9 0)] [(4,(g4,.row [.slc 2 (wR G.ws) .non,.slc 5 (dlR G.ds) .non])),(9,(g9,.row [.slc 2 (wR ws) .non,.slc 5 (dlR ds) .non]))] rfl (by rw[←hds];rfl) (dlFl.scals _) ⟨rfl,rfl,trivial⟩ ⟨frzS_keep rfl (by decide) rfl,frzS_at (xs:=ds) dlFl hdl rfl (by decide) rfl,trivial⟩ ?_
 intro e σ
 repeat' (first
  | refine advE ?_ | with_reducible refine w_alt ?_ ?_
  | with_reducible refine zI fun y hy=>?_ | refine advL ?_
  | ((with_reducible refine acall_id ?_);refine ACall.val awake_c rfl rfl ?_)
  | ((with_reducible refine acall_id ?_);refine ACall.val hOw rfl rfl ?_)
  | ((with_reducible refine acall_id ?_);refine ACall.val hck rfl rfl ?_)
  | ((with_reducible refine acall_id ?_);refine ACall.val hrk rfl rfl ?_)
  | ((with_reducible refine acall_id ?_);refine ACall.val hEG rfl rfl ?_)
  | ((with_reducible refine acall_id ?_);refine ACall.val hck2 rfl rfl ?_)
  | ((with_reducible refine acall_id ?_);refine ACall.val hrk2 rfl rfl ?_)
  | refine adv ?_ | with_reducible (first | intro _ | refine Rt.p (fun _=>?_) fun _=>?_)
  | ((with_reducible apply w_ixM);(focus exact rfl);(focus exact rfl);case' hk=>intro y hy) | ((with_reducible (first | apply w_val | apply q_ends));(focus exact rfl)))
 all_goals first
  | (exfalso;omega)
  | rfl
end Go.Abs
