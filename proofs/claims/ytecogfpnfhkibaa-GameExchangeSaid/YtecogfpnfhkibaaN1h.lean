/- A part of the proofs of the laws of this seat: contracts of the functions that they reach, each proved of the program's form in Lean. No condition beyond those that each contract names. -/
import Derived.Test.YtecogfpnfhkibaaProg
import Derived.Test.YtecogfpnfhkibaaSnd3
import Derived.Test.YtecogfpnfhkibaaA0
import Derived.Test.YtecogfpnfhkibaaN1a
import Derived.Test.YtecogfpnfhkibaaN1b
import Derived.Test.YtecogfpnfhkibaaN1c
import Derived.Test.YtecogfpnfhkibaaN1d
import Derived.Test.YtecogfpnfhkibaaN1e
import Derived.Test.YtecogfpnfhkibaaN1f
import Derived.Test.YtecogfpnfhkibaaN1g
set_option linter.unusedVariables false
set_option linter.unusedSimpArgs false
set_option maxRecDepth 20000
set_option maxHeartbeats 4000000
namespace Go.Abs
open Go.Proofs
def ir14:IFn:=
 ⟨255,[(8,some (2,true))],(.seq (.ops [oo 8 (.new [.nsl,.nsl])])
 (.seq (.ops [oo 23 (.mov 0),
 oo 24 (.mov 1),
 oo 25 (.callF 32 [23,24]),
 oo 26 (.bld [.nsl,.nsl] [(0,1,25)]),
 oo 9 (.new [.nsl,.nsl]),
 ⟨none,none,(.st 2 9 26)⟩])
 (.seq (.seq (.ops [oo 10 (.mov (kI 0))])
 (.blk 0 (.loop (.seq (.seq (.ops [oo 27 (.mov 10),
 oo 28 (.flA 0 9),
 oo 29 (.ld 1 false 28),
 oo 30 (.len false 29),
 oo 31 (.bin .lss 27 30)])
 (.cnd 31
 .skip
 (.exit 0)))
 (.seq (.blk 1 (.seq (.ops [oo 34 (.mov 0),
 oo 35 (.callF 47 [34,(kI 3)]),
 oo 36 (.not 35)])
 (.cnd 36
 (.ops [oo 37 (.flA 1 9),
 oo 38 (.ld 1 false 37),
 oo 39 (.mov 10),
 oo 40 (.bld [(.int .i64 0),(.int .i64 0),(.int .i64 0),(.int .i64 0),(.int .i64 0)] [(0,1,(kI 1)),(3,1,39)]),
 oo 41 (.bsl 5 [[(.int .i64 0),(.int .i64 0),(.int .i64 0),(.int .i64 0),(.int .i64 0)]] [(0,40)]),
 oo 42 (.app 5 40 38 41 42),
 oo 43 (.flA 1 9),
 ⟨none,none,(.st 1 43 42)⟩])
 .skip)))
 (.ops [oo 32 (.mov 10),
 oo 33 (.bin .add 32 (kI 1)),
 oo 10 (.mov 33)]))))))
 (.seq (.ops [oo 44 (.mov 0),
 oo 45 (.callF 31 [44,(kI 2)]),
 oo 46 (.bin .add (kI 1) 45),
 oo 11 (.mov 46)])
 (.seq (.ops [oo 12 (.new [(.int .i64 0),(.int .i64 0),(.int .i64 0),(.int .i64 0)])])
 (.seq (.ops [oo 13 (.mov (kI 0)),
 oo 14 (.mov (kI 0)),
 oo 15 (.mov (kI 0))])
 (.seq (.seq (.ops [oo 16 (.mov (kI 0))])
 (.blk 2 (.loop (.seq (.seq (.ops [oo 47 (.mov 16),
 oo 48 (.bin .lss 47 (kI 10)),
 oo 49 (.mov 48),
 ⟨(some 50),(some (49,true)),(.flA 1 9)⟩,
 ⟨(some 51),(some (49,true)),(.ld 1 false 50)⟩,
 ⟨(some 52),(some (49,true)),(.len false 51)⟩,
 ⟨(some 53),(some (49,true)),(.bin .lss 52 (kI 22))⟩,
 oo 54 (.pick 49 53 (kB false))])
 (.cnd 54
 .skip
 (.exit 2)))
 (.seq (.blk 3 (.seq (.ops [oo 57 (.mov 0),
 oo 58 (.mov 11),
 oo 59 (.callF 31 [57,58]),
 oo 17 (.mov 59)])
 (.seq (.ops [oo 60 (.mov 0),
 oo 61 (.callF 31 [60,(kI 7)])])
 (.blk 4 (.seq (.seq (.ops [oo 83 (.bin .eql 61 (kI 0)),
 oo 82 (.mov 83)])
 (.cnd 82
 .skip
 (.seq (.ops [oo 84 (.bin .eql 61 (kI 1)),
 oo 82 (.mov 84)])
 (.cnd 82
 .skip
 (.ops [oo 85 (.bin .eql 61 (kI 2)),
 oo 82 (.mov 85)])))))
 (.cnd 82
 (.seq (.ops [oo 86 (.mov 0),
 oo 87 (.callF 30 [86,(kI 1),(kI 3)]),
 oo 18 (.mov 87)])
 (.seq (.ops [oo 88 (.mov 13),
 oo 89 (.mov 18),
 oo 90 (.bin .add 88 89),
 oo 91 (.bin .leq 90 (kI 12))])
 (.cnd 91
 (.seq (.ops [oo 92 (.flA 1 9),
 oo 93 (.ld 1 false 92),
 oo 94 (.mov 17),
 oo 95 (.mov 0),
 oo 96 (.flA 0 9),
 oo 97 (.ld 1 false 96),
 oo 98 (.len false 97),
 oo 100 (.mov 18),
 oo 99 (.callF 31 [95,98]),
 ⟨none,none,(.chk 1 false 92 93)⟩,
 oo 101 (.bld [(.int .i64 0),(.int .i64 0),(.int .i64 0),(.int .i64 0),(.int .i64 0)] [(0,1,(kI 2)),(1,1,94),(3,1,99),(4,1,100)]),
 oo 102 (.bsl 5 [[(.int .i64 0),(.int .i64 0),(.int .i64 0),(.int .i64 0),(.int .i64 0)]] [(0,101)]),
 oo 103 (.app 5 40 93 102 42),
 oo 104 (.flA 1 9),
 ⟨none,none,(.st 1 104 103)⟩])
 (.ops [oo 105 (.mov 17),
 oo 106 (.mov 13),
 oo 107 (.mov 18),
 oo 108 (.bin .add 106 107),
 oo 109 (.mov 17),
 oo 110 (.ixAr 4 1 12 109),
 oo 111 (.ld 1 false 110),
 oo 112 (.mov 18),
 oo 113 (.bin .add 111 112),
 oo 13 (.mov 108),
 oo 114 (.ixAr 4 1 12 105),
 ⟨none,none,(.st 1 114 113)⟩]))
 .skip)))
 (.seq (.ops [oo 116 (.bin .eql 61 (kI 3)),
 oo 115 (.mov 116)])
 (.cnd 115
 (.seq (.ops [oo 117 (.mov 0),
 oo 118 (.mov 11),
 oo 119 (.callF 31 [117,118]),
 oo 19 (.mov 119)])
 (.seq (.ops [oo 120 (.mov 19),
 oo 121 (.mov 17),
 oo 122 (.bin .neq 120 121)])
 (.cnd 122
 (.seq (.ops [oo 123 (.flA 1 9),
 oo 124 (.ld 1 false 123),
 oo 125 (.mov 17),
 oo 126 (.mov 19),
 oo 127 (.bld [(.int .i64 0),(.int .i64 0),(.int .i64 0),(.int .i64 0),(.int .i64 0)] [(0,1,(kI 3)),(1,1,125),(2,1,126)]),
 oo 128 (.bsl 5 [[(.int .i64 0),(.int .i64 0),(.int .i64 0),(.int .i64 0),(.int .i64 0)]] [(0,127)]),
 oo 129 (.app 5 40 124 128 42),
 oo 130 (.flA 1 9),
 ⟨none,none,(.st 1 130 129)⟩])
 (.ops [oo 131 (.mov 19),
 oo 132 (.mov 17),
 oo 133 (.mov 19),
 oo 134 (.ixAr 4 1 12 133),
 oo 135 (.ld 1 false 134),
 oo 136 (.mov 17),
 oo 137 (.ixAr 4 1 12 136),
 oo 138 (.ld 1 false 137),
 oo 139 (.bin .add 135 138),
 oo 140 (.ixAr 4 1 12 131),
 ⟨none,none,(.st 1 140 139)⟩,
 oo 141 (.ixAr 4 1 12 132),
 ⟨none,none,(.st 1 141 (kI 0))⟩]))
 .skip)))
 (.seq (.ops [oo 143 (.bin .eql 61 (kI 4)),
 oo 142 (.mov 143)])
 (.cnd 142
 (.seq (.ops [oo 144 (.mov 0),
 oo 145 (.callF 30 [144,(kI 1),(kI 2)]),
 oo 20 (.mov 145)])
 (.seq (.ops [oo 146 (.mov 20),
 oo 147 (.mov 17),
 oo 148 (.ixAr 4 1 12 147),
 oo 149 (.ld 1 false 148),
 oo 150 (.bin .leq 146 149),
 oo 151 (.mov 150),
 ⟨(some 152),(some (151,true)),(.mov 14)⟩,
 ⟨(some 153),(some (151,true)),(.mov 20)⟩,
 ⟨(some 154),(some (151,true)),(.bin .add 152 153)⟩,
 ⟨(some 155),(some (151,true)),(.mov 2)⟩,
 ⟨(some 156),(some (151,true)),(.bin .leq 154 155)⟩,
 oo 157 (.pick 151 156 (kB false))])
 (.cnd 157
 (.seq (.ops [oo 158 (.flA 1 9),
 oo 159 (.ld 1 false 158),
 oo 160 (.mov 17),
 oo 161 (.mov 20),
 oo 162 (.bld [(.int .i64 0),(.int .i64 0),(.int .i64 0),(.int .i64 0),(.int .i64 0)] [(0,1,(kI 4)),(1,1,160),(4,1,161)]),
 oo 163 (.bsl 5 [[(.int .i64 0),(.int .i64 0),(.int .i64 0),(.int .i64 0),(.int .i64 0)]] [(0,162)]),
 oo 164 (.app 5 40 159 163 42),
 oo 165 (.flA 1 9),
 ⟨none,none,(.st 1 165 164)⟩])
 (.ops [oo 166 (.mov 17),
 oo 167 (.mov 14),
 oo 168 (.mov 20),
 oo 169 (.bin .add 167 168),
 oo 170 (.mov 17),
 oo 171 (.ixAr 4 1 12 170),
 oo 172 (.ld 1 false 171),
 oo 173 (.mov 20),
 oo 174 (.bin .sub 172 173),
 oo 14 (.mov 169),
 oo 175 (.ixAr 4 1 12 166),
 ⟨none,none,(.st 1 175 174)⟩]))
 .skip)))
 (.seq (.ops [oo 177 (.bin .eql 61 (kI 5)),
 oo 176 (.mov 177)])
 (.cnd 176
 (.seq (.ops [oo 178 (.mov 0),
 oo 179 (.callF 30 [178,(kI 1),(kI 3)]),
 oo 21 (.mov 179)])
 (.seq (.ops [oo 180 (.mov 21),
 oo 181 (.mov 17),
 oo 182 (.ixAr 4 1 12 181),
 oo 183 (.ld 1 false 182),
 oo 184 (.bin .leq 180 183),
 oo 185 (.mov 184),
 ⟨(some 186),(some (185,true)),(.mov 14)⟩,
 ⟨(some 187),(some (185,true)),(.mov 21)⟩,
 ⟨(some 188),(some (185,true)),(.bin .add 186 187)⟩,
 ⟨(some 189),(some (185,true)),(.mov 2)⟩,
 ⟨(some 190),(some (185,true)),(.bin .leq 188 189)⟩,
 oo 191 (.pick 185 190 (kB false)),
 oo 192 (.mov 191),
 ⟨(some 193),(some (192,true)),(.mov 15)⟩,
 ⟨(some 194),(some (192,true)),(.mov 21)⟩,
 ⟨(some 195),(some (192,true)),(.bin .add 193 194)⟩,
 ⟨(some 196),(some (192,true)),(.mov 3)⟩,
 ⟨(some 197),(some (192,true)),(.bin .leq 195 196)⟩,
 oo 198 (.pick 192 197 (kB false))])
 (.cnd 198
 (.seq (.ops [oo 199 (.flA 1 9),
 oo 200 (.ld 1 false 199),
 oo 201 (.mov 17),
 oo 202 (.mov 21),
 oo 203 (.bld [(.int .i64 0),(.int .i64 0),(.int .i64 0),(.int .i64 0),(.int .i64 0)] [(0,1,(kI 5)),(1,1,201),(4,1,202)]),
 oo 204 (.bsl 5 [[(.int .i64 0),(.int .i64 0),(.int .i64 0),(.int .i64 0),(.int .i64 0)]] [(0,203)]),
 oo 205 (.app 5 40 200 204 42),
 oo 206 (.flA 1 9),
 ⟨none,none,(.st 1 206 205)⟩])
 (.ops [oo 207 (.mov 17),
 oo 208 (.mov 14),
 oo 209 (.mov 21),
 oo 210 (.bin .add 208 209),
 oo 211 (.mov 15),
 oo 212 (.mov 21),
 oo 213 (.bin .add 211 212),
 oo 214 (.mov 17),
 oo 215 (.ixAr 4 1 12 214),
 oo 216 (.ld 1 false 215),
 oo 217 (.mov 21),
 oo 218 (.bin .sub 216 217),
 oo 14 (.mov 210),
 oo 15 (.mov 213),
 oo 219 (.ixAr 4 1 12 207),
 ⟨none,none,(.st 1 219 218)⟩]))
 .skip)))
 (.seq (.ops [oo 62 (.mov 15),
 oo 63 (.mov 3),
 oo 64 (.bin .lss 62 63),
 oo 65 (.mov 64),
 ⟨(some 66),(some (65,true)),(.mov 0)⟩,
 ⟨(some 67),(some (65,true)),(.callF 47 [66,(kI 3)])⟩,
 oo 68 (.pick 65 67 (kB false))])
 (.cnd 68
 (.seq (.ops [oo 69 (.flA 1 9),
 oo 70 (.ld 1 false 69),
 oo 71 (.mov 0),
 oo 72 (.flA 0 9),
 oo 73 (.ld 1 false 72),
 oo 74 (.len false 73),
 oo 75 (.callF 31 [71,74]),
 ⟨none,none,(.chk 1 false 69 70)⟩,
 oo 76 (.bld [(.int .i64 0),(.int .i64 0),(.int .i64 0),(.int .i64 0),(.int .i64 0)] [(0,1,(kI 6)),(3,1,75)]),
 oo 77 (.bsl 5 [[(.int .i64 0),(.int .i64 0),(.int .i64 0),(.int .i64 0),(.int .i64 0)]] [(0,76)]),
 oo 78 (.app 5 40 70 77 42),
 oo 79 (.flA 1 9),
 ⟨none,none,(.st 1 79 78)⟩])
 (.ops [oo 80 (.mov 15),
 oo 81 (.bin .add 80 (kI 1)),
 oo 15 (.mov 81)]))
 .skip))))))))))))))
 (.ops [oo 55 (.mov 16),
 oo 56 (.bin .add 55 (kI 1)),
 oo 16 (.mov 56)]))))))
 (.seq (.seq (.ops [oo 220 (.ixAr 4 1 12 (kI 0)),
 oo 221 (.ld 1 false 220),
 oo 222 (.mov 2),
 oo 223 (.mov 14),
 oo 224 (.bin .sub 222 223),
 oo 225 (.mov 3),
 oo 226 (.mov 15),
 oo 227 (.bin .sub 225 226),
 oo 228 (.mx3 false 221 224 227),
 oo 22 (.mov 228)])
 (.seq (.ops [oo 229 (.mov 22),
 oo 230 (.bin .gtr 229 (kI 0))])
 (.cnd 230
 (.seq (.ops [oo 231 (.flA 1 9),
 oo 232 (.ld 1 false 231),
 oo 233 (.mov 22),
 oo 234 (.bld [(.int .i64 0),(.int .i64 0),(.int .i64 0),(.int .i64 0),(.int .i64 0)] [(0,1,(kI 5)),(4,1,233)]),
 oo 235 (.bsl 5 [[(.int .i64 0),(.int .i64 0),(.int .i64 0),(.int .i64 0),(.int .i64 0)]] [(0,234)]),
 oo 236 (.app 5 40 232 235 42),
 oo 237 (.flA 1 9),
 ⟨none,none,(.st 1 237 236)⟩])
 (.ops [oo 238 (.mov 15),
 oo 239 (.mov 22),
 oo 240 (.bin .add 238 239),
 oo 15 (.mov 240)]))
 .skip)))
 (.seq (.seq (.ops [oo 241 (.mov 15),
 oo 242 (.bin .eql 241 (kI 0))])
 (.cnd 242
 (.ops [oo 243 (.flA 1 9),
 oo 244 (.ld 1 false 243),
 oo 245 (.mov 0),
 oo 246 (.flA 0 9),
 oo 247 (.ld 1 false 246),
 oo 248 (.len false 247),
 oo 249 (.callF 31 [245,248]),
 ⟨none,none,(.chk 1 false 243 244)⟩,
 oo 250 (.bld [(.int .i64 0),(.int .i64 0),(.int .i64 0),(.int .i64 0),(.int .i64 0)] [(0,1,(kI 6)),(3,1,249)]),
 oo 251 (.bsl 5 [[(.int .i64 0),(.int .i64 0),(.int .i64 0),(.int .i64 0),(.int .i64 0)]] [(0,250)]),
 oo 252 (.app 5 40 244 251 42),
 oo 253 (.flA 1 9),
 ⟨none,none,(.st 1 253 252)⟩])
 .skip))
 (.seq (.ops [oo 254 (.ld 2 true 9),
 ⟨none,none,(.st 2 8 254)⟩])
 .ret))))))))))⟩
def hint14 (P:Program):Hint:={site:=[(42,42),(78,42),(103,42),(129,42),(164,42),(205,42),(236,42),(252,42)],nils:=[],frz:=[],mve:=[],wr:=[] }
def dlV (D:List Dl) (g:Nat):AV:=match D with
 | []=> .nsl
 | _::_=> .slc 5 (dlR D) (.own 42 g)
def dlX (D:List Dl) (g:Nat):Nat×Res:=match D with
 | []=>(0,.dead)
 | _::_=>(g,.row [])
theorem dlV_snoc {x:Dl} {l:List Dl} (d:Dl) (g:Nat):AV.slc 5 (dlR (x::l)++[d.row]) (.own 42 g)=dlV (x::l++[d]) g:=by
 show _=AV.slc 5 (dlR (x::l++[d])) _
 rw[show dlR (x::l++[d])=dlR (x::l)++[d.row] from List.map_append]
theorem sl9 {g9:Nat} {ws:List Wd} {x:Dl} {l:List Dl} (d:Dl) (g:Nat):(g9,Res.row [AV.slc 2 (wR ws) .non,.slc 5 (dlR (x::l)++[d.row]) (.own 42 g)])=(g9,Res.row [AV.slc 2 (wR ws) .non,dlV (x::l++[d]) g]):=
 congrArg (fun z=>(g9,Res.row [AV.slc 2 (wR ws) .non,z])) (dlV_snoc d g)
theorem gm_snoc {ws:List Wd} {x:Dl} {l:List Dl} (d:Dl):AV.agg [.slc 2 (wR ws) .non,.slc 5 (dlR (x::l)++[d.row]) .non]=gmA ⟨ws,x::l++[d]⟩:=by
 show _=AV.agg [.slc 2 (wR ws) .non,.slc 5 (dlR (x::l++[d])) .non]
 rw[show dlR (x::l++[d])=dlR (x::l)++[d.row] from List.map_append]
theorem w_ldBag {P:Program} {K:(Nat→AV)→Sig→Prop} {e:Nat→AV} {σ:Sig} {x:IOpd} {r:List IStep} {T:Tb} {d i g off p:Nat} (h:tbOK T) (hx:x.ev e= .ref i g off) (ho:off=p) (hσ:σ i=(g,.row (nI T.bags))) (hp:p<4) (hk:0≤T.bags.getD p 0∧T.bags.getD p 0≤12→stepsW P r K (upd e d (.int .i64 (T.bags.getD p 0))) σ):stepsW P (⟨some d,none,.ld 1 false x⟩::r) K e σ:=
 w_ldEl hx ho hσ (by rw[h.b];exact hp) (hk (h.at (b:=(p:Int)) hp))
theorem gameOf_c (g:Nat) (w woods drawn cens:Int) (h1:1≤woods∧woods≤6) (h2:0≤drawn∧drawn≤9) (h3:1≤cens∧cens≤9):RawC Try.prog 14 [.ref 1000 g 0,.int .i64 woods,.int .i64 drawn,.int .i64 cens] (BoxS g w) (BoxR g fun av=>∃G,av=gmA G∧madeO G woods drawn cens):=by
 refine RawC.walk (H:=hint14 Try.prog) ir14 Try.func14 rfl rfl rfl ?_
 unfold ir14
 repeat' (first
  | with_reducible (first | refine Rd.p ?_ | refine w_alt ?_ ?_ | refine zE ?_ | refine zE0 ?_)
  | with_reducible (first | refine zI fun y hy=>?_ | refine zL ?_ | refine zS ?_ | refine zA fun _=>?_ | refine zV ?_ | refine zC ?_ | refine zG ?_ | refine zU ?_ | refine zG0 ?_ | refine zU0 ?_ | refine zF ?_)
  | ((with_reducible refine acall_id ?_);refine ACall.box (woodsOf_c _ _ _ h1) rfl rfl rfl ?_;rintro _ _ ⟨ws,rfl,hmw,hw1,hw2⟩)
  | with_reducible (first | refine zX ?_ | refine zD fun _=>?_ | refine zD0 ?_ | refine zN ?_ | refine zF0 ?_ | refine zX0 ?_ | refine z1 ?_ | refine z2 ?_ | refine z3 ?_ | refine z4 ?_ | refine z5 ?_ | refine z6 ?_ | refine z7 ?_ | refine z8 ?_ | refine y1 ?_ | refine y2 ?_ | refine y3 ?_ | refine y4 ?_ | refine y5 ?_ | refine y6 ?_ | refine y7 ?_ | refine y8 ?_ | refine Rt.p (fun _=>?_) fun _=>?_)
  | ((with_reducible apply w_ixM);(focus exact rfl);(focus exact rfl);case' hk=>intro y hy) | ((with_reducible (first | apply w_val | apply q_ends));(focus exact rfl)))
 rename_i g8 w0 g9
 have hwl:(wR ws).length=ws.length:=List.length_map _
 refine w_loopK [0,2,3,8,9,50,51,52,53,66,67,152,153,154,155,156,186,187,188,189,190,193,194,195,196,197] [8] (fun x:List Dl×List Bool×Int×Nat×Nat=>mkG ws.length x.1 {tb0 with tried:=x.2.1 } 0∧x.2.2.2.2≤ws.length∧x.1.length≤x.2.2.2.2∧ ∀i:Nat,x.2.2.2.2≤i→x.2.1.getD i false=false)
  (fun x=>ws.length-x.2.2.2.2) (fun x=>[(10,.int .i64 (x.2.2.2.2:Int))]) (fun x=>[(1000,(g,.row [.int .u64 x.2.2.1])),(9,(g9,.row [.slc 2 (wR ws) .non,dlV x.1 x.2.2.2.1])),(42,dlX x.1 x.2.2.2.1)]) ([],tb0.tried,w0,0,0) ⟨mkG.nil _,Nat.zero_le _,Nat.le_refl _,fun i _=>by
    show ([false,false,false,false,false,false]:List Bool).getD i false=false
    rcases i with _ | _ | _ | _ | _ | _ | i<;>rfl⟩ ⟨rfl,trivial⟩ ⟨rfl,rfl,rfl,trivial⟩ ?_
 rintro⟨D,tr,w,gd,j⟩ ⟨hmk,hj,hDl,htr⟩ e σ
 dsimp only at hmk hj hDl htr ⊢
 by_cases hjn:j=ws.length
 rotate_left
 · have hmk2:=hmk.trial (w:=(j:Int)) (by omega) (htr j (Nat.le_refl _))
   have htr2:∀i:Nat,j+1≤i→(tr.set j true).getD i false=false:=fun i hi=>by
    rw[List.getD_eq_getElem?_getD,List.getElem?_set,if_neg (by omega),←List.getD_eq_getElem?_getD]
    exact htr i (by omega)
   cases D with
   | nil=>
     repeat' (first
      | with_reducible (first | refine Rd.p ?_ | refine w_alt ?_ ?_ | refine zE ?_ | refine zE0 ?_)
      | with_reducible (first | refine zI fun y hy=>?_ | refine zL ?_ | refine zS ?_ | refine zA fun _=>?_ | refine zV ?_ | refine zC ?_ | refine zG ?_ | refine zU ?_ | refine zG0 ?_ | refine zU0 ?_ | refine zF ?_)
      | ((with_reducible refine acall_id ?_);refine ACall.box (one_c _ _ _ (by omega)) rfl rfl rfl ?_;rintro _ _ ⟨b,rfl⟩)
      | with_reducible (first | refine zX ?_ | refine zD fun _=>?_ | refine zD0 ?_ | refine zN ?_ | refine zF0 ?_ | refine zX0 ?_ | refine z1 ?_ | refine z2 ?_ | refine z3 ?_ | refine z4 ?_ | refine z5 ?_ | refine z6 ?_ | refine z7 ?_ | refine z8 ?_ | refine y1 ?_ | refine y2 ?_ | refine y3 ?_ | refine y4 ?_ | refine y5 ?_ | refine y6 ?_ | refine y7 ?_ | refine y8 ?_ | refine Rt.p (fun _=>?_) fun _=>?_)
      | ((with_reducible apply w_ixM);(focus exact rfl);(focus exact rfl);case' hk=>intro y hy) | ((with_reducible (first | apply w_val | apply q_ends));(focus exact rfl)))
     all_goals first
      | (exfalso;omega)
      | exact q_loop ([⟨1,0,0,(j:Int),0⟩],tr.set j true,_,_,j+1) ⟨hmk2,by show j+1≤_;omega,Nat.le_add_left _ _,htr2⟩ (by show _-(j+1)<_-j;omega) ⟨int_eq (by simp),trivial⟩ (by repeat' (first | exact slots_nil | apply slots_cons | rfl | (rw[map_snoc];rfl) | (rw[len_snoc];rfl) | (rw[hS];rfl) | (rw[hS,map_snoc];rfl) | (refine int_eq ?_;(try dsimp only);omega) | (refine congrArg AV.bool ?_;simp_all;done))) (by repeat' (first | exact kept_nil | apply kept_cons | rfl)) (by repeat' (first | exact kept_nil | apply kept_cons | rfl))
      | exact q_loop ([],tr,_,gd,j+1) ⟨hmk,by show j+1≤_;omega,Nat.zero_le _,fun i hi=>htr i (by dsimp only at hi;omega)⟩ (by show _-(j+1)<_-j;omega) ⟨int_eq (by simp),trivial⟩ (by repeat' (first | exact slots_nil | apply slots_cons | rfl | (rw[map_snoc];rfl) | (rw[len_snoc];rfl) | (rw[hS];rfl) | (rw[hS,map_snoc];rfl) | (refine int_eq ?_;(try dsimp only);omega) | (refine congrArg AV.bool ?_;simp_all;done))) (by repeat' (first | exact kept_nil | apply kept_cons | rfl)) (by repeat' (first | exact kept_nil | apply kept_cons | rfl))
   | cons x l=>
     have hxl:(dlR (x::l)).length=(x::l).length:=List.length_map _
     repeat' (first
      | with_reducible (first | refine Rd.p ?_ | refine w_alt ?_ ?_ | refine zE ?_ | refine zE0 ?_)
      | with_reducible (first | refine zI fun y hy=>?_ | refine zL ?_ | refine zS ?_ | refine zA fun _=>?_ | refine zV ?_ | refine zC ?_ | refine zG ?_ | refine zU ?_ | refine zG0 ?_ | refine zU0 ?_ | refine zF ?_)
      | ((with_reducible refine acall_id ?_);refine ACall.box (one_c _ _ _ (by omega)) rfl rfl rfl ?_;rintro _ _ ⟨b,rfl⟩)
      | with_reducible (first | refine zX ?_ | refine zD fun _=>?_ | refine zD0 ?_ | refine zN ?_ | refine zF0 ?_ | refine zX0 ?_ | refine z1 ?_ | refine z2 ?_ | refine z3 ?_ | refine z4 ?_ | refine z5 ?_ | refine z6 ?_ | refine z7 ?_ | refine z8 ?_ | refine y1 ?_ | refine y2 ?_ | refine y3 ?_ | refine y4 ?_ | refine y5 ?_ | refine y6 ?_ | refine y7 ?_ | refine y8 ?_ | refine Rt.p (fun _=>?_) fun _=>?_)
      | ((with_reducible apply w_ixM);(focus exact rfl);(focus exact rfl);case' hk=>intro y hy) | ((with_reducible (first | apply w_val | apply q_ends));(focus exact rfl)))
     all_goals first
      | (exfalso;omega)
      | exact q_loop (x::l++[⟨1,0,0,(j:Int),0⟩],tr.set j true,_,_,j+1) ⟨hmk2,by show j+1≤_;omega,by show (x::l++[_]).length≤j+1;rw[len_snoc];omega,htr2⟩ (by show _-(j+1)<_-j;omega) ⟨int_eq (by simp),trivial⟩ ⟨rfl,sl9 ⟨1,0,0,(j:Int),0⟩ _,rfl,trivial⟩ (by repeat' (first | exact kept_nil | apply kept_cons | rfl)) (by repeat' (first | exact kept_nil | apply kept_cons | rfl))
      | exact q_loop (x::l,tr,_,gd,j+1) ⟨hmk,by show j+1≤_;omega,by show (x::l).length≤j+1;omega,fun i hi=>htr i (by dsimp only at hi;omega)⟩ (by show _-(j+1)<_-j;omega) ⟨int_eq (by simp),trivial⟩ (by repeat' (first | exact slots_nil | apply slots_cons | rfl | (rw[map_snoc];rfl) | (rw[len_snoc];rfl) | (rw[hS];rfl) | (rw[hS,map_snoc];rfl) | (refine int_eq ?_;(try dsimp only);omega) | (refine congrArg AV.bool ?_;simp_all;done))) (by repeat' (first | exact kept_nil | apply kept_cons | rfl)) (by repeat' (first | exact kept_nil | apply kept_cons | rfl))
 subst hjn
 clear htr hj
 repeat' (first
  | with_reducible (first | refine Rd.p ?_ | refine w_alt ?_ ?_ | refine zE ?_ | refine zE0 ?_)
  | with_reducible (first | refine zI fun y hy=>?_ | refine zL ?_ | refine zS ?_ | refine zA fun _=>?_ | refine zV ?_ | refine zC ?_ | refine zG ?_ | refine zU ?_ | refine zG0 ?_ | refine zU0 ?_ | refine zF ?_)
  | ((with_reducible refine acall_id ?_);refine ACall.box (upp_c _ _ 2 (by omega) (by omega)) rfl rfl rfl ?_;rintro _ _ ⟨bg,rfl,hbg1,hbg2⟩)
  | with_reducible (first | refine zX ?_ | refine zD fun _=>?_ | refine zD0 ?_ | refine zN ?_ | refine zF0 ?_ | refine zX0 ?_ | refine z1 ?_ | refine z2 ?_ | refine z3 ?_ | refine z4 ?_ | refine z5 ?_ | refine z6 ?_ | refine z7 ?_ | refine z8 ?_ | refine y1 ?_ | refine y2 ?_ | refine y3 ?_ | refine y4 ?_ | refine y5 ?_ | refine y6 ?_ | refine y7 ?_ | refine y8 ?_ | refine Rt.p (fun _=>?_) fun _=>?_)
  | ((with_reducible apply w_ixM);(focus exact rfl);(focus exact rfl);case' hk=>intro y hy) | ((with_reducible (first | apply w_val | apply q_ends));(focus exact rfl)))
 rename_i w1 g12
 refine w_loopK [0,2,3,8,9,11,12] [8] (fun x:List Dl×Tb×Int×Nat×Int×Nat=>mkG ws.length x.1 x.2.1 x.2.2.1∧x.2.2.2.1≤10∧x.1.length≤22∧0≤x.2.2.1∧x.2.2.1≤drawn∧x.2.1.cens≤cens)
  (fun x=>10-x.2.2.2.1) (fun x=>[(13,.int .i64 x.2.1.mixed),(14,.int .i64 x.2.2.1),(15,.int .i64 x.2.1.cens),(16,.int .i64 (x.2.2.2.1:Int))]) (fun x=>[(1000,(g,.row [.int .u64 x.2.2.2.2.1])),(9,(g9,.row [.slc 2 (wR ws) .non,dlV x.1 x.2.2.2.2.2])),(42,dlX x.1 x.2.2.2.2.2),(12,(g12,.row (nI x.2.1.bags)))]) (D,{tb0 with tried:=tr },0,0,w1,gd) ⟨hmk,Nat.zero_le _,by dsimp only;omega,Int.le_refl _,by dsimp only;omega,by show (0:Int)≤cens;omega⟩ ⟨rfl,rfl,rfl,rfl,trivial⟩ ⟨rfl,rfl,rfl,rfl,trivial⟩ ?_
 clear hmk hDl
 rintro⟨D,T,had,turn,w,gd⟩ ⟨hmk,hturn,hDl,hh0,hhd,hcn⟩ e σ
 dsimp only at hmk hturn hDl hh0 hhd hcn ⊢
 have hok:=hmk.ok
 have hb4:=hok.b
 have hm:=hok.m
 have hcc:=hok.c
 by_cases hgo:turn<10∧D.length<22
 · cases D with
   | nil=>
     repeat' (first
      | with_reducible (first | refine Rd.p ?_ | refine w_alt ?_ ?_ | refine zE ?_ | refine zE0 ?_)
      | with_reducible (first | refine zI fun y hy=>?_ | refine zL ?_ | refine zS ?_ | refine zA fun _=>?_ | refine zV ?_ | refine zC ?_ | refine zG ?_ | refine zU ?_ | refine zG0 ?_ | refine zU0 ?_ | refine zF ?_)
      | ((with_reducible refine acall_id ?_);refine ACall.box (upp_c _ _ (1+bg) (by omega) (by omega)) rfl rfl rfl ?_;rintro _ _ ⟨bag,rfl,hbag1,hbag2⟩)
      | with_reducible (first | refine zX ?_ | refine zD fun _=>?_ | refine zD0 ?_ | refine zN ?_ | refine zF0 ?_ | refine zX0 ?_ | refine z1 ?_ | refine z2 ?_ | refine z3 ?_ | refine z4 ?_ | refine z5 ?_ | refine z6 ?_ | refine z7 ?_ | refine z8 ?_ | refine y1 ?_ | refine y2 ?_ | refine y3 ?_ | refine y4 ?_ | refine y5 ?_ | refine y6 ?_ | refine y7 ?_ | refine y8 ?_ | refine Rt.p (fun _=>?_) fun _=>?_)
      | ((with_reducible apply w_ixM);(focus exact rfl);(focus exact rfl);case' hk=>intro y hy) | ((with_reducible (first | apply w_val | apply q_ends));(focus exact rfl)))
     repeat' (first
      | with_reducible (first | refine Rd.p ?_ | refine w_alt ?_ ?_ | refine zE ?_ | refine zE0 ?_)
      | (first | (refine w_ldBag (p:=bag.toNat) hok rfl (by omega) rfl (by omega) ?_;intro hbdB) | (refine w_ldBag (p:=oth.toNat) hok rfl (by omega) rfl (by omega) ?_;intro hbdO) | refine w_stEl (p:=bag.toNat) rfl (by omega) rfl (by first | omega | (rw[List.length_set];omega)) rfl ?_ | refine w_stEl (p:=oth.toNat) rfl (by omega) rfl (by omega) rfl ?_)
      | with_reducible (first | refine zI fun y hy=>?_ | refine zL ?_ | refine zS ?_ | refine zA fun _=>?_ | refine zV ?_ | refine zC ?_ | refine zG ?_ | refine zU ?_ | refine zG0 ?_ | refine zU0 ?_ | refine zF ?_)
      | ((with_reducible refine acall_id ?_);refine ACall.box (upp_c _ _ 7 (by omega) (by omega)) rfl rfl rfl ?_;rintro _ _ ⟨kd,rfl,hkd1,hkd2⟩)
      | ((with_reducible refine acall_id ?_);refine ACall.box (upp_c _ _ (1+bg) (by omega) (by omega)) rfl rfl rfl ?_;rintro _ _ ⟨oth,rfl,ho1,ho2⟩)
      | ((with_reducible refine acall_id ?_);refine ACall.box (any_c _ _ _ _ (by omega) (by omega) (by omega) (by omega)) rfl rfl rfl ?_;rintro _ _ ⟨c,rfl,hc1,hc2⟩)
      | ((with_reducible refine acall_id ?_);refine ACall.box (upp_c _ _ _ (by omega) (by omega)) rfl rfl rfl ?_;rintro _ _ ⟨wd,rfl,hw1,hw2⟩)
      | ((with_reducible refine acall_id ?_);refine ACall.box (one_c _ _ _ (by omega)) rfl rfl rfl ?_;rintro _ _ ⟨b,rfl⟩)
      | with_reducible (first | refine zX ?_ | refine zD fun _=>?_ | refine zD0 ?_ | refine zN ?_ | refine zF0 ?_ | refine zX0 ?_ | refine z1 ?_ | refine z2 ?_ | refine z3 ?_ | refine z4 ?_ | refine z5 ?_ | refine z6 ?_ | refine z7 ?_ | refine z8 ?_ | refine y1 ?_ | refine y2 ?_ | refine y3 ?_ | refine y4 ?_ | refine y5 ?_ | refine y6 ?_ | refine y7 ?_ | refine y8 ?_ | refine Rt.p (fun _=>?_) fun _=>?_)
      | ((with_reducible apply w_ixM);(focus exact rfl);(focus exact rfl);case' hk=>intro y hy) | ((with_reducible (first | apply w_val | apply q_ends));(focus exact rfl)))
     all_goals first
      | (exfalso;omega)
      | (have hq:kd≤2∧T.mixed+c≤12:=by omega
         exact q_loop ([⟨2,bag,0,wd,c⟩],{T with mixed:=T.mixed+c,bags:=setI T.bags bag (atI T.bags bag+c) },had,turn+1,_,_) ⟨hmk.mix (by omega) (by omega) (by omega) (by omega),by show turn+1≤10;omega,by show (1:Nat)≤22;decide,by dsimp only;omega,by dsimp only;omega,by dsimp only;omega⟩ (by show 10-(turn+1)<10-turn;omega) ⟨rfl,rfl,rfl,int_eq (by simp),trivial⟩ ⟨rfl,rfl,rfl,rfl,trivial⟩ (by repeat' (first | exact kept_nil | apply kept_cons | rfl)) (by repeat' (first | exact kept_nil | apply kept_cons | rfl)))
      | (have hq:kd=3∧bag≠oth:=by omega
         exact q_loop ([⟨3,bag,oth,0,0⟩],{T with bags:=setI (setI T.bags oth (atI T.bags oth+atI T.bags bag)) bag 0 },had,turn+1,_,_) ⟨hmk.pour (by omega) (by omega) (by omega),by show turn+1≤10;omega,by show (1:Nat)≤22;decide,by dsimp only;omega,by dsimp only;omega,by dsimp only;omega⟩ (by show 10-(turn+1)<10-turn;omega) ⟨rfl,rfl,rfl,int_eq (by simp),trivial⟩ ⟨rfl,rfl,rfl,rfl,trivial⟩ (by repeat' (first | exact kept_nil | apply kept_cons | rfl)) (by repeat' (first | exact kept_nil | apply kept_cons | rfl)))
      | (have hq:kd=4∧c≤T.bags.getD bag.toNat 0∧had+c≤drawn:=by omega
         exact q_loop ([⟨4,bag,0,0,c⟩],{T with bags:=setI T.bags bag (atI T.bags bag-c) },had+c,turn+1,_,_) ⟨hmk.aside (by omega) (by unfold atI;omega),by show turn+1≤10;omega,by show (1:Nat)≤22;decide,by dsimp only;omega,by dsimp only;omega,by dsimp only;omega⟩ (by show 10-(turn+1)<10-turn;omega) ⟨rfl,rfl,rfl,int_eq (by simp),trivial⟩ ⟨rfl,rfl,rfl,rfl,trivial⟩ (by repeat' (first | exact kept_nil | apply kept_cons | rfl)) (by repeat' (first | exact kept_nil | apply kept_cons | rfl)))
      | (have hq:kd=5∧c≤T.bags.getD bag.toNat 0∧had+c≤drawn∧T.cens+c≤cens:=by omega
         exact q_loop ([⟨5,bag,0,0,c⟩],{T with bags:=setI T.bags bag (atI T.bags bag-c),cens:=T.cens+c },had+c,turn+1,_,_) ⟨hmk.pass (by omega) (by unfold atI;omega) (by omega),by show turn+1≤10;omega,by show (1:Nat)≤22;decide,by dsimp only;omega,by dsimp only;omega,by dsimp only;omega⟩ (by show 10-(turn+1)<10-turn;omega) ⟨rfl,rfl,rfl,int_eq (by simp),trivial⟩ ⟨rfl,rfl,rfl,rfl,trivial⟩ (by repeat' (first | exact kept_nil | apply kept_cons | rfl)) (by repeat' (first | exact kept_nil | apply kept_cons | rfl)))
      | (have hq:kd=6∧T.cens<cens:=by omega
         exact q_loop ([⟨6,0,0,wd,0⟩],{T with cens:=T.cens+1 },had,turn+1,_,_) ⟨hmk.place (by omega) (by omega),by show turn+1≤10;omega,by show (1:Nat)≤22;decide,by dsimp only;omega,by dsimp only;omega,by dsimp only;omega⟩ (by show 10-(turn+1)<10-turn;omega) ⟨rfl,rfl,rfl,int_eq (by simp),trivial⟩ ⟨rfl,rfl,rfl,rfl,trivial⟩ (by repeat' (first | exact kept_nil | apply kept_cons | rfl)) (by repeat' (first | exact kept_nil | apply kept_cons | rfl)))
      | exact q_loop ([],T,had,turn+1,_,gd) ⟨hmk,by show turn+1≤10;omega,by show (([]:List Dl)).length≤22;decide,by dsimp only;omega,by dsimp only;omega,by dsimp only;omega⟩ (by show 10-(turn+1)<10-turn;omega) ⟨rfl,rfl,rfl,int_eq (by simp),trivial⟩ (by repeat' (first | exact slots_nil | apply slots_cons | rfl | (rw[map_snoc];rfl) | (rw[len_snoc];rfl) | (rw[hS];rfl) | (rw[hS,map_snoc];rfl) | (refine int_eq ?_;(try dsimp only);omega) | (refine congrArg AV.bool ?_;simp_all;done))) (by repeat' (first | exact kept_nil | apply kept_cons | rfl)) (by repeat' (first | exact kept_nil | apply kept_cons | rfl))
   | cons x l=>
     have hxl:(dlR (x::l)).length=(x::l).length:=List.length_map _
     repeat' (first
      | with_reducible (first | refine Rd.p ?_ | refine w_alt ?_ ?_ | refine zE ?_ | refine zE0 ?_)
      | with_reducible (first | refine zI fun y hy=>?_ | refine zL ?_ | refine zS ?_ | refine zA fun _=>?_ | refine zV ?_ | refine zC ?_ | refine zG ?_ | refine zU ?_ | refine zG0 ?_ | refine zU0 ?_ | refine zF ?_)
      | ((with_reducible refine acall_id ?_);refine ACall.box (upp_c _ _ (1+bg) (by omega) (by omega)) rfl rfl rfl ?_;rintro _ _ ⟨bag,rfl,hbag1,hbag2⟩)
      | with_reducible (first | refine zX ?_ | refine zD fun _=>?_ | refine zD0 ?_ | refine zN ?_ | refine zF0 ?_ | refine zX0 ?_ | refine z1 ?_ | refine z2 ?_ | refine z3 ?_ | refine z4 ?_ | refine z5 ?_ | refine z6 ?_ | refine z7 ?_ | refine z8 ?_ | refine y1 ?_ | refine y2 ?_ | refine y3 ?_ | refine y4 ?_ | refine y5 ?_ | refine y6 ?_ | refine y7 ?_ | refine y8 ?_ | refine Rt.p (fun _=>?_) fun _=>?_)
      | ((with_reducible apply w_ixM);(focus exact rfl);(focus exact rfl);case' hk=>intro y hy) | ((with_reducible (first | apply w_val | apply q_ends));(focus exact rfl)))
     repeat' (first
      | with_reducible (first | refine Rd.p ?_ | refine w_alt ?_ ?_ | refine zE ?_ | refine zE0 ?_)
      | (first | (refine w_ldBag (p:=bag.toNat) hok rfl (by omega) rfl (by omega) ?_;intro hbdB) | (refine w_ldBag (p:=oth.toNat) hok rfl (by omega) rfl (by omega) ?_;intro hbdO) | refine w_stEl (p:=bag.toNat) rfl (by omega) rfl (by first | omega | (rw[List.length_set];omega)) rfl ?_ | refine w_stEl (p:=oth.toNat) rfl (by omega) rfl (by omega) rfl ?_)
      | with_reducible (first | refine zI fun y hy=>?_ | refine zL ?_ | refine zS ?_ | refine zA fun _=>?_ | refine zV ?_ | refine zC ?_ | refine zG ?_ | refine zU ?_ | refine zG0 ?_ | refine zU0 ?_ | refine zF ?_)
      | ((with_reducible refine acall_id ?_);refine ACall.box (upp_c _ _ 7 (by omega) (by omega)) rfl rfl rfl ?_;rintro _ _ ⟨kd,rfl,hkd1,hkd2⟩)
      | ((with_reducible refine acall_id ?_);refine ACall.box (upp_c _ _ (1+bg) (by omega) (by omega)) rfl rfl rfl ?_;rintro _ _ ⟨oth,rfl,ho1,ho2⟩)
      | ((with_reducible refine acall_id ?_);refine ACall.box (any_c _ _ _ _ (by omega) (by omega) (by omega) (by omega)) rfl rfl rfl ?_;rintro _ _ ⟨c,rfl,hc1,hc2⟩)
      | ((with_reducible refine acall_id ?_);refine ACall.box (upp_c _ _ _ (by omega) (by omega)) rfl rfl rfl ?_;rintro _ _ ⟨wd,rfl,hw1,hw2⟩)
      | ((with_reducible refine acall_id ?_);refine ACall.box (one_c _ _ _ (by omega)) rfl rfl rfl ?_;rintro _ _ ⟨b,rfl⟩)
      | with_reducible (first | refine zX ?_ | refine zD fun _=>?_ | refine zD0 ?_ | refine zN ?_ | refine zF0 ?_ | refine zX0 ?_ | refine z1 ?_ | refine z2 ?_ | refine z3 ?_ | refine z4 ?_ | refine z5 ?_ | refine z6 ?_ | refine z7 ?_ | refine z8 ?_ | refine y1 ?_ | refine y2 ?_ | refine y3 ?_ | refine y4 ?_ | refine y5 ?_ | refine y6 ?_ | refine y7 ?_ | refine y8 ?_ | refine Rt.p (fun _=>?_) fun _=>?_)
      | ((with_reducible apply w_ixM);(focus exact rfl);(focus exact rfl);case' hk=>intro y hy) | ((with_reducible (first | apply w_val | apply q_ends));(focus exact rfl)))
     all_goals first
      | (exfalso;omega)
      | (have hq:kd≤2∧T.mixed+c≤12:=by omega
         exact q_loop (x::l++[⟨2,bag,0,wd,c⟩],{T with mixed:=T.mixed+c,bags:=setI T.bags bag (atI T.bags bag+c) },had,turn+1,_,_) ⟨hmk.mix (by omega) (by omega) (by omega) (by omega),by show turn+1≤10;omega,by show (x::l++[_]).length≤22;rw[len_snoc];omega,by dsimp only;omega,by dsimp only;omega,by dsimp only;omega⟩ (by show 10-(turn+1)<10-turn;omega) ⟨rfl,rfl,rfl,int_eq (by simp),trivial⟩ ⟨rfl,sl9 ⟨2,bag,0,wd,c⟩ _,rfl,rfl,trivial⟩ (by repeat' (first | exact kept_nil | apply kept_cons | rfl)) (by repeat' (first | exact kept_nil | apply kept_cons | rfl)))
      | (have hq:kd=3∧bag≠oth:=by omega
         exact q_loop (x::l++[⟨3,bag,oth,0,0⟩],{T with bags:=setI (setI T.bags oth (atI T.bags oth+atI T.bags bag)) bag 0 },had,turn+1,_,_) ⟨hmk.pour (by omega) (by omega) (by omega),by show turn+1≤10;omega,by show (x::l++[_]).length≤22;rw[len_snoc];omega,by dsimp only;omega,by dsimp only;omega,by dsimp only;omega⟩ (by show 10-(turn+1)<10-turn;omega) ⟨rfl,rfl,rfl,int_eq (by simp),trivial⟩ ⟨rfl,sl9 ⟨3,bag,oth,0,0⟩ _,rfl,rfl,trivial⟩ (by repeat' (first | exact kept_nil | apply kept_cons | rfl)) (by repeat' (first | exact kept_nil | apply kept_cons | rfl)))
      | (have hq:kd=4∧c≤T.bags.getD bag.toNat 0∧had+c≤drawn:=by omega
         exact q_loop (x::l++[⟨4,bag,0,0,c⟩],{T with bags:=setI T.bags bag (atI T.bags bag-c) },had+c,turn+1,_,_) ⟨hmk.aside (by omega) (by unfold atI;omega),by show turn+1≤10;omega,by show (x::l++[_]).length≤22;rw[len_snoc];omega,by dsimp only;omega,by dsimp only;omega,by dsimp only;omega⟩ (by show 10-(turn+1)<10-turn;omega) ⟨rfl,rfl,rfl,int_eq (by simp),trivial⟩ ⟨rfl,sl9 ⟨4,bag,0,0,c⟩ _,rfl,rfl,trivial⟩ (by repeat' (first | exact kept_nil | apply kept_cons | rfl)) (by repeat' (first | exact kept_nil | apply kept_cons | rfl)))
      | (have hq:kd=5∧c≤T.bags.getD bag.toNat 0∧had+c≤drawn∧T.cens+c≤cens:=by omega
         exact q_loop (x::l++[⟨5,bag,0,0,c⟩],{T with bags:=setI T.bags bag (atI T.bags bag-c),cens:=T.cens+c },had+c,turn+1,_,_) ⟨hmk.pass (by omega) (by unfold atI;omega) (by omega),by show turn+1≤10;omega,by show (x::l++[_]).length≤22;rw[len_snoc];omega,by dsimp only;omega,by dsimp only;omega,by dsimp only;omega⟩ (by show 10-(turn+1)<10-turn;omega) ⟨rfl,rfl,rfl,int_eq (by simp),trivial⟩ ⟨rfl,sl9 ⟨5,bag,0,0,c⟩ _,rfl,rfl,trivial⟩ (by repeat' (first | exact kept_nil | apply kept_cons | rfl)) (by repeat' (first | exact kept_nil | apply kept_cons | rfl)))
      | (have hq:kd=6∧T.cens<cens:=by omega
         exact q_loop (x::l++[⟨6,0,0,wd,0⟩],{T with cens:=T.cens+1 },had,turn+1,_,_) ⟨hmk.place (by omega) (by omega),by show turn+1≤10;omega,by show (x::l++[_]).length≤22;rw[len_snoc];omega,by dsimp only;omega,by dsimp only;omega,by dsimp only;omega⟩ (by show 10-(turn+1)<10-turn;omega) ⟨rfl,rfl,rfl,int_eq (by simp),trivial⟩ ⟨rfl,sl9 ⟨6,0,0,wd,0⟩ _,rfl,rfl,trivial⟩ (by repeat' (first | exact kept_nil | apply kept_cons | rfl)) (by repeat' (first | exact kept_nil | apply kept_cons | rfl)))
      | exact q_loop (x::l,T,had,turn+1,_,gd) ⟨hmk,by show turn+1≤10;omega,by show (x::l).length≤22;omega,by dsimp only;omega,by dsimp only;omega,by dsimp only;omega⟩ (by show 10-(turn+1)<10-turn;omega) ⟨rfl,rfl,rfl,int_eq (by simp),trivial⟩ (by repeat' (first | exact slots_nil | apply slots_cons | rfl | (rw[map_snoc];rfl) | (rw[len_snoc];rfl) | (rw[hS];rfl) | (rw[hS,map_snoc];rfl) | (refine int_eq ?_;(try dsimp only);omega) | (refine congrArg AV.bool ?_;simp_all;done))) (by repeat' (first | exact kept_nil | apply kept_cons | rfl)) (by repeat' (first | exact kept_nil | apply kept_cons | rfl))
 · have hstop:¬(turn:Int)<10∨(turn:Int)<10∧ ¬(D.length:Int)<22:=by omega
   cases D with
   | nil=>
     have hT:tb0=T:=hmk.t
     subst hT
     have hz:([]:List Dl).length=0:=rfl
     have hb0:tb0.bags.getD 0 0=0:=rfl
     have hc0:tb0.cens=0:=rfl
     repeat' (first
      | with_reducible (first | refine Rd.p ?_ | refine w_alt ?_ ?_ | refine zE ?_ | refine zE0 ?_)
      | (first | refine w_ldEl (p:=0) rfl rfl rfl (by decide) ?_)
      | with_reducible (first | refine zI fun y hy=>?_ | refine zL ?_ | refine zS ?_ | refine zA fun _=>?_ | refine zV ?_ | refine zC ?_ | refine zG ?_ | refine zU ?_ | refine zG0 ?_ | refine zU0 ?_ | refine zF ?_)
      | ((with_reducible refine acall_id ?_);refine ACall.box (upp_c _ _ _ (by omega) (by omega)) rfl rfl rfl ?_;rintro _ _ ⟨wd,rfl,hwd1,hwd2⟩)
      | with_reducible (first | refine zX ?_ | refine zD fun _=>?_ | refine zD0 ?_ | refine zN ?_ | refine zF0 ?_ | refine zX0 ?_ | refine z1 ?_ | refine z2 ?_ | refine z3 ?_ | refine z4 ?_ | refine z5 ?_ | refine z6 ?_ | refine z7 ?_ | refine z8 ?_ | refine y1 ?_ | refine y2 ?_ | refine y3 ?_ | refine y4 ?_ | refine y5 ?_ | refine y6 ?_ | refine y7 ?_ | refine y8 ?_ | refine Rt.p (fun _=>?_) fun _=>?_)
      | ((with_reducible apply w_ixM);(focus exact rfl);(focus exact rfl);case' hk=>intro y hy) | ((with_reducible (first | apply w_val | apply q_ends));(focus exact rfl)))
     all_goals first
      | (exfalso;omega)
      | exact⟨_,⟨⟨ws,[⟨6,0,0,wd,0⟩]⟩,rfl,mkG.made (G:=⟨ws,[⟨6,0,0,wd,0⟩]⟩) (hmk.place (by omega) (by omega)) hmw hw1 hw2 h1.2 (by show (1:Nat)≤24;decide) hhd ⟨by show (1:Int)≤tb0.cens+1;omega,by show tb0.cens+1≤cens;omega⟩⟩,rfl⟩
   | cons x l=>
     have hxl:(dlR (x::l)).length=(x::l).length:=List.length_map _
     rcases hstop with hstop | ⟨hstop,hstop2⟩
     all_goals
      repeat' (first
       | with_reducible (first | refine Rd.p ?_ | refine w_alt ?_ ?_ | refine zE ?_ | refine zE0 ?_)
       | (first | (refine w_ldBag (p:=0) hok rfl rfl rfl (by decide) ?_;intro hbd0))
       | with_reducible (first | refine zI fun y hy=>?_ | refine zL ?_ | refine zS ?_ | refine zA fun _=>?_ | refine zV ?_ | refine zC ?_ | refine zG ?_ | refine zU ?_ | refine zG0 ?_ | refine zU0 ?_ | refine zF ?_)
       | ((with_reducible refine acall_id ?_);refine ACall.box (upp_c _ _ _ (by omega) (by omega)) rfl rfl rfl ?_;rintro _ _ ⟨wd,rfl,hwd1,hwd2⟩)
       | with_reducible (first | refine zX ?_ | refine zD fun _=>?_ | refine zD0 ?_ | refine zN ?_ | refine zF0 ?_ | refine zX0 ?_ | refine z1 ?_ | refine z2 ?_ | refine z3 ?_ | refine z4 ?_ | refine z5 ?_ | refine z6 ?_ | refine z7 ?_ | refine z8 ?_ | refine y1 ?_ | refine y2 ?_ | refine y3 ?_ | refine y4 ?_ | refine y5 ?_ | refine y6 ?_ | refine y7 ?_ | refine y8 ?_ | refine Rt.p (fun _=>?_) fun _=>?_)
       | ((with_reducible apply w_ixM);(focus exact rfl);(focus exact rfl);case' hk=>intro y hy) | ((with_reducible (first | apply w_val | apply q_ends));(focus exact rfl)))
      all_goals first
       | (exfalso;omega)
       | (have hq:0<min (min (T.bags.getD 0 0) (drawn-had)) (cens-T.cens):=by omega
          exact⟨_,⟨⟨ws,x::l++[⟨5,0,0,0,min (min (T.bags.getD 0 0) (drawn-had)) (cens-T.cens)⟩]⟩,by
           show AV.agg [AV.slc 2 (wR ws) .non,AV.slc 5 _ .non]=_
           exact gm_snoc (ws:=ws) (x:=x) (l:=l) ⟨5,0,0,0,min (min (T.bags.getD 0 0) (drawn-had)) (cens-T.cens)⟩,mkG.made (G:=⟨ws,x::l++[⟨5,0,0,0,min (min (T.bags.getD 0 0) (drawn-had)) (cens-T.cens)⟩]⟩) (hmk.pass (b:=0) (by omega) (by unfold atI;rw[show (0:Int).toNat=0 from rfl];omega) (by omega)) hmw hw1 hw2 h1.2 (by show (x::l++[_]).length≤24;rw[len_snoc];omega) (by omega) ⟨by dsimp only;omega,by dsimp only;omega⟩⟩,rfl⟩)
       | (have hq:T.cens=0:=by omega
          exact⟨_,⟨⟨ws,x::l++[⟨6,0,0,wd,0⟩]⟩,by
           show AV.agg [AV.slc 2 (wR ws) .non,AV.slc 5 _ .non]=_
           exact gm_snoc (ws:=ws) (x:=x) (l:=l) ⟨6,0,0,wd,0⟩,mkG.made (G:=⟨ws,x::l++[⟨6,0,0,wd,0⟩]⟩) (hmk.place (by omega) (by omega)) hmw hw1 hw2 h1.2 (by show (x::l++[_]).length≤24;rw[len_snoc];omega) hhd ⟨by dsimp only;omega,by dsimp only;omega⟩⟩,rfl⟩)
       | exact⟨_,⟨⟨ws,x::l⟩,rfl,mkG.made (G:=⟨ws,x::l⟩) hmk hmw hw1 hw2 h1.2 (by show (x::l).length≤24;omega) hhd ⟨by omega,hcn⟩⟩,rfl⟩
section
variable {P:Program}
structure FlatR {α:Type} (row:α→List AV) (sz:Nat):Prop where
 len:∀x,(row x).length=sz
 norm:∀x,normL (row x)=row x
 scal:∀x,(row x).all AV.scal=true
 frz:∀i g c x,frzL i g c (row x)=row x
 ren:∀ρ x,renL ρ (row x)=row x
variable {α:Type} {row:α→List AV} {sz:Nat}
theorem FlatR.flat_len (h:FlatR row sz):∀xs:List α,(xs.map row).flatten.length=xs.length*sz
 | []=>by simp
 | x::xs=>by simp only[List.map_cons,List.flatten_cons,List.length_append,h.len,h.flat_len xs,List.length_cons,Nat.add_mul];omega
theorem FlatR.chunk (h:FlatR row sz):∀xs:List α,chunk sz xs.length (normL (xs.map row).flatten)=xs.map row
 | []=>rfl
 | x::xs=>by
   have e:normL ((x::xs).map row).flatten=row x++normL (xs.map row).flatten:=by
    simp only[List.map_cons,List.flatten_cons,normL,List.map_append]
    congr 1
    exact h.norm x
   rw[e,List.length_cons,Go.Abs.chunk,List.take_left' (h.len x),List.drop_left' (h.len x),h.chunk xs];rfl
theorem FlatR.set (h:FlatR row sz) {pre post:List α} {y y':α} {j:Nat} {c:AV} (hj:j<sz) (hy:(row y).set j c=row y'):((pre++y::post).map row).flatten.set (pre.length*sz+j) c=((pre++y'::post).map row).flatten:=by
 rw[List.map_append,List.map_cons,List.flatten_append,List.flatten_cons,List.set_append_right _ _ (by rw[h.flat_len];omega),h.flat_len,Nat.add_sub_cancel_left,List.set_append_left _ _ (by rw[h.len];exact hj),hy]
 simp
end
theorem subV2 {P:Program} {f:Nat} {args:List AV} {a b:AV} (h:Fn0 P f args (fun v=>v=a)) (hs:Sub a b):Fn0 P f args (fun v=>v=b):=
 h.sub fun _ _ e=>⟨b,e▸hs,rfl⟩
theorem crsO_bd (G:Gm):(crsO G).1.length≤5000∧ ∀x∈(crsO G).1,x.1.length≤9:=by
 unfold crsO
 by_cases h0:gmErr G=0
 · rw[if_pos h0]
   by_cases h5:(crsG G).length≤5000
   · rw[if_pos h5]
     refine⟨h5,fun x hx=>?_⟩
     have hG:=gm_ok h0
     have:=((crsG_mem hG).1 hx).1.1
     have:=hG.cen
     omega
   · rw[if_neg h5]
     exact⟨Nat.zero_le _,fun x hx=>by cases hx⟩
 · rw[if_neg h0]
   exact⟨Nat.zero_le _,fun x hx=>by cases hx⟩
theorem boxOf_s (l:List Int) (hl:l.length<2^62):RawC Try.prog 15 [.slc 1 (iR l) .non] (sg []) (SR (fun (x:Nat×Int) v=>v= .ref 6 x.1 0) (fun x=>[(6,(x.1,.row [.int .u64 x.2]))])):=
 (boxOf_c l hl).mono fun _ _ ⟨g,w,h1,h2⟩=>⟨(g,w),h1,h2,trivial⟩
def ir23:IFn:=
 ⟨27,[(4,none)],(.seq (.ops [oo 4 (.mov (kB false))])
 (.seq (.seq (.ops [oo 6 (.mov 0),
 oo 7 (.len false 6),
 oo 8 (.mov 1),
 oo 9 (.len false 8),
 oo 10 (.bin .neq 7 9)])
 (.cnd 10
 (.seq (.ops [oo 4 (.mov (kB false))])
 .ret)
 .skip))
 (.seq (.seq (.ops [oo 5 (.mov (kI 0))])
 (.blk 0 (.loop (.seq (.seq (.ops [oo 11 (.mov 5),
 oo 12 (.mov 0),
 oo 13 (.len false 12),
 oo 14 (.bin .lss 11 13)])
 (.cnd 14
 .skip
 (.exit 0)))
 (.seq (.blk 1 (.seq (.ops [oo 17 (.mov 0),
 oo 18 (.mov 5),
 oo 19 (.ixA 1 17 18),
 oo 20 (.ld 1 false 19),
 oo 21 (.mov 1),
 oo 22 (.mov 5),
 oo 23 (.ixA 1 21 22),
 oo 24 (.ld 1 false 23),
 oo 25 (.callF 24 [20,24]),
 oo 26 (.not 25)])
 (.cnd 26
 (.seq (.ops [oo 4 (.mov (kB false))])
 .ret)
 .skip)))
 (.ops [oo 15 (.mov 5),
 oo 16 (.bin .add 15 (kI 1)),
 oo 5 (.mov 16)]))))))
 (.seq (.ops [oo 4 (.mov (kB true))])
 .ret))))⟩
def hint23 (P:Program):Hint:={}
def ir46:IFn:=
 ⟨13,[(0,some (2,true))],(.seq (.ops [oo 0 (.new [.nsl,.nsl])])
 (.seq (.ops [oo 1 (.bld [(.str ByteArray.empty),(.int .i64 0)] [(0,1,(.k (.str ⟨#[97]⟩))),(1,1,(kI 1))]),
 oo 2 (.bld [(.str ByteArray.empty),(.int .i64 0)] [(0,1,(.k (.str ⟨#[98]⟩))),(1,1,(kI 2))]),
 oo 3 (.bld [(.str ByteArray.empty),(.int .i64 0)] [(0,1,(.k (.str ⟨#[99]⟩))),(1,1,(kI 3))]),
 oo 4 (.bsl 2 [[(.str ByteArray.empty),(.int .i64 0)],[(.str ByteArray.empty),(.int .i64 0)],[(.str ByteArray.empty),(.int .i64 0)]] [(0,1),(1,2),(2,3)]),
 oo 5 (.bld [(.int .i64 0),(.int .i64 0),(.int .i64 0),(.int .i64 0),(.int .i64 0)] [(0,1,(kI 1))]),
 oo 6 (.bld [(.int .i64 0),(.int .i64 0),(.int .i64 0),(.int .i64 0),(.int .i64 0)] [(0,1,(kI 1)),(3,1,(kI 1))]),
 oo 7 (.bld [(.int .i64 0),(.int .i64 0),(.int .i64 0),(.int .i64 0),(.int .i64 0)] [(0,1,(kI 2)),(4,1,(kI 2))]),
 oo 8 (.bld [(.int .i64 0),(.int .i64 0),(.int .i64 0),(.int .i64 0),(.int .i64 0)] [(0,1,(kI 2)),(3,1,(kI 1)),(4,1,(kI 1))]),
 oo 9 (.bld [(.int .i64 0),(.int .i64 0),(.int .i64 0),(.int .i64 0),(.int .i64 0)] [(0,1,(kI 2)),(3,1,(kI 2)),(4,1,(kI 1))]),
 oo 10 (.bld [(.int .i64 0),(.int .i64 0),(.int .i64 0),(.int .i64 0),(.int .i64 0)] [(0,1,(kI 5)),(4,1,(kI 3))]),
 oo 11 (.bsl 5 [[(.int .i64 0),(.int .i64 0),(.int .i64 0),(.int .i64 0),(.int .i64 0)],[(.int .i64 0),(.int .i64 0),(.int .i64 0),(.int .i64 0),(.int .i64 0)],[(.int .i64 0),(.int .i64 0),(.int .i64 0),(.int .i64 0),(.int .i64 0)],[(.int .i64 0),(.int .i64 0),(.int .i64 0),(.int .i64 0),(.int .i64 0)],[(.int .i64 0),(.int .i64 0),(.int .i64 0),(.int .i64 0),(.int .i64 0)],[(.int .i64 0),(.int .i64 0),(.int .i64 0),(.int .i64 0),(.int .i64 0)]] [(0,5),(1,6),(2,7),(3,8),(4,9),(5,10)]),
 oo 12 (.bld [.nsl,.nsl] [(0,1,4),(1,1,11)]),
 ⟨none,none,(.st 2 0 12)⟩])
 .ret))⟩
def hint46 (P:Program):Hint:={}
def ir13:IFn:=
 ⟨44,[(0,none)],(.seq (.ops [oo 0 (.mov (kB false))])
 (.seq (.ops [oo 7 (.callF 46 []),
 oo 8 (.bld [(.int .i64 0),(.int .i64 0)] [(0,1,(kI 1))]),
 oo 9 (.callF 44 [7,8]),
 oo 6 (.mov 9),
 oo 10 (.ext 0 6),
 oo 11 (.ext 1 6),
 oo 12 (.ext 2 6),
 oo 1 (.mov 10),
 oo 2 (.mov 11),
 oo 3 (.mov 12)])
 (.seq (.ops [oo 14 (.callF 46 []),
 oo 15 (.bsl 1 [[(.int .i64 0)],[(.int .i64 0)],[(.int .i64 0)]] [(0,(kI 0)),(1,(kI 2)),(2,(kI 1))]),
 oo 16 (.callF 28 [14,15]),
 oo 13 (.mov 16),
 oo 17 (.ext 0 13),
 oo 18 (.ext 1 13),
 oo 4 (.mov 17),
 oo 5 (.mov 18)])
 (.seq (.ops [oo 19 (.mov 3),
 oo 20 (.bin .eql 19 (kI 0)),
 oo 21 (.mov 20),
 ⟨(some 22),(some (21,true)),(.mov 5)⟩,
 ⟨(some 23),(some (21,true)),(.bin .eql 22 (kI 0))⟩,
 oo 24 (.pick 21 23 (kB false)),
 oo 25 (.mov 24),
 ⟨(some 26),(some (25,true)),(.mov 4)⟩,
 ⟨(some 27),(some (25,true)),(.bsl 1 [[(.int .i64 0)],[(.int .i64 0)],[(.int .i64 0)]] [(0,(kI 0)),(1,(kI 2)),(2,(kI 1))])⟩,
 ⟨(some 28),(some (25,true)),(.callF 24 [26,27])⟩,
 oo 29 (.pick 25 28 (kB false)),
 oo 30 (.mov 29),
 ⟨(some 31),(some (30,true)),(.mov 1)⟩,
 ⟨(some 32),(some (30,true)),(.bsl 1 [[(.int .i64 0)],[(.int .i64 0)],[(.int .i64 0)]] [(0,(kI 0)),(1,(kI 0)),(2,(kI 1))])⟩,
 ⟨(some 33),(some (30,true)),(.bsl 1 [[(.int .i64 0)],[(.int .i64 0)],[(.int .i64 0)]] [(0,(kI 0)),(1,(kI 1)),(2,(kI 0))])⟩,
 ⟨(some 34),(some (30,true)),(.bsl 1 [[(.int .i64 0)],[(.int .i64 0)],[(.int .i64 0)]] [(0,(kI 0)),(1,(kI 1)),(2,(kI 1))])⟩,
 ⟨(some 35),(some (30,true)),(.bsl 1 [[(.int .i64 0)],[(.int .i64 0)],[(.int .i64 0)]] [(0,(kI 0)),(1,(kI 1)),(2,(kI 2))])⟩,
 ⟨(some 36),(some (30,true)),(.bsl 1 [[.nsl],[.nsl],[.nsl],[.nsl]] [(0,32),(1,33),(2,34),(3,35)])⟩,
 ⟨(some 37),(some (30,true)),(.callF 23 [31,36])⟩,
 oo 38 (.pick 30 37 (kB false)),
 oo 39 (.mov 38),
 ⟨(some 40),(some (39,true)),(.mov 2)⟩,
 ⟨(some 41),(some (39,true)),(.bsl 1 [[(.int .i64 0)],[(.int .i64 0)],[(.int .i64 0)],[(.int .i64 0)]] [(0,(kI 4)),(1,(kI 4)),(2,(kI 4)),(3,(kI 12))])⟩,
 ⟨(some 42),(some (39,true)),(.callF 24 [40,41])⟩,
 oo 43 (.pick 39 42 (kB false)),
 oo 0 (.mov 43)])
 .ret))))⟩
def hint13 (P:Program):Hint:={}
theorem eqLists_c (a b:List (List Int)) (h:a.length<2^62) (hs:∀l∈a,l.length<2^62):Fn0 Try.prog 23 [.slc 1 (llR a) .non,.slc 1 (llR b) .non] (fun v=>v= .bool (decide (a=b))):=by
 refine RawC.walk (H:=hint23 Try.prog) ir23 Try.func23 rfl rfl rfl ?_
 unfold ir23
 repeat' (first
  | with_reducible (first | refine Rd.p ?_ | refine w_alt ?_ ?_ | refine zE ?_ | refine zE0 ?_)
  | with_reducible (first | refine zI fun y hy=>?_ | refine zL ?_ | refine zS ?_ | refine zA fun _=>?_ | refine zV ?_ | refine zC ?_ | refine zG ?_ | refine zU ?_ | refine zG0 ?_ | refine zU0 ?_ | refine zF ?_)
  | with_reducible (first | refine zX ?_ | refine zD fun _=>?_ | refine zD0 ?_ | refine zN ?_ | refine zF0 ?_ | refine zX0 ?_ | refine z1 ?_ | refine z2 ?_ | refine z3 ?_ | refine z4 ?_ | refine z5 ?_ | refine z6 ?_ | refine z7 ?_ | refine z8 ?_ | refine y1 ?_ | refine y2 ?_ | refine y3 ?_ | refine y4 ?_ | refine y5 ?_ | refine y6 ?_ | refine y7 ?_ | refine y8 ?_ | refine Rt.p (fun _=>?_) fun _=>?_)
  | ((with_reducible apply w_ixM);(focus exact rfl);(focus exact rfl);case' hk=>intro y hy) | ((with_reducible (first | apply w_val | apply q_ends));(focus exact rfl)))
 · rename_i h;refine congrArg AV.bool ?_;symm;rw[decide_eq_false_iff_not];intro e;subst e;exact h rfl
 rename_i hlen
 have hab:a.length=b.length:=by omega
 refine w_loopK [0,1] [] (fun x:List (List Int)×List (List Int)×List (List Int)=>a=x.1++x.2.1∧b=x.1++x.2.2) (fun x=>x.2.1.length) (fun x=>[(5,.int .i64 x.1.length)]) (fun _=>[]) ([],a,b) ⟨rfl,rfl⟩ ⟨rfl,trivial⟩ trivial ?_
 rintro⟨pre,pa,pb⟩ ⟨ha,hb⟩ e σ
 dsimp only at ha hb ⊢
 have hla:=congrArg List.length ha
 have hlb:=congrArg List.length hb
 simp only[List.length_append] at hla hlb
 cases pa with
 | nil=>
   simp only[List.length_nil] at hla
   repeat' (first
    | with_reducible (first | refine Rd.p ?_ | refine w_alt ?_ ?_ | refine zE ?_ | refine zE0 ?_)
    | with_reducible (first | refine zI fun y hy=>?_ | refine zL ?_ | refine zS ?_ | refine zA fun _=>?_ | refine zV ?_ | refine zC ?_ | refine zG ?_ | refine zU ?_ | refine zG0 ?_ | refine zU0 ?_ | refine zF ?_)
    | with_reducible (first | refine zX ?_ | refine zD fun _=>?_ | refine zD0 ?_ | refine zN ?_ | refine zF0 ?_ | refine zX0 ?_ | refine z1 ?_ | refine z2 ?_ | refine z3 ?_ | refine z4 ?_ | refine z5 ?_ | refine z6 ?_ | refine z7 ?_ | refine z8 ?_ | refine y1 ?_ | refine y2 ?_ | refine y3 ?_ | refine y4 ?_ | refine y5 ?_ | refine y6 ?_ | refine y7 ?_ | refine y8 ?_ | refine Rt.p (fun _=>?_) fun _=>?_)
    | ((with_reducible apply w_ixM);(focus exact rfl);(focus exact rfl);case' hk=>intro y hy) | ((with_reducible (first | apply w_val | apply q_ends));(focus exact rfl)))
   have:pb=[]:=List.length_eq_zero_iff.1 (by omega)
   subst this
   refine congrArg AV.bool ?_;symm;rw[decide_eq_true_eq,ha,hb]
 | cons x pa=>
   cases pb with
   | nil=>exfalso;simp only[List.length_nil,List.length_cons] at hla hlb;omega
   | cons y pb=>
     simp only[List.length_cons] at hla hlb
     have hE:=eq_c x y (hs x (by rw[ha];simp))
     repeat' (first
      | with_reducible (first | refine Rd.p ?_ | refine w_alt ?_ ?_ | refine zE ?_ | refine zE0 ?_)
      | (first | refine w_ixP ha rfl rfl ?_ | refine w_ixP hb rfl rfl ?_)
      | with_reducible (first | refine zI fun y hy=>?_ | refine zL ?_ | refine zS ?_ | refine zA fun _=>?_ | refine zV ?_ | refine zC ?_ | refine zG ?_ | refine zU ?_ | refine zG0 ?_ | refine zU0 ?_ | refine zF ?_)
      | ((with_reducible refine acall_id ?_);refine ACall.val hE rfl rfl ?_)
      | with_reducible (first | refine zX ?_ | refine zD fun _=>?_ | refine zD0 ?_ | refine zN ?_ | refine zF0 ?_ | refine zX0 ?_ | refine z1 ?_ | refine z2 ?_ | refine z3 ?_ | refine z4 ?_ | refine z5 ?_ | refine z6 ?_ | refine z7 ?_ | refine z8 ?_ | refine y1 ?_ | refine y2 ?_ | refine y3 ?_ | refine y4 ?_ | refine y5 ?_ | refine y6 ?_ | refine y7 ?_ | refine y8 ?_ | refine Rt.p (fun _=>?_) fun _=>?_)
      | ((with_reducible apply w_ixM);(focus exact rfl);(focus exact rfl);case' hk=>intro y hy) | ((with_reducible (first | apply w_val | apply q_ends));(focus exact rfl)))
     · rename_i h
       refine congrArg AV.bool ?_;symm
       rw[decide_eq_false_iff_not];intro e
       rw[ha,hb] at e
       have:=List.append_cancel_left e
       simp at this
       exact h this.1
     · rename_i h
       subst h
       refine zQ (pre++[x],pa,pb) ?_ ?_
       · exact⟨by rw[ha];simp,by rw[hb];simp⟩
       · simp
def g3:Gm:=⟨[⟨⟨#[97]⟩,1⟩,⟨⟨#[98]⟩,2⟩,⟨⟨#[99]⟩,3⟩],[⟨1,0,0,0,0⟩,⟨1,0,0,1,0⟩,⟨2,0,0,0,2⟩,⟨2,0,0,1,1⟩,⟨2,0,0,2,1⟩,⟨5,0,0,0,3⟩]⟩
theorem three_c:Fn0 Try.prog 46 [] (fun v=>v=gmA g3):=by
 refine RawC.walk (H:=hint46 Try.prog) ir46 Try.func46 rfl rfl rfl ?_
 unfold ir46
 repeat' (first
  | with_reducible (first | refine Rd.p ?_ | refine w_alt ?_ ?_ | refine zE ?_ | refine zE0 ?_)
  | with_reducible (first | refine zI fun y hy=>?_ | refine zL ?_ | refine zS ?_ | refine zA fun _=>?_ | refine zV ?_ | refine zC ?_ | refine zG ?_ | refine zU ?_ | refine zG0 ?_ | refine zU0 ?_ | refine zF ?_)
  | with_reducible (first | refine zX ?_ | refine zD fun _=>?_ | refine zD0 ?_ | refine zN ?_ | refine zF0 ?_ | refine zX0 ?_ | refine z1 ?_ | refine z2 ?_ | refine z3 ?_ | refine z4 ?_ | refine z5 ?_ | refine z6 ?_ | refine z7 ?_ | refine z8 ?_ | refine y1 ?_ | refine y2 ?_ | refine y3 ?_ | refine y4 ?_ | refine y5 ?_ | refine y6 ?_ | refine y7 ?_ | refine y8 ?_ | refine Rt.p (fun _=>?_) fun _=>?_)
  | ((with_reducible apply w_ixM);(focus exact rfl);(focus exact rfl);case' hk=>intro y hy) | ((with_reducible (first | apply w_val | apply q_ends));(focus exact rfl)))
 rfl
theorem g3_ans:ansO g3 ⟨1,0⟩=([([0,0,1],4),([0,1,0],4),([0,1,1],4),([0,1,2],12)],0):=by decide+kernel
theorem g3_play:playO g3 [0,2,1]=([0,2,1],0):=by decide+kernel
theorem awake_c:Fn0 Try.prog 13 [] (fun v=>v= .bool true):=by
 have h1:=Answers_c g3 ⟨1,0⟩ (by decide) (by decide) (by decide)
 have h2:=Play_c g3 [0,2,1] (by decide) (by decide) (by decide) (by decide)
 rw[g3_ans] at h1
 rw[g3_play] at h2
 have e1:=eq_c [0,2,1] [0,2,1] (by decide)
 have e2:=eqLists_c [[0,0,1],[0,1,0],[0,1,1],[0,1,2]] [[0,0,1],[0,1,0],[0,1,1],[0,1,2]] (by decide) (by decide)
 have e3:=eq_c [4,4,4,12] [4,4,4,12] (by decide)
 refine RawC.walk (H:=hint13 Try.prog) ir13 Try.func13 rfl rfl rfl ?_
 unfold ir13
 repeat' (first
  | with_reducible (first | refine Rd.p ?_ | refine w_alt ?_ ?_ | refine zE ?_ | refine zE0 ?_)
  | with_reducible (first | refine zI fun y hy=>?_ | refine zL ?_ | refine zS ?_ | refine zA fun _=>?_ | refine zV ?_ | refine zC ?_ | refine zG ?_ | refine zU ?_ | refine zG0 ?_ | refine zU0 ?_ | refine zF ?_)
  | ((with_reducible refine acall_id ?_);refine ACall.val three_c rfl rfl ?_)
  | ((with_reducible refine acall_id ?_);refine ACall.val h1 rfl rfl ?_)
  | ((with_reducible refine acall_id ?_);refine ACall.val h2 rfl rfl ?_)
  | ((with_reducible refine acall_id ?_);refine ACall.val e1 rfl rfl ?_)
  | ((with_reducible refine acall_id ?_);refine ACall.val e2 rfl rfl ?_)
  | ((with_reducible refine acall_id ?_);refine ACall.val e3 rfl rfl ?_)
  | with_reducible (first | refine zX ?_ | refine zD fun _=>?_ | refine zD0 ?_ | refine zN ?_ | refine zF0 ?_ | refine zX0 ?_ | refine z1 ?_ | refine z2 ?_ | refine z3 ?_ | refine z4 ?_ | refine z5 ?_ | refine z6 ?_ | refine z7 ?_ | refine z8 ?_ | refine y1 ?_ | refine y2 ?_ | refine y3 ?_ | refine y4 ?_ | refine y5 ?_ | refine y6 ?_ | refine y7 ?_ | refine y8 ?_ | refine Rt.p (fun _=>?_) fun _=>?_)
  | ((with_reducible apply w_ixM);(focus exact rfl);(focus exact rfl);case' hk=>intro y hy) | ((with_reducible (first | apply w_val | apply q_ends));(focus exact rfl)))
 all_goals first
  | rfl
end Go.Abs
