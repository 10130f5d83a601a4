/- The same code in a form that runs faster, written by program. Nothing is asked. -/
import Derived.Test.YtjalgcdbokciaaaGreatDoorHead
set_option linter.all false
namespace Go.Am.Seat
set_option linter.unusedVariables false
set_option maxRecDepth 20000
noncomputable section
def T0 (v0 : AV) : A2 := N0 (.mk v0 u u u u u u u u u u u u u u u)
def T1 (v1 v3 v4 v5 : AV) : A2 := N0 (.mk u v1 u v3 v4 v5 u u u u u u u u u u)
def T2 (v3 v4 v5 v7 v8 v9 v10 : AV) : A2 := N0 (.mk u u u v3 v4 v5 u v7 v8 v9 v10 u u u u u)
def T3 (v3 v4 v5 v7 v8 v10 v11 v12 v13 : AV) : A2 := N0 (.mk u u u v3 v4 v5 u v7 v8 u v10 v11 v12 v13 u u)
def T4 (v6 v7 : AV) : A2 := N0 (.mk u u u u u u v6 v7 u u u u u u u u)
def T5 (v0 v2 v6 : AV) : A2 := N0 (.mk v0 u v2 u u u v6 u u u u u u u u u)
def T6 (v6 : AV) : A2 := N0 (.mk u u u u u u v6 u u u u u u u u u)
def T7 (v0 v1 v2 : AV) : A2 := N0 (.mk v0 v1 v2 u u u u u u u u u u u u u)
def T8 : A2 := .nil
def T9 (v0 v3 : AV) : A2 := N0 (.mk v0 u u v3 u u u u u u u u u u u u)
def T10 (v2 : AV) : A2 := N0 (.mk u u v2 u u u u u u u u u u u u u)
def T11 (v1 v2 : AV) : A2 := N0 (.mk u v1 v2 u u u u u u u u u u u u u)
def T12 (v2 v3 v4 v5 v6 : AV) : A2 := N0 (.mk u u v2 v3 v4 v5 v6 u u u u u u u u u)
def T13 (v0 v2 v4 v5 : AV) : A2 := N0 (.mk v0 u v2 u v4 v5 u u u u u u u u u u)
def T14 (v0 v2 v4 v5 v6 : AV) : A2 := N0 (.mk v0 u v2 u v4 v5 v6 u u u u u u u u u)
def T15 (v0 v2 v4 v5 v8 : AV) : A2 := N0 (.mk v0 u v2 u v4 v5 u u v8 u u u u u u u)
def T16 (v0 v2 v5 v9 : AV) : A2 := N0 (.mk v0 u v2 u u v5 u u u v9 u u u u u u)
def T17 (v2 v3 : AV) : A2 := N0 (.mk u u v2 v3 u u u u u u u u u u u u)
def T18 (v2 v5 : AV) : A2 := N0 (.mk u u v2 u u v5 u u u u u u u u u u)
def T19 (v0 v3 v4 v5 v6 : AV) : A2 := N0 (.mk v0 u u v3 v4 v5 v6 u u u u u u u u u)
def T20 (v4 v6 : AV) : A2 := N0 (.mk u u u u v4 u v6 u u u u u u u u u)
def T21 (v4 : AV) : A2 := N0 (.mk u u u u v4 u u u u u u u u u u u)
def T22 (v0 v4 v5 v6 : AV) : A2 := N0 (.mk v0 u u u v4 v5 v6 u u u u u u u u u)
def T23 (v0 v4 v5 v6 v7 : AV) : A2 := N0 (.mk v0 u u u v4 v5 v6 v7 u u u u u u u u)
def T24 (v0 v4 v5 : AV) : A2 := N0 (.mk v0 u u u v4 v5 u u u u u u u u u u)
def T25 (v0 v5 : AV) : A2 := N0 (.mk v0 u u u u v5 u u u u u u u u u u)
def T26 (v0 v5 v58 v59 v60 : AV) : A2 := N3 (.mk v0 u u u u v5 u u u u u u u u u u) .nil .nil (.mk u u u u u u u u u u v58 v59 v60 u u u)
def T27 (v3 v24 v25 v26 : AV) : A2 := N1 (.mk u u u v3 u u u u u u u u u u u u) (.mk u u u u u u u u v24 v25 v26 u u u u u)
def T28 (v1 v3 : AV) : A2 := N0 (.mk u v1 u v3 u u u u u u u u u u u u)
def T29 (v1 v3 v41 v42 v43 : AV) : A2 := N2 (.mk u v1 u v3 u u u u u u u u u u u u) .nil (.mk u u u u u u u u u v41 v42 v43 u u u u)
def T30 (v3 v62 v63 v64 : AV) : A2 := N4 (.mk u u u v3 u u u u u u u u u u u u) .nil .nil (.mk u u u u u u u u u u u u u u v62 v63) (.mk v64 u u u u u u u u u u u u u u u)
def T31 (v3 : AV) : A2 := N0 (.mk u u u v3 u u u u u u u u u u u u)
def T32 (v3 v7 v62 v63 v64 : AV) : A2 := N4 (.mk u u u v3 u u u v7 u u u u u u u u) .nil .nil (.mk u u u u u u u u u u u u u u v62 v63) (.mk v64 u u u u u u u u u u u u u u u)
def T33 (v3 v7 v62 v63 v64 v78 v79 v80 : AV) : A2 := N5 (.mk u u u v3 u u u v7 u u u u u u u u) .nil .nil (.mk u u u u u u u u u u u u u u v62 v63) (.mk v64 u u u u u u u u u u u u u v78 v79) (.mk v80 u u u u u u u u u u u u u u u)
def T34 (v0 v1 : AV) : A2 := N0 (.mk v0 v1 u u u u u u u u u u u u u u)
def T35 (v0 v1 v5 : AV) : A2 := N0 (.mk v0 v1 u u u v5 u u u u u u u u u u)
def T36 (v3 v10 v11 v12 : AV) : A2 := N0 (.mk u u u v3 u u u u u u v10 v11 v12 u u u)
def T37 (v0 v1 v5 v6 : AV) : A2 := N0 (.mk v0 v1 u u u v5 v6 u u u u u u u u u)
def T38 (v0 v6 : AV) : A2 := N0 (.mk v0 u u u u u v6 u u u u u u u u u)
def T39 (v1 : AV) : A2 := N0 (.mk u v1 u u u u u u u u u u u u u u)
def T40 (v1 v38 v39 v40 : AV) : A2 := N2 (.mk u v1 u u u u u u u u u u u u u u) .nil (.mk u u u u u u v38 v39 v40 u u u u u u u)
def T41 (v1 v4 v38 v39 v40 : AV) : A2 := N2 (.mk u v1 u u v4 u u u u u u u u u u u) .nil (.mk u u u u u u v38 v39 v40 u u u u u u u)
def T42 (v58 v59 v60 : AV) : A2 := N3 .nil .nil .nil (.mk u u u u u u u u u u v58 v59 v60 u u u)
def T43 (v6 v58 v59 v60 : AV) : A2 := N3 (.mk u u u u u u v6 u u u u u u u u u) .nil .nil (.mk u u u u u u u u u u v58 v59 v60 u u u)
def T44 (v0 v1 v2 v7 : AV) : A2 := N0 (.mk v0 v1 v2 u u u u v7 u u u u u u u u)
def T45 (v7 : AV) : A2 := N0 (.mk u u u u u u u v7 u u u u u u u u)
def T46 (v0 v3 v4 : AV) : A2 := N0 (.mk v0 u u v3 v4 u u u u u u u u u u u)
def T47 (v0 v3 v4 v10 : AV) : A2 := N0 (.mk v0 u u v3 v4 u u u u u v10 u u u u u)
def T48 (v0 v3 v4 v10 v11 : AV) : A2 := N0 (.mk v0 u u v3 v4 u u u u u v10 v11 u u u u)
def T49 (v4 v5 : AV) : A2 := N0 (.mk u u u u v4 v5 u u u u u u u u u u)
def T50 (v0 v3 v4 v10 v32 : AV) : A2 := N2 (.mk v0 u u v3 v4 u u u u u v10 u u u u u) .nil (.mk v32 u u u u u u u u u u u u u u u)
def T51 (v8 : AV) : A2 := N0 (.mk u u u u u u u u v8 u u u u u u u)
def T52 (v5 v6 v7 : AV) : A2 := N0 (.mk u u u u u v5 v6 v7 u u u u u u u u)
def T53 (v4 v5 v6 v7 : AV) : A2 := N0 (.mk u u u u v4 v5 v6 v7 u u u u u u u u)
def T54 (v0 v4 v5 v6 v7 v8 : AV) : A2 := N0 (.mk v0 u u u v4 v5 v6 v7 v8 u u u u u u u)
def T55 (v0 v4 v5 v6 v7 v8 v9 : AV) : A2 := N0 (.mk v0 u u u v4 v5 v6 v7 v8 v9 u u u u u u)
def T56 (v0 v4 v5 v11 : AV) : A2 := N0 (.mk v0 u u u v4 v5 u u u u u v11 u u u u)
def T57 (v0 v5 v16 : AV) : A2 := N1 (.mk v0 u u u u v5 u u u u u u u u u u) (.mk v16 u u u u u u u u u u u u u u u)
def T58 (v5 : AV) : A2 := N0 (.mk u u u u u v5 u u u u u u u u u u)
def T59 (v0 v4 v5 v13 : AV) : A2 := N0 (.mk v0 u u u v4 v5 u u u u u u u v13 u u)
def T60 (v0 v4 v5 v6 v7 v13 : AV) : A2 := N0 (.mk v0 u u u v4 v5 v6 v7 u u u u u v13 u u)
def T61 (v0 v5 v8 : AV) : A2 := N0 (.mk v0 u u u u v5 u u v8 u u u u u u u)
def T62 (v0 v1 v14 v15 v16 : AV) : A2 := N1 (.mk v0 v1 u u u u u u u u u u u u v14 v15) (.mk v16 u u u u u u u u u u u u u u u)
def T63 (v0 v1 v6 v14 v15 v16 : AV) : A2 := N1 (.mk v0 v1 u u u u v6 u u u u u u u v14 v15) (.mk v16 u u u u u u u u u u u u u u u)
def T64 (v0 v1 v7 v8 v9 v14 v15 v16 : AV) : A2 := N1 (.mk v0 v1 u u u u u v7 v8 v9 u u u u v14 v15) (.mk v16 u u u u u u u u u u u u u u u)
def T65 (v0 v1 v7 v14 v15 v16 : AV) : A2 := N1 (.mk v0 v1 u u u u u v7 u u u u u u v14 v15) (.mk v16 u u u u u u u u u u u u u u u)
def T66 (v3 v9 v10 v11 : AV) : A2 := N0 (.mk u u u v3 u u u u u v9 v10 v11 u u u u)
def T67 (v0 v1 v6 : AV) : A2 := N0 (.mk v0 v1 u u u u v6 u u u u u u u u u)
def T68 (v0 v10 v11 v12 : AV) : A2 := N0 (.mk v0 u u u u u u u u u v10 v11 v12 u u u)
def T69 (v0 v3 v21 v22 v23 : AV) : A2 := N1 (.mk v0 u u v3 u u u u u u u u u u u u) (.mk u u u u u v21 v22 v23 u u u u u u u u)
def T70 (v0 v3 v21 v22 v23 v37 v38 v39 : AV) : A2 := N2 (.mk v0 u u v3 u u u u u u u u u u u u) (.mk u u u u u v21 v22 v23 u u u u u u u u) (.mk u u u u u v37 v38 v39 u u u u u u u u)
def T71 (v3 v63 v64 v65 : AV) : A2 := N4 (.mk u u u v3 u u u u u u u u u u u u) .nil .nil (.mk u u u u u u u u u u u u u u u v63) (.mk v64 v65 u u u u u u u u u u u u u u)
def T72 (v3 v10 v11 : AV) : A2 := N0 (.mk u u u v3 u u u u u u v10 v11 u u u u)
def T73 (v0 v11 v12 v13 : AV) : A2 := N0 (.mk v0 u u u u u u u u u u v11 v12 v13 u u)
def T74 (v3 v5 v9 v10 v11 : AV) : A2 := N0 (.mk u u u v3 u v5 u u u v9 v10 v11 u u u u)
def T75 (v0 v2 v4 v6 : AV) : A2 := N0 (.mk v0 u v2 u v4 u v6 u u u u u u u u u)
def T76 (v0 v3 v4 v5 : AV) : A2 := N0 (.mk v0 u u v3 v4 v5 u u u u u u u u u u)
def T77 (v0 v4 : AV) : A2 := N0 (.mk v0 u u u v4 u u u u u u u u u u u)
def T78 (v4 v10 v11 v12 : AV) : A2 := N0 (.mk u u u u v4 u u u u u v10 v11 v12 u u u)
def T79 (v9 v10 v11 : AV) : A2 := N0 (.mk u u u u u u u u u v9 v10 v11 u u u u)
def T80 (v4 v9 v10 v11 : AV) : A2 := N0 (.mk u u u u v4 u u u u v9 v10 v11 u u u u)
def T81 (v0 v15 v16 v17 : AV) : A2 := N1 (.mk v0 u u u u u u u u u u u u u u v15) (.mk v16 v17 u u u u u u u u u u u u u u)
def T82 (v0 v3 v4 v15 v16 v17 : AV) : A2 := N1 (.mk v0 u u v3 v4 u u u u u u u u u u v15) (.mk v16 v17 u u u u u u u u u u u u u u)
def T83 (v0 v1 v7 v8 : AV) : A2 := N0 (.mk v0 v1 u u u u u v7 v8 u u u u u u u)
def T84 (v0 v1 v2 v7 v8 v40 : AV) : A2 := N2 (.mk v0 v1 v2 u u u u v7 v8 u u u u u u u) .nil (.mk u u u u u u u u v40 u u u u u u u)
def T85 (v0 v1 v2 v7 v8 v31 v40 : AV) : A2 := N2 (.mk v0 v1 v2 u u u u v7 v8 u u u u u u u) (.mk u u u u u u u u u u u u u u u v31) (.mk u u u u u u u u v40 u u u u u u u)
def T86 (v0 v1 v2 v7 v8 : AV) : A2 := N0 (.mk v0 v1 v2 u u u u v7 v8 u u u u u u u)
def T87 (v0 v25 v33 : AV) : A2 := N2 (.mk v0 u u u u u u u u u u u u u u u) (.mk u u u u u u u u u v25 u u u u u u) (.mk u v33 u u u u u u u u u u u u u u)
def T88 (v0 v5 v6 v7 v25 v33 : AV) : A2 := N2 (.mk v0 u u u u v5 v6 v7 u u u u u u u u) (.mk u u u u u u u u u v25 u u u u u u) (.mk u v33 u u u u u u u u u u u u u u)
def T89 (v0 v3 v4 v5 v6 v7 v25 v33 : AV) : A2 := N2 (.mk v0 u u v3 v4 v5 v6 v7 u u u u u u u u) (.mk u u u u u u u u u v25 u u u u u u) (.mk u v33 u u u u u u u u u u u u u u)
def T90 (v0 v6 v7 v8 : AV) : A2 := N0 (.mk v0 u u u u u v6 v7 v8 u u u u u u u)
def T91 (v3 v6 v7 v8 : AV) : A2 := N0 (.mk u u u v3 u u v6 v7 v8 u u u u u u u)
def T92 (v3 v5 v6 v7 v8 : AV) : A2 := N0 (.mk u u u v3 u v5 v6 v7 v8 u u u u u u u)
def T93 (v0 v16 v17 : AV) : A2 := N1 (.mk v0 u u u u u u u u u u u u u u u) (.mk v16 v17 u u u u u u u u u u u u u u)
def T94 (v0 v3 v16 v17 : AV) : A2 := N1 (.mk v0 u u v3 u u u u u u u u u u u u) (.mk v16 v17 u u u u u u u u u u u u u u)
def T95 (v0 v1 v2 v3 v4 v10 v11 : AV) : A2 := N0 (.mk v0 v1 v2 v3 v4 u u u u u v10 v11 u u u u)
def T96 (v0 v1 v2 v3 v4 v10 v11 v12 : AV) : A2 := N0 (.mk v0 v1 v2 v3 v4 u u u u u v10 v11 v12 u u u)
def T97 (v0 v1 v2 v3 v4 v10 v11 v12 v13 v14 : AV) : A2 := N0 (.mk v0 v1 v2 v3 v4 u u u u u v10 v11 v12 v13 v14 u)
def T98 (v0 v1 v2 v3 v4 v10 v11 v12 v13 : AV) : A2 := N0 (.mk v0 v1 v2 v3 v4 u u u u u v10 v11 v12 v13 u u)
def T99 (v0 v1 v2 v3 v4 v11 v16 v18 v19 v20 : AV) : A2 := N1 (.mk v0 v1 v2 v3 v4 u u u u u u v11 u u u u) (.mk v16 u v18 v19 v20 u u u u u u u u u u u)
def T100 (v0 v1 v2 v3 v4 v11 v16 v18 v19 v20 v125 : AV) : A2 := N7 (.mk v0 v1 v2 v3 v4 u u u u u u v11 u u u u) (.mk v16 u v18 v19 v20 u u u u u u u u u u u) .nil .nil .nil .nil .nil (.mk u u u u u u u u u u u u u v125 u u)
def T101 (v0 v1 v2 v3 v8 : AV) : A2 := N0 (.mk v0 v1 v2 v3 u u u u v8 u u u u u u u)
def T102 (v0 v1 v2 v3 v8 v9 : AV) : A2 := N0 (.mk v0 v1 v2 v3 u u u u v8 v9 u u u u u u)
def T103 (v0 v2 : AV) : A2 := N0 (.mk v0 u v2 u u u u u u u u u u u u u)
def k3_2 : KF := fun c i x r h => (fun (x46 x47 x48 x49 x50 x51 x52 : AV) =>
 tT (c 6 [x52,(pi 2),x51] h) fun v53 h54 =>
 tT (c 6 [x52,(pi 1),x51] h54) fun v55 h56 =>
 tT (c 6 [x52,(pi 0),x51] h56) fun v57 h58 =>
 x (T3 x46 x47 x48 x49 x50 x52 v53 v55 v57) h58) (y3 r) (y4 r) (y5 r) (y7 r) (y8 r) (y9 r) (y10 r)
def k3_1 : KF := fun c i x r h => (fun (x24 x25 x26 x27 : AV) =>
 tT (c 5 [x24,(pi 0),(.str [120])] h) fun v28 h29 =>
 tR (o_ext 0 (.c v28) .nil h29) fun v30 h31 =>
 tR (o_ext 1 (.c v28) .nil h31) fun v32 h33 =>
 tR (o_alloc 26 3 (.k1 (.mk (pi 0) (pi 0) (.str []) .undef .undef .undef .undef .undef .undef .undef .undef .undef .undef .undef .undef .undef)) .nil h33) fun v34 h35 =>
 tR (o_stn 3 (.c v34) (.c v30) .nil h35) fun v36 h37 =>
 tT (c 6 [x24,(pi 9),(.str [114,117,98,98,105,115,104])] h37) fun v38 h39 =>
 tT (c 7 [x24] h39) fun v40 h41 =>
 tT (c 4 [] h41) fun v42 h43 =>
 tR (bK .peq v42 .nilp h43) fun v44 h45 =>
 ifR v44 (.ret (T0 (.bool false)) h45) (x (T2 x25 x26 x27 v32 v38 v40 v42) h45)) (y1 r) (y3 r) (y4 r) (y5 r)
def k3_0 : KF := fun c i x r h => tT (c 4 [] h) fun v0 h1 =>
 tR (bK .peq v0 .nilp h1) fun v2 h3 =>
 ifR v2 (.ret (T0 (.bool false)) h3) (tT (c 5 [v0,(pi 5),(.str [120])] h3) fun v4 h5 =>
 tR (o_ext 0 (.c v4) .nil h5) fun v6 h7 =>
 tR (o_ext 1 (.c v4) .nil h7) fun v8 h9 =>
 tR (o_alloc 26 3 (.k1 (.mk (pi 0) (pi 0) (.str []) .undef .undef .undef .undef .undef .undef .undef .undef .undef .undef .undef .undef .undef)) .nil h9) fun v10 h11 =>
 tR (o_stn 3 (.c v10) (.c v6) .nil h11) fun v12 h13 =>
 tT (c 5 [v0,(pi 0),(.str [110,111,32,101,110,116,114,121])] h13) fun v14 h15 =>
 tR (o_ext 0 (.c v14) .nil h15) fun v16 h17 =>
 tR (o_ext 1 (.c v14) .nil h17) fun v18 h19 =>
 tR (o_alloc 26 3 (.k1 (.mk (pi 0) (pi 0) (.str []) .undef .undef .undef .undef .undef .undef .undef .undef .undef .undef .undef .undef .undef)) .nil h19) fun v20 h21 =>
 tR (o_stn 3 (.c v20) (.c v16) .nil h21) fun v22 h23 =>
 x (T1 v0 v8 v20 v18) h23)
def x3 : AC := (.shal k3_0 (.shal k3_1 (.shal k3_2 (.seq (.ops [m d48 r3,
 o d49 (.bin .eq r48 (.c (pi 1))),
 m d50 r49,
 .g .h3 .h2 true d51 (.op (.fad 0 r4)),
 .g .h3 .h2 true d52 (.op (.ld1 r51)),
 .g .h3 .h2 true d53 (.op (.bin .eq r52 (.c (pi 12)))),
 o d54 (.pick r50 r53 (.c (.bool false))),
 m d55 r54,
 .g .h3 .h7 true d56 (.op (.mv r5)),
 .g .h3 .h7 true d57 (.op (.bin .eq r56 (.c (pi 0)))),
 o d58 (.pick r55 r57 (.c (.bool false))),
 m d59 r58,
 .g .h3 .hb true d60 (.op (.mv r7)),
 .g .h3 .hb true d61 (.op (.bin .eq r60 (.c (pi 1)))),
 o d62 (.pick r59 r61 (.c (.bool false))),
 m d63 r62,
 .g .h3 .hf true d64 (.op (.mv r8)),
 .g .h3 .hf true d65 (.op (.bin .eq r64 (.c (pi 12)))),
 o d66 (.pick r63 r65 (.c (.bool false))),
 m d67 r66,
 .g .h4 .h3 true d68 (.op (.mv r11)),
 .g .h4 .h3 true d69 (.op (.bin .eq r68 (.c (pi 12)))),
 o d70 (.pick r67 r69 (.c (.bool false))),
 m d71 r70,
 .g .h4 .h7 true d72 (.op (.mv r12)),
 .g .h4 .h7 true d73 (.op (.bin .eq r72 (.c (pi 0)))),
 o d74 (.pick r71 r73 (.c (.bool false))),
 m d75 r74,
 .g .h4 .hb true d76 (.op (.mv r13)),
 .g .h4 .hb true d77 (.op (.bin .eq r76 (.c (pi 1)))),
 o d78 (.pick r75 r77 (.c (.bool false))),
 m d79 r78,
 .g .h4 .hf true d80 (.op (.mv r10)),
 .g .h4 .hf true d81 (.call 8 [r80]),
 .g .h4 .hf true d82 (.op (.bin .eq r81 (.c (pi 1)))),
 o d83 (.pick r79 r82 (.c (.bool false))),
 m d84 r83,
 .g .h5 .h4 true d85 (.call 9 []),
 o d86 (.pick r84 r85 (.c (.bool false))),
 m d0 r86]) .ret))))
def z3 : List Rs := [.t .h0 .h0]
def f3 : AF := .mk x3 z3
def k4_0 : KF := fun c i x r h => tT (c 10 [] h) fun v0 h1 =>
 tR (o_build [.nilp,(pi 0)] [.mk 0 1 (.c v0)] .nil h1) fun v2 h3 =>
 tR (o_box 36 (.c v2) .nil h3) fun v4 h5 =>
 .ret (T0 v4) h5
def x4 : AC := (.shal k4_0 .skip)
def z4 : List Rs := [.t .h0 .h0]
def f4 : AF := .mk x4 z4
def k5_1 : KF := fun c i x r h => (fun (x31 x32 x33 : AV) =>
 tR (cK (.s2b 5) x32 h) fun v34 h35 =>
 tT (c 11 [v34] h35) fun v36 h37 =>
 tR (o_ext 0 (.c v36) .nil h37) fun v38 h39 =>
 tR (o_ext 1 (.c v36) .nil h39) fun v40 h41 =>
 tR (o_alloc 40 7 (.k1 (.mk (pi 0) (pi 0) (pi 0) (.str []) (.str []) .nils .nils .undef .undef .undef .undef .undef .undef .undef .undef .undef)) .nil h41) fun v42 h43 =>
 tR (o_stn 7 (.c v42) (.c v38) .nil h43) fun v44 h45 =>
 tR (b_ne v40 (pi 0) h45) fun v46 h47 =>
 ifR v46 (tR (o_build [(pi 0),(pi 0),(.str [])] [.mk 0 1 (.c (pi 12))] .nil h47) fun v48 h49 =>
 tR (o_stn 3 (.c x33) (.c v48) .nil h49) fun v50 h51 =>
 .ret (T4 x33 (pi 0)) h51) (tQ (nic x31 h47) fun v52 =>
 tQ (fa 0 v52 h47) fun v53 =>
 tQ (ld v53 h47) fun v54 =>
 tQ (o_ldn 7 (.c v42) .nil h47) fun v55 =>
 tX (c 12 [v54,v55] h47) fun v56 h57 =>
 tX (RV.toT (o_stn 3 (.c x33) (.c v56) .nil h57)) fun v58 h59 =>
 x (T4 x33 (pi 0)) h59)) (y0 r) (y2 r) (y6 r)
def k5_0 : KF := fun c i x r h => (fun (x0 x1 x2 : AV) =>
 tR (o_alloc 26 3 (.k1 (.mk (pi 0) (pi 0) (.str []) .undef .undef .undef .undef .undef .undef .undef .undef .undef .undef .undef .undef .undef)) .nil h) fun v3 h4 =>
 tR (nic x0 h4) fun v5 h6 =>
 tR (fa 1 v5 h6) fun v7 h8 =>
 tR (ld v7 h8) fun v9 h10 =>
 tR (b_ne x1 v9 h10) fun v11 h12 =>
 ifR v11 (tR (o_build [(pi 0),(pi 0),(.str [])] [] .nil h12) fun v13 h14 =>
 tR (o_stn 3 (.c v3) (.c v13) .nil h14) fun v15 h16 =>
 .ret (T4 v3 (pi 1)) h16) (tR (nic x0 h12) fun v17 h18 =>
 tR (fa 1 v17 h18) fun v19 h20 =>
 tR (ld v19 h20) fun v21 h22 =>
 tR (b_add v21 (pi 1) h22) fun v23 h24 =>
 tR (nic x0 h24) fun v25 h26 =>
 tR (fa 1 v25 h26) fun v27 h28 =>
 tR (sto v27 v23 h28) fun v29 h30 =>
 x (T5 x0 x2 v3) h30)) (y0 r) (y1 r) (y2 r)
def x5 : AC := (.shal k5_0 (.shal k5_1 .ret))
def z5 : List Rs := [.agg 3 .h0 .h6,.t .h0 .h7]
def f5 : AF := .mk x5 z5
def k6_1 : KF := fun c i x r h => (fun (x11 x12 x13 x14 : AV) =>
 ifR x14 (.ret (T6 (pi 12)) h) (.nm (T7 x11 x12 x13) h)) (y0 r) (y1 r) (y2 r) (y26 r)
def k6_3 : KF := fun c i x r h => .ret (T6 (pi 0)) h
def k6_2 : KF := fun c i x r h => (fun (x15 x16 x17 : AV) =>
 tR (o_slcs (.c x17) (.some (.c (pi 8))) .none .nil h) fun v18 h19 =>
 tR (cK (.s2b 5) v18 h19) fun v20 h21 =>
 tT (c 15 [v20] h21) fun v22 h23 =>
 tR (o_ext 0 (.c v22) .nil h23) fun v24 h25 =>
 tR (o_ext 1 (.c v22) .nil h25) fun v26 h27 =>
 tR (b_ne v26 (pi 0) h27) fun v28 h29 =>
 ifR v28 (.ret (T6 (pi 12)) h29) (tR (nic x15 h29) fun v30 h31 =>
 tR (fa 0 v30 h31) fun v32 h33 =>
 tR (sto v32 v24 h33) fun v34 h35 =>
 tR (nic x15 h35) fun v36 h37 =>
 tR (fa 1 v36 h37) fun v38 h39 =>
 tR (sto v38 x16 h39) fun v40 h41 =>
 x T8 h41)) (y0 r) (y1 r) (y2 r)
def k6_0 : KF := fun c i x r h => (fun (x0 x1 x2 : AV) =>
 tR (nic x0 h) fun v3 h4 =>
 tR (fa 1 v3 h4) fun v5 h6 =>
 tR (ld v5 h6) fun v7 h8 =>
 tR (b_lt x1 v7 h8) fun v9 h10 =>
 ifR v9 (.ret (T6 (pi 1)) h10) (x (T7 x0 x1 x2) h10)) (y0 r) (y1 r) (y2 r)
def x6 : AC := (.shal k6_0 (.seq (.seq (.ops [m d15 r2,
 o d16 (.lent r15),
 o d17 (.bin .lt r16 (.c (pi 8))),
 m d18 r17,
 .g .h1 .h2 false d19 (.op (.mv r2)),
 .g .h1 .h2 false d20 (.op (.slcs r19 .none (.some (.c (pi 8))))),
 .g .h1 .h2 false d21 (.op (.conv (.s2b 5) r20)),
 .g .h1 .h2 false d22 (.call 13 [r21]),
 .g .h1 .h2 false d23 (.call 14 [r22]),
 .g .h1 .h2 false d24 (.op (.mv r1)),
 .g .h1 .h2 false d25 (.op (.bin .ne r23 r24)),
 o d26 (.pick r18 (.c (.bool true)) r25)]) (.shal k6_1 .skip)) (.shal k6_2 (.shal k6_3 .skip))))
def z6 : List Rs := [.t .h0 .h6]
def f6 : AF := .mk x6 z6
def k7_0 : KF := fun c i x r h => (fun (x0 : AV) =>
 tT (c 16 [] h) fun v1 h2 =>
 tR (nic x0 h2) fun v3 h4 =>
 tR (fa 1 v3 h4) fun v5 h6 =>
 tR (ld v5 h6) fun v7 h8 =>
 tT (c 17 [v1,v7] h8) fun v9 h10 =>
 x (T9 x0 v1) h10) (y0 r)
def x7 : AC := (.shal k7_0 (.seq (.drw [q 0 (m d11 r3),
 w (.o d12 (.call 18 [r11])),
 q 1 (m d14 r0),
 q 1 (o d15 (.nilc r14)),
 q 1 (o d16 (.fad 0 r15)),
 q 1 (o d17 (.ld1 r16)),
 w (.o d18 (.call 19 [r17])),
 q 1 (o d13 (.conv .b2s r12)),
 q 0 (o d19 (.conv .b2s r18)),
 q 0 (o d20 (.bin .cat r13 r19)),
 q 0 (m d2 r20)]) .ret))
def z7 : List Rs := [.t .h0 .h2]
def f7 : AF := .mk x7 z7
def k8_0 : KF := fun c i x r h => (fun (x0 : AV) =>
 tR (nic x0 h) fun v1 h2 =>
 tR (fa 1 v1 h2) fun v3 h4 =>
 tR (ld v3 h4) fun v5 h6 =>
 .ret (T10 v5) h6) (y0 r)
def x8 : AC := (.shal k8_0 .skip)
def z8 : List Rs := [.t .h0 .h2]
def f8 : AF := .mk x8 z8
def k9_1 : KF := fun c i x r h => (fun (x16 x17 : AV) =>
 tT (c 23 [] h) fun v18 h19 =>
 tT (c 22 [(.str [116]),v18] h19) fun v20 h21 =>
 tT (c 21 [v20,(pi 0),(pi 1)] h21) fun v22 h23 =>
 tT (c 20 [v22] h23) fun v24 h25 =>
 tR (cK .b2s v24 h25) fun v26 h27 =>
 tT (c 5 [x16,(pi 0),v26] h27) fun v28 h29 =>
 tR (o_ext 0 (.c v28) .nil h29) fun v30 h31 =>
 tR (o_ext 1 (.c v28) .nil h31) fun v32 h33 =>
 tR (o_alloc 26 3 (.k1 (.mk (pi 0) (pi 0) (.str []) .undef .undef .undef .undef .undef .undef .undef .undef .undef .undef .undef .undef .undef)) .nil h33) fun v34 h35 =>
 tR (o_stn 3 (.c v34) (.c v30) .nil h35) fun v36 h37 =>
 tT (c 7 [x16] h37) fun v38 h39 =>
 tT (c 6 [x17,(pi 1),v38] h39) fun v40 h41 =>
 tT (c 24 [x17] h41) fun v42 h43 =>
 x (T12 x17 v34 v32 v40 v42) h43) (y1 r) (y2 r)
def k9_0 : KF := fun c i x r h => tT (c 4 [] h) fun v0 h1 =>
 tT (c 4 [] h1) fun v2 h3 =>
 tR (bK .peq v0 .nilp h3) fun v4 h5 =>
 (fun (k6 : AV → Hp → RS) => gd v4 false (k6 v2 h5) (k6 .undef h5)) fun v7 h8 =>
 (fun (k9 : AV → Hp → RS) => gd v4 false (tR (bK .peq v7 .nilp h8) fun v12 h13 =>
 k9 v12 h13) (k9 .undef h8)) fun v10 h11 =>
 tR (o_pick (.c v4) (.c (.bool true)) (.c v10) .nil h11) fun v14 h15 =>
 ifR v14 (.ret (T0 (.bool false)) h15) (x (T11 v0 v2) h15)
def x9 : AC := (.shal k9_0 (.shal k9_1 (.seq (.ops [o d31 (.ldn 3 r3),
 o d32 (.build [(pi 0),(pi 0),(.str [])] []),
 o d33 (.bin (.aeq [.i,.i,.s]) r31 r32),
 m d34 r33,
 .g .h2 .h2 true d35 (.op (.mv r4)),
 .g .h2 .h2 true d36 (.op (.bin .eq r35 (.c (pi 0)))),
 o d37 (.pick r34 r36 (.c (.bool false))),
 m d38 r37,
 .g .h2 .h6 true d39 (.op (.mv r5)),
 .g .h2 .h6 true d40 (.op (.bin .eq r39 (.c (pi 0)))),
 o d41 (.pick r38 r40 (.c (.bool false))),
 m d42 r41,
 .g .h2 .ha true d43 (.op (.mv r2)),
 .g .h2 .ha true d44 (.call 8 [r43]),
 .g .h2 .ha true d45 (.op (.bin .eq r44 (.c (pi 1)))),
 o d46 (.pick r42 r45 (.c (.bool false))),
 m d47 r46,
 .g .h2 .hf true d48 (.op (.mv r6)),
 .g .h2 .hf true d49 (.op (.bin .pne r48 (.c .nilp))),
 o d50 (.pick r47 r49 (.c (.bool false))),
 m d51 r50,
 .g .h3 .h3 true d52 (.op (.mv r6)),
 .g .h3 .h3 true d53 (.call 26 [r52]),
 .g .h3 .h3 true d54 (.op (.bslice 9 1 1 [(.str [])] [.mk 0 1 (.c (.str [116]))])),
 .g .h3 .h3 true d55 (.call 25 [r53,r54]),
 o d56 (.pick r51 r55 (.c (.bool false))),
 m d0 r56]) .ret)))
def z9 : List Rs := [.t .h0 .h0]
def f9 : AF := .mk x9 z9
def k10_0 : KF := fun c i x r h => tT (c 27 [] h) fun v0 h1 =>
 tR (o_mkmap .nil h1) fun v2 h3 =>
 tT (c 28 [] h3) fun v4 h5 =>
 tR (o_build [.nilp,.nils,.nilm,.nilp] [.mk 0 1 (.c v0),.mk 2 1 (.c v2),.mk 3 1 (.c v4)] .nil h5) fun v6 h7 =>
 tR (o_box 68 (.c v6) .nil h7) fun v8 h9 =>
 .ret (T0 v8) h9
def x10 : AC := (.shal k10_0 .skip)
def z10 : List Rs := [.t .h0 .h0]
def f10 : AF := .mk x10 z10
def k11_3 : KF := fun c i x r h => (fun (x70 x71 x72 x73 x74 : AV) =>
 tR (b_sub x74 (pi 1) h) fun v75 h76 =>
 .nm (T14 x70 x71 x72 x73 v75) h76) (y0 r) (y2 r) (y4 r) (y5 r) (y6 r)
def k11_2 : KF := fun c i x r h => (fun (x35 x36 x37 x38 x39 : AV) =>
 tR (b_gt x39 (pi 0) h) fun v40 h41 =>
 ifR v40 (tT (c 29 [x37,(pi 65535)] h41) fun v42 h43 =>
 tR (o_build [(.str []),(pi 0)] [.mk 0 1 (.c v42)] .nil h43) fun v44 h45 =>
 tR (o_alloc 71 2 (.k1 (.mk (.str []) (pi 0) .undef .undef .undef .undef .undef .undef .undef .undef .undef .undef .undef .undef .undef .undef)) .nil h45) fun v46 h47 =>
 tR (o_stn 2 (.c v46) (.c v44) .nil h47) fun v48 h49 =>
 tT (c 14 [x37] h49) fun v50 h51 =>
 tR (fa 1 v46 h51) fun v52 h53 =>
 tR (sto v52 v50 h53) fun v54 h55 =>
 tR (fa 5 x38 h55) fun v56 h57 =>
 tR (ld v56 h57) fun v58 h59 =>
 tR (o_ldn 2 (.c v46) .nil h59) fun v60 h61 =>
 tR (o_bslice 71 2 1 [(.str []),(pi 0)] [.mk 0 2 (.c v60)] .nil h61) fun v62 h63 =>
 tR (appV 71 2 v58 v62 h63) fun v64 h65 =>
 tR (fa 5 x38 h65) fun v66 h67 =>
 tR (sto v66 v64 h67) fun v68 h69 =>
 x (T14 x35 x36 x37 x38 x39) h69) (.ex 0 (T13 x35 x36 x37 x38) h41)) (y0 r) (y2 r) (y4 r) (y5 r) (y6 r)
def k11_1 : KF := fun c i x r h => (fun (x29 x30 x31 x32 : AV) =>
 tT (c 30 [x31] h) fun v33 h34 =>
 x (T14 x29 x30 x31 x32 v33) h34) (y0 r) (y2 r) (y4 r) (y5 r)
def k11_6 : KF := fun c i x r h => (fun (x90 x91 x92 x93 x94 : AV) =>
 tR (b_sub x94 (pi 1) h) fun v95 h96 =>
 .nm (T15 x90 x91 x92 x93 v95) h96) (y0 r) (y2 r) (y4 r) (y5 r) (y8 r)
def k11_5 : KF := fun c i x r h => (fun (x83 x84 x85 x86 x87 : AV) =>
 tR (b_gt x87 (pi 0) h) fun v88 h89 =>
 ifR v88 (x (T15 x83 x84 x85 x86 x87) h89) (.ex 2 (T13 x83 x84 x85 x86) h89)) (y0 r) (y2 r) (y4 r) (y5 r) (y8 r)
def k11_4 : KF := fun c i x r h => (fun (x77 x78 x79 x80 : AV) =>
 tT (c 30 [x79] h) fun v81 h82 =>
 x (T15 x77 x78 x79 x80 v81) h82) (y0 r) (y2 r) (y4 r) (y5 r)
def k11_8 : KF := fun c i x r h => (fun (x107 x108 x109 : AV) =>
 ifR x109 (tR (o_build [(pi 0),(pi 0),(pi 0),(.str []),(.str []),.nils,.nils] [] .nil h) fun v110 h111 =>
 tR (o_stn 7 (.c x107) (.c v110) .nil h111) fun v112 h113 =>
 .ret (T17 x107 (pi 12)) h113) (.nm (T18 x107 x108) h)) (y2 r) (y5 r) (y75 r)
def k11_7 : KF := fun c i x r h => (fun (x97 x98 x99 x100 : AV) =>
 tT (c 32 [x99] h) fun v101 h102 =>
 tR (o_ext 0 (.c v101) .nil h102) fun v103 h104 =>
 tR (o_ext 1 (.c v101) .nil h104) fun v105 h106 =>
 x (T16 x97 x98 x100 v103) h106) (y0 r) (y2 r) (y4 r) (y5 r)
def k11_9 : KF := fun c i x r h => (fun (x114 x115 : AV) =>
 tR (o_ldn 7 (.c x115) .nil h) fun v116 h117 =>
 tR (o_stn 7 (.c x114) (.c v116) .nil h117) fun v118 h119 =>
 .ret (T17 x114 (pi 0)) h119) (y2 r) (y5 r)
def k11_0 : KF := fun c i x r h => (fun (x0 : AV) =>
 tR (o_alloc 40 7 (.k1 (.mk (pi 0) (pi 0) (pi 0) (.str []) (.str []) .nils .nils .undef .undef .undef .undef .undef .undef .undef .undef .undef)) .nil h) fun v1 h2 =>
 tT (c 13 [x0] h2) fun v3 h4 =>
 tT (c 14 [v3] h4) fun v5 h6 =>
 tT (c 14 [v3] h6) fun v7 h8 =>
 tT (c 14 [v3] h8) fun v9 h10 =>
 tR (o_build [(pi 0),(pi 0),(pi 0),(.str []),(.str []),.nils,.nils] [.mk 0 1 (.c v5),.mk 1 1 (.c v7),.mk 2 1 (.c v9)] .nil h10) fun v11 h12 =>
 tR (o_alloc 40 7 (.k1 (.mk (pi 0) (pi 0) (pi 0) (.str []) (.str []) .nils .nils .undef .undef .undef .undef .undef .undef .undef .undef .undef)) .nil h12) fun v13 h14 =>
 tR (o_stn 7 (.c v13) (.c v11) .nil h14) fun v15 h16 =>
 tT (c 29 [v3,(pi 65535)] h16) fun v17 h18 =>
 tR (fa 3 v13 h18) fun v19 h20 =>
 tR (sto v19 v17 h20) fun v21 h22 =>
 tT (c 29 [v3,(pi 65535)] h22) fun v23 h24 =>
 tR (fa 4 v13 h24) fun v25 h26 =>
 tR (sto v25 v23 h26) fun v27 h28 =>
 x (T13 x0 v1 v3 v13) h28) (y0 r)
def x11 : AC := (.shal k11_0 (.seq (.shal k11_1 (.block 0 (.loop (.shal k11_2 (.shal k11_3 .skip))))) (.seq (.shal k11_4 (.block 2 (.loop (.shal k11_5 (.seq (.block 3 (.drw [q 0 (m d52 r4),
 w (.o d53 (.call 31 [r52])),
 w (o d54 (.bslice 75 3 1 [(.str []),.nils,(.bool false)] [.mk 0 3 r53])),
 q 2 (o d50 (.fad 6 r5)),
 q 2 (o d51 (.ld1 r50)),
 w (o d55 (.app 75 3 r51 r54)),
 q 0 (o d56 (.fad 6 r5)),
 w (o .no (.st1 r56 r55))])) (.shal k11_6 .skip)))))) (.seq (.shal k11_7 (.seq (.ops [m d62 r9,
 o d63 (.bin .ne r62 (.c (pi 0))),
 m d64 r63,
 .g .h4 .h0 false d65 (.op (.ldn 7 r5)),
 .g .h4 .h0 false d66 (.call 33 [r65]),
 .g .h4 .h0 false d67 (.op (.un .not r66)),
 o d68 (.pick r64 (.c (.bool true)) r67),
 m d69 r68,
 .g .h4 .h5 false d70 (.op (.ldn 7 r5)),
 .g .h4 .h5 false d71 (.call 20 [r70]),
 .g .h4 .h5 false d72 (.op (.mv r0)),
 .g .h4 .h5 false d73 (.call 34 [r71,r72]),
 .g .h4 .h5 false d74 (.op (.un .not r73)),
 o d75 (.pick r69 (.c (.bool true)) r74)]) (.shal k11_8 .skip))) (.shal k11_9 .skip)))))
def z11 : List Rs := [.agg 7 .h0 .h2,.t .h0 .h3]
def f11 : AF := .mk x11 z11
def k12_2 : KF := fun c i x r h => (fun (x56 x57 : AV) =>
 tR (o_ldn 3 (.c x57) .nil h) fun v58 h59 =>
 tR (o_stn 3 (.c x56) (.c v58) .nil h59) fun v60 h61 =>
 .ret (T21 x56) h61) (y4 r) (y6 r)
def k12_1 : KF := fun c i x r h => (fun (x21 x22 x23 x24 x25 : AV) =>
 tR (b_eq x24 (pi 1) h) fun v26 h27 =>
 ifR v26 (tR (o_ldn 7 (.c x22) .nil h27) fun v28 h29 =>
 tT (c 36 [x21,v28] h29) fun v30 h31 =>
 tR (o_stn 3 (.c x25) (.c v30) .nil h31) fun v32 h33 =>
 tQ (nic x21 h33) fun v34 =>
 tQ (fa 3 v34 h33) fun v35 =>
 tQ (ld v35 h33) fun v36 =>
 tQ (fa 0 x22 h33) fun v37 =>
 tQ (ld v37 h33) fun v38 =>
 tQ (fa 1 x22 h33) fun v39 =>
 tQ (ld v39 h33) fun v40 =>
 tQ (o_ldn 3 (.c x25) .nil h33) fun v41 =>
 tX (c 37 [v36,v38,v40,v41] h33) fun v42 h43 =>
 x (T20 x23 x25) h43) (tR (b_eq x24 (pi 3) h27) fun v44 h45 =>
 ifR v44 (tR (o_build [(pi 0),(pi 0),(.str [])] [.mk 0 1 (.c (pi 28))] .nil h45) fun v46 h47 =>
 tR (o_stn 3 (.c x25) (.c v46) .nil h47) fun v48 h49 =>
 x (T20 x23 x25) h49) (tR (b_eq x24 (pi 0) h45) fun v50 h51 =>
 ifR v50 (tR (o_build [(pi 0),(pi 0),(.str [])] [.mk 0 1 (.c (pi 1))] .nil h51) fun v52 h53 =>
 tR (o_stn 3 (.c x25) (.c v52) .nil h53) fun v54 h55 =>
 x (T20 x23 x25) h55) (x (T20 x23 x25) h51)))) (y0 r) (y3 r) (y4 r) (y5 r) (y6 r)
def k12_0 : KF := fun c i x r h => (fun (x0 x1 : AV) =>
 tR (o_box 40 (.c x1) .nil h) fun v2 h3 =>
 tR (o_alloc 26 3 (.k1 (.mk (pi 0) (pi 0) (.str []) .undef .undef .undef .undef .undef .undef .undef .undef .undef .undef .undef .undef .undef)) .nil h3) fun v4 h5 =>
 tQ (nic x0 h5) fun v6 =>
 tQ (fa 3 v6 h5) fun v7 =>
 tQ (ld v7 h5) fun v8 =>
 tQ (fa 0 v2 h5) fun v9 =>
 tQ (ld v9 h5) fun v10 =>
 tQ (fa 1 v2 h5) fun v11 =>
 tQ (ld v11 h5) fun v12 =>
 tX (c 35 [v8,v10,v12] h5) fun v13 h14 =>
 tQ (o_ext 0 (.c v13) .nil h14) fun v15 =>
 tQ (o_ext 1 (.c v13) .nil h14) fun v16 =>
 tR (o_alloc 26 3 (.k1 (.mk (pi 0) (pi 0) (.str []) .undef .undef .undef .undef .undef .undef .undef .undef .undef .undef .undef .undef .undef)) .nil h14) fun v17 h18 =>
 tX (RV.toT (o_stn 3 (.c v17) (.c v16) .nil h18)) fun v19 h20 =>
 x (T19 x0 v2 v4 v15 v17) h20) (y0 r) (y1 r)
def x12 : AC := (.shal k12_0 (.shal k12_1 (.shal k12_2 .skip)))
def z12 : List Rs := [.agg 3 .h0 .h4]
def f12 : AF := .mk x12 z12
def k13_0 : KF := fun c i x r h => (fun (x0 : AV) =>
 tT (c 38 [x0] h) fun v1 h2 =>
 tR (o_build [.nils,(pi 0),(pi 0),(pi 0)] [.mk 0 1 (.c v1)] .nil h2) fun v3 h4 =>
 tR (o_box 86 (.c v3) .nil h4) fun v5 h6 =>
 .ret (T10 v5) h6) (y0 r)
def x13 : AC := (.shal k13_0 .skip)
def z13 : List Rs := [.t .h0 .h2]
def f13 : AF := .mk x13 z13
def k14_0 : KF := fun c i x r h => (fun (x0 : AV) =>
 tT (c 39 [x0,(pi 8)] h) fun v1 h2 =>
 tR (cK (.toInt .i64) v1 h2) fun v3 h4 =>
 .ret (T10 v3) h4) (y0 r)
def x14 : AC := (.shal k14_0 .skip)
def z14 : List Rs := [.t .h0 .h2]
def f14 : AF := .mk x14 z14
def k15_2 : KF := fun c i x r h => (fun (x37 x38 x39 x40 : AV) =>
 ifR x40 (.ret (T17 .nilp (pi 12)) h) (.nm (T24 x37 x38 x39) h)) (y0 r) (y4 r) (y5 r) (y46 r)
def k15_7 : KF := fun c i x r h => (fun (x103 x104 x105 x106 x107 : AV) =>
 tR (b_add x107 (pi 1) h) fun v108 h109 =>
 .nm (T26 x103 x104 x105 x106 v108) h109) (y0 r) (y5 r) (y58 r) (y59 r) (y60 r)
def k15_6 : KF := fun c i x r h => (fun (x71 x72 x73 x74 x75 : AV) =>
 tR (ix 11 x73 x75 h) fun v76 h77 =>
 tR (o_ldn 11 (.c v76) .nil h77) fun v78 h79 =>
 tR (o_alloc 103 11 (.k1 (.mk (.str []) (.str []) (pi 0) (.str []) .nils .nils .nils .nils .nils .nils .nils .undef .undef .undef .undef .undef)) .nil h79) fun v80 h81 =>
 tR (o_stn 11 (.c v80) (.c v78) .nil h81) fun v82 h83 =>
 tR (fa 1 v80 h83) fun v84 h85 =>
 tR (ld v84 h85) fun v86 h87 =>
 tT (c 45 [x72,v86] h87) fun v88 h89 =>
 tR (o_ext 0 (.c v88) .nil h89) fun v90 h91 =>
 tR (o_ext 1 (.c v88) .nil h91) fun v92 h93 =>
 tR (b_ne v92 (pi 0) h93) fun v94 h95 =>
 ifR v94 (.ret (T17 .nilp (pi 12)) h95) (tQ (nic x72 h95) fun v96 =>
 tQ (fa 2 v96 h95) fun v97 =>
 tQ (ld v97 h95) fun v98 =>
 tQ (fa 0 v80 h95) fun v99 =>
 tQ (ld v99 h95) fun v100 =>
 tX (RV.toT (mup (.one .s) v98 v100 v90 h95)) fun v101 h102 =>
 x (T26 x71 x72 x73 x74 x75) h102)) (y0 r) (y5 r) (y58 r) (y59 r) (y60 r)
def k15_5 : KF := fun c i x r h => (fun (x64 x65 x66 x67 x68 : AV) =>
 tR (b_lt x68 x67 h) fun v69 h70 =>
 ifR v69 (x (T26 x64 x65 x66 x67 x68) h70) (.ex 0 (T25 x64 x65) h70)) (y0 r) (y5 r) (y58 r) (y59 r) (y60 r)
def k15_4 : KF := fun c i x r h => (fun (x52 x53 : AV) =>
 tR (nic x53 h) fun v54 h55 =>
 tR (fa 0 v54 h55) fun v56 h57 =>
 tR (ld v56 h57) fun v58 h59 =>
 tT (c 44 [v58] h59) fun v60 h61 =>
 tR (len v60 h61) fun v62 h63 =>
 x (T26 x52 x53 v60 v62 (pi 0)) h63) (y0 r) (y5 r)
def k15_8 : KF := fun c i x r h => (fun (x110 x111 : AV) =>
 tT (c 19 [x111] h) fun v112 h113 =>
 tT (c 34 [v112,x110] h113) fun v114 h115 =>
 tR (u_not v114 h115) fun v116 h117 =>
 ifR v116 (.ret (T17 .nilp (pi 12)) h117) (.ret (T17 x111 (pi 0)) h117)) (y0 r) (y5 r)
def k15_3 : KF := fun c i x r h => (fun (x41 x42 x43 : AV) =>
 tT (c 32 [x42] h) fun v44 h45 =>
 tR (o_ext 0 (.c v44) .nil h45) fun v46 h47 =>
 tR (o_ext 1 (.c v44) .nil h47) fun v48 h49 =>
 tR (b_ne v46 (pi 0) h49) fun v50 h51 =>
 ifR v50 (.ret (T17 .nilp (pi 12)) h51) (x (T25 x41 x43) h51)) (y0 r) (y4 r) (y5 r)
def k15_1 : KF := fun c i x r h => (fun (x19 x20 x21 x22 : AV) =>
 tT (c 41 [x20] h) fun v23 h24 =>
 tT (c 42 [v23] h24) fun v25 h26 =>
 tR (o_ext 0 (.c v25) .nil h26) fun v27 h28 =>
 tR (o_ext 1 (.c v25) .nil h28) fun v29 h30 =>
 tR (nic x21 h30) fun v31 h32 =>
 tR (fa 3 v31 h32) fun v33 h34 =>
 tR (sto v33 v27 h34) fun v35 h36 =>
 x (T23 x19 x20 x21 x22 v29) h36) (y0 r) (y4 r) (y5 r) (y6 r)
def k15_0 : KF := fun c i x r h => (fun (x0 : AV) =>
 tT (c 13 [x0] h) fun v1 h2 =>
 tT (c 10 [] h2) fun v3 h4 =>
 tT (c 41 [v1] h4) fun v5 h6 =>
 tT (c 40 [v5] h6) fun v7 h8 =>
 tR (o_ext 0 (.c v7) .nil h8) fun v9 h10 =>
 tR (o_ext 1 (.c v7) .nil h10) fun v11 h12 =>
 tR (nic v3 h12) fun v13 h14 =>
 tR (fa 0 v13 h14) fun v15 h16 =>
 tR (sto v15 v9 h16) fun v17 h18 =>
 x (T22 x0 v1 v3 v11) h18) (y0 r)
def x15 : AC := (.shal k15_0 (.shal k15_1 (.seq (.seq (.ops [m d35 r6,
 o d36 (.bin .ne r35 (.c (pi 0))),
 m d37 r36,
 .g .h2 .h5 false d38 (.op (.mv r7)),
 .g .h2 .h5 false d39 (.op (.bin .ne r38 (.c (pi 0)))),
 o d40 (.pick r37 (.c (.bool true)) r39),
 m d41 r40,
 .g .h2 .h9 false d42 (.op (.mv r5)),
 .g .h2 .h9 false d43 (.op (.mv r4)),
 .g .h2 .h9 false d44 (.call 43 [r42,r43]),
 .g .h2 .h9 false d45 (.op (.un .not r44)),
 o d46 (.pick r41 (.c (.bool true)) r45)]) (.shal k15_2 .skip)) (.shal k15_3 (.seq (.shal k15_4 (.block 0 (.loop (.shal k15_5 (.shal k15_6 (.shal k15_7 .skip)))))) (.shal k15_8 .skip))))))
def z15 : List Rs := [.t .h0 .h2,.t .h0 .h3]
def f15 : AF := .mk x15 z15
def k16_0 : KF := fun c i x r h => tR (o_build [.nils] [] .nil h) fun v0 h1 =>
 tR (o_box 108 (.c v0) .nil h1) fun v2 h3 =>
 .ret (T0 v2) h3
def x16 : AC := (.shal k16_0 .skip)
def z16 : List Rs := [.t .h0 .h0]
def f16 : AF := .mk x16 z16
def k17_0 : KF := fun c i x r h => (fun (x0 x1 : AV) =>
 tR (cK (.toInt .u64) x1 h) fun v2 h3 =>
 tT (c 46 [x0,v2,(pi 8)] h3) fun v4 h5 =>
 .nm T8 h5) (y0 r) (y1 r)
def x17 : AC := (.shal k17_0 .skip)
def z17 : List Rs := []
def f17 : AF := .mk x17 z17
def k18_0 : KF := fun c i x r h => (fun (x0 : AV) =>
 tR (nic x0 h) fun v1 h2 =>
 tR (fa 0 v1 h2) fun v3 h4 =>
 tR (ld v3 h4) fun v5 h6 =>
 tT (c 38 [v5] h6) fun v7 h8 =>
 .ret (T10 v7) h8) (y0 r)
def x18 : AC := (.shal k18_0 .skip)
def z18 : List Rs := [.t .h0 .h2]
def f18 : AF := .mk x18 z18
def k19_2 : KF := fun c i x r h => (fun (x33 x34 x35 x36 : AV) =>
 tR (b_lt x36 x35 h) fun v37 h38 =>
 ifR v37 (tR (ix 3 x34 x36 h38) fun v39 h40 =>
 tR (o_ldn 3 (.c v39) .nil h40) fun v41 h42 =>
 tR (o_alloc 114 3 (.k1 (.mk (.str []) .nils .nils .undef .undef .undef .undef .undef .undef .undef .undef .undef .undef .undef .undef .undef)) .nil h42) fun v43 h44 =>
 tR (o_stn 3 (.c v43) (.c v41) .nil h44) fun v45 h46 =>
 tR (fa 2 v43 h46) fun v47 h48 =>
 tR (ld v47 h48) fun v49 h50 =>
 tT (c 50 [x33,v49] h50) fun v51 h52 =>
 tR (b_add x36 (pi 1) h52) fun v53 h54 =>
 .nm (T27 x33 x34 x35 v53) h54) (.ex 0 (T27 x33 x34 x35 x36) h38)) (y3 r) (y24 r) (y25 r) (y26 r)
def k19_1 : KF := fun c i x r h => (fun (x23 x24 : AV) =>
 tR (nic x23 h) fun v25 h26 =>
 tR (fa 1 v25 h26) fun v27 h28 =>
 tR (ld v27 h28) fun v29 h30 =>
 tR (len v29 h30) fun v31 h32 =>
 x (T27 x24 v29 v31 (pi 0)) h32) (y0 r) (y3 r)
def k19_3 : KF := fun c i x r h => (fun (x55 : AV) =>
 tT (c 18 [x55] h) fun v56 h57 =>
 .ret (T10 v56) h57) (y3 r)
def k19_0 : KF := fun c i x r h => (fun (x0 : AV) =>
 tT (c 16 [] h) fun v1 h2 =>
 tR (nic x0 h2) fun v3 h4 =>
 tR (fa 0 v3 h4) fun v5 h6 =>
 tR (ld v5 h6) fun v7 h8 =>
 tT (c 48 [v7] h8) fun v9 h10 =>
 tT (c 47 [v1,v9] h10) fun v11 h12 =>
 tR (nic x0 h12) fun v13 h14 =>
 tR (fa 3 v13 h14) fun v15 h16 =>
 tR (ld v15 h16) fun v17 h18 =>
 tT (c 49 [v17] h18) fun v19 h20 =>
 tT (c 47 [v1,v19] h20) fun v21 h22 =>
 x (T9 x0 v1) h22) (y0 r)
def x19 : AC := (.shal k19_0 (.seq (.shal k19_1 (.block 0 (.loop (.shal k19_2 .skip)))) (.shal k19_3 .skip)))
def z19 : List Rs := [.t .h0 .h2]
def f19 : AF := .mk x19 z19
def k20_3 : KF := fun c i x r h => (fun (x59 x60 x61 x62 x63 : AV) =>
 tR (b_lt x63 x62 h) fun v64 h65 =>
 ifR v64 (tR (ix 2 x61 x63 h65) fun v66 h67 =>
 tR (o_ldn 2 (.c v66) .nil h67) fun v68 h69 =>
 tR (o_alloc 71 2 (.k1 (.mk (.str []) (pi 0) .undef .undef .undef .undef .undef .undef .undef .undef .undef .undef .undef .undef .undef .undef)) .nil h69) fun v70 h71 =>
 tR (o_stn 2 (.c v70) (.c v68) .nil h71) fun v72 h73 =>
 tR (fa 0 v70 h73) fun v74 h75 =>
 tR (ld v74 h75) fun v76 h77 =>
 tT (c 51 [x60,v76] h77) fun v78 h79 =>
 tR (fa 1 v70 h79) fun v80 h81 =>
 tR (ld v80 h81) fun v82 h83 =>
 tT (c 17 [x60,v82] h83) fun v84 h85 =>
 tR (b_add x63 (pi 1) h85) fun v86 h87 =>
 .nm (T29 x59 x60 x61 x62 v86) h87) (.ex 0 (T29 x59 x60 x61 x62 x63) h65)) (y1 r) (y3 r) (y41 r) (y42 r) (y43 r)
def k20_2 : KF := fun c i x r h => (fun (x51 x52 : AV) =>
 tR (fa 5 x51 h) fun v53 h54 =>
 tR (ld v53 h54) fun v55 h56 =>
 tR (len v55 h56) fun v57 h58 =>
 x (T29 x51 x52 v55 v57 (pi 0)) h58) (y1 r) (y3 r)
def k20_9 : KF := fun c i x r h => (fun (x149 x150 x151 x152 x153 x154 x155 x156 : AV) =>
 tR (b_lt x156 x155 h) fun v157 h158 =>
 ifR v157 (tR (ix 3 x154 x156 h158) fun v159 h160 =>
 tR (o_ldn 3 (.c v159) .nil h160) fun v161 h162 =>
 tR (o_alloc 119 3 (.k1 (.mk (pi 0) (pi 0) (.str []) .undef .undef .undef .undef .undef .undef .undef .undef .undef .undef .undef .undef .undef)) .nil h162) fun v163 h164 =>
 tR (o_stn 3 (.c v163) (.c v161) .nil h164) fun v165 h166 =>
 tR (fa 0 v163 h166) fun v167 h168 =>
 tR (ld v167 h168) fun v169 h170 =>
 tT (c 17 [x149,v169] h170) fun v171 h172 =>
 tR (fa 1 v163 h172) fun v173 h174 =>
 tR (ld v173 h174) fun v175 h176 =>
 tT (c 17 [x149,v175] h176) fun v177 h178 =>
 tR (fa 2 v163 h178) fun v179 h180 =>
 tR (ld v179 h180) fun v181 h182 =>
 tT (c 51 [x149,v181] h182) fun v183 h184 =>
 tR (b_add x156 (pi 1) h184) fun v185 h186 =>
 .nm (T33 x149 x150 x151 x152 x153 x154 x155 v185) h186) (.ex 4 (T33 x149 x150 x151 x152 x153 x154 x155 x156) h158)) (y3 r) (y7 r) (y62 r) (y63 r) (y64 r) (y78 r) (y79 r) (y80 r)
def k20_8 : KF := fun c i x r h => (fun (x138 x139 x140 x141 x142 : AV) =>
 tR (fa 1 x139 h) fun v143 h144 =>
 tR (ld v143 h144) fun v145 h146 =>
 tR (len v145 h146) fun v147 h148 =>
 x (T33 x138 x139 x140 x141 x142 v145 v147 (pi 0)) h148) (y3 r) (y7 r) (y62 r) (y63 r) (y64 r)
def k20_10 : KF := fun c i x r h => (fun (x187 x188 x189 x190 x191 : AV) =>
 tR (fa 2 x188 h) fun v192 h193 =>
 tR (ld v192 h193) fun v194 h195 =>
 ifR v194 (tT (c 52 [x187,(pi 1)] h195) fun v196 h197 =>
 .nm (T30 x187 x189 x190 x191) h197) (tT (c 52 [x187,(pi 0)] h195) fun v198 h199 =>
 .nm (T30 x187 x189 x190 x191) h199)) (y3 r) (y7 r) (y62 r) (y63 r) (y64 r)
def k20_7 : KF := fun c i x r h => (fun (x112 x113 x114 x115 : AV) =>
 tR (ix 3 x113 x115 h) fun v116 h117 =>
 tR (o_ldn 3 (.c v116) .nil h117) fun v118 h119 =>
 tR (o_alloc 75 3 (.k1 (.mk (.str []) .nils (.bool false) .undef .undef .undef .undef .undef .undef .undef .undef .undef .undef .undef .undef .undef)) .nil h119) fun v120 h121 =>
 tR (o_stn 3 (.c v120) (.c v118) .nil h121) fun v122 h123 =>
 tR (fa 0 v120 h123) fun v124 h125 =>
 tR (ld v124 h125) fun v126 h127 =>
 tT (c 51 [x112,v126] h127) fun v128 h129 =>
 tR (fa 1 v120 h129) fun v130 h131 =>
 tR (ld v130 h131) fun v132 h133 =>
 tR (len v132 h133) fun v134 h135 =>
 tT (c 52 [x112,v134] h135) fun v136 h137 =>
 x (T32 x112 v120 x113 x114 x115) h137) (y3 r) (y62 r) (y63 r) (y64 r)
def k20_11 : KF := fun c i x r h => (fun (x200 x201 x202 x203 : AV) =>
 tR (b_add x203 (pi 1) h) fun v204 h205 =>
 .nm (T30 x200 x201 x202 v204) h205) (y3 r) (y62 r) (y63 r) (y64 r)
def k20_6 : KF := fun c i x r h => (fun (x106 x107 x108 x109 : AV) =>
 tR (b_lt x109 x108 h) fun v110 h111 =>
 ifR v110 (x (T30 x106 x107 x108 x109) h111) (.ex 2 (T31 x106) h111)) (y3 r) (y62 r) (y63 r) (y64 r)
def k20_5 : KF := fun c i x r h => (fun (x98 x99 : AV) =>
 tR (fa 6 x98 h) fun v100 h101 =>
 tR (ld v100 h101) fun v102 h103 =>
 tR (len v102 h103) fun v104 h105 =>
 x (T30 x99 v102 v104 (pi 0)) h105) (y1 r) (y3 r)
def k20_12 : KF := fun c i x r h => (fun (x206 : AV) =>
 tT (c 18 [x206] h) fun v207 h208 =>
 .ret (T10 v207) h208) (y3 r)
def k20_4 : KF := fun c i x r h => (fun (x88 x89 : AV) =>
 tR (fa 6 x88 h) fun v90 h91 =>
 tR (ld v90 h91) fun v92 h93 =>
 tR (len v92 h93) fun v94 h95 =>
 tT (c 52 [x89,v94] h95) fun v96 h97 =>
 x (T28 x88 x89) h97) (y1 r) (y3 r)
def k20_1 : KF := fun c i x r h => (fun (x29 x30 : AV) =>
 tR (fa 3 x29 h) fun v31 h32 =>
 tR (ld v31 h32) fun v33 h34 =>
 tT (c 51 [x30,v33] h34) fun v35 h36 =>
 tR (fa 4 x29 h36) fun v37 h38 =>
 tR (ld v37 h38) fun v39 h40 =>
 tT (c 51 [x30,v39] h40) fun v41 h42 =>
 tR (fa 5 x29 h42) fun v43 h44 =>
 tR (ld v43 h44) fun v45 h46 =>
 tR (len v45 h46) fun v47 h48 =>
 tT (c 52 [x30,v47] h48) fun v49 h50 =>
 x (T28 x29 x30) h50) (y1 r) (y3 r)
def k20_0 : KF := fun c i x r h => (fun (x0 : AV) =>
 tR (o_box 40 (.c x0) .nil h) fun v1 h2 =>
 tR (o_ldn 7 (.c v1) .nil h2) fun v3 h4 =>
 tT (c 33 [v3] h4) fun v5 h6 =>
 tR (u_not v5 h6) fun v7 h8 =>
 ifR v7 (.ret (T10 .nils) h8) (tT (c 16 [] h8) fun v9 h10 =>
 tR (fa 0 v1 h10) fun v11 h12 =>
 tR (ld v11 h12) fun v13 h14 =>
 tT (c 17 [v9,v13] h14) fun v15 h16 =>
 tR (fa 1 v1 h16) fun v17 h18 =>
 tR (ld v17 h18) fun v19 h20 =>
 tT (c 17 [v9,v19] h20) fun v21 h22 =>
 tR (fa 2 v1 h22) fun v23 h24 =>
 tR (ld v23 h24) fun v25 h26 =>
 tT (c 17 [v9,v25] h26) fun v27 h28 =>
 x (T28 v1 v9) h28)) (y0 r)
def x20 : AC := (.shal k20_0 (.shal k20_1 (.seq (.shal k20_2 (.block 0 (.loop (.shal k20_3 .skip)))) (.shal k20_4 (.seq (.shal k20_5 (.block 2 (.loop (.shal k20_6 (.seq (.block 3 (.shal k20_7 (.seq (.shal k20_8 (.block 4 (.loop (.shal k20_9 .skip)))) (.shal k20_10 .skip)))) (.shal k20_11 .skip)))))) (.shal k20_12 .skip))))))
def z20 : List Rs := [.t .h0 .h2]
def f20 : AF := .mk x20 z20
def k21_0 : KF := fun c i x r h => (fun (x0 x1 x2 : AV) =>
 tR (o_box 40 (.c x0) .nil h) fun v3 h4 =>
 tR (o_alloc 40 7 (.k1 (.mk (pi 0) (pi 0) (pi 0) (.str []) (.str []) .nils .nils .undef .undef .undef .undef .undef .undef .undef .undef .undef)) .nil h4) fun v5 h6 =>
 tR (fa 0 v3 h6) fun v7 h8 =>
 tR (sto v7 x1 h8) fun v9 h10 =>
 tR (fa 1 v3 h10) fun v11 h12 =>
 tR (sto v11 x2 h12) fun v13 h14 =>
 tR (o_ldn 7 (.c v3) .nil h14) fun v15 h16 =>
 tR (o_stn 7 (.c v5) (.c v15) .nil h16) fun v17 h18 =>
 .ret (T6 v5) h18) (y0 r) (y1 r) (y2 r)
def x21 : AC := (.shal k21_0 .skip)
def z21 : List Rs := [.agg 7 .h0 .h6]
def f21 : AF := .mk x21 z21
def k22_0 : KF := fun c i x r h => (fun (x0 x1 : AV) =>
 tR (o_alloc 40 7 (.k1 (.mk (pi 0) (pi 0) (pi 0) (.str []) (.str []) .nils .nils .undef .undef .undef .undef .undef .undef .undef .undef .undef)) .nil h) fun v2 h3 =>
 tR (o_bslice 71 2 0 [] [] .nil h3) fun v4 h5 =>
 tR (appV 71 2 v4 x1 h5) fun v6 h7 =>
 tR (o_build [(pi 0),(pi 0),(pi 0),(.str []),(.str []),.nils,.nils] [.mk 2 1 (.c (pi 1)),.mk 3 1 (.c x0),.mk 5 1 (.c v6)] .nil h7) fun v8 h9 =>
 tR (o_stn 7 (.c v2) (.c v8) .nil h9) fun v10 h11 =>
 .ret (T21 v2) h11) (y0 r) (y1 r)
def x22 : AC := (.shal k22_0 .skip)
def z22 : List Rs := [.agg 7 .h0 .h4]
def f22 : AF := .mk x22 z22
def k23_0 : KF := fun c i x r h => tR (o_build [(.str []),(pi 0)] [.mk 0 1 (.c (.str [97])),.mk 1 1 (.c (pi 1))] .nil h) fun v0 h1 =>
 tR (o_build [(.str []),(pi 0)] [.mk 0 1 (.c (.str [98])),.mk 1 1 (.c (pi 1))] .nil h1) fun v2 h3 =>
 tR (o_build [(.str []),(pi 0)] [.mk 0 1 (.c (.str [115])),.mk 1 1 (.c (pi 2))] .nil h3) fun v4 h5 =>
 tR (o_bslice 71 2 3 [(.str []),(pi 0),(.str []),(pi 0),(.str []),(pi 0)] [.mk 0 2 (.c v0),.mk 2 2 (.c v2),.mk 4 2 (.c v4)] .nil h5) fun v6 h7 =>
 .ret (T0 v6) h7
def x23 : AC := (.shal k23_0 .skip)
def z23 : List Rs := [.t .h0 .h0]
def f23 : AF := .mk x23 z23
def k24_0 : KF := fun c i x r h => (fun (x0 : AV) =>
 tR (nic x0 h) fun v1 h2 =>
 tR (fa 0 v1 h2) fun v3 h4 =>
 tR (ld v3 h4) fun v5 h6 =>
 tT (c 19 [v5] h6) fun v7 h8 =>
 tT (c 15 [v7] h8) fun v9 h10 =>
 tR (o_ext 0 (.c v9) .nil h10) fun v11 h12 =>
 tR (o_ext 1 (.c v9) .nil h12) fun v13 h14 =>
 .ret (T10 v11) h14) (y0 r)
def x24 : AC := (.shal k24_0 .skip)
def z24 : List Rs := [.t .h0 .h2]
def f24 : AF := .mk x24 z24
def k25_2 : KF := fun c i x r h => (fun (x10 x11 x12 : AV) =>
 tR (len x10 h) fun v13 h14 =>
 tR (b_lt x12 v13 h14) fun v15 h16 =>
 ifR v15 (tQ (ix 1 x10 x12 h16) fun v17 =>
 tQ (ld v17 h16) fun v18 =>
 tQ (ix 1 x11 x12 h16) fun v19 =>
 tQ (ld v19 h16) fun v20 =>
 tQ (b_sne v18 v20 h16) fun v21 =>
 ifR v21 (.ret (T21 (.bool false)) h16) (tR (b_add x12 (pi 1) h16) fun v22 h23 =>
 .nm (T35 x10 x11 v22) h23)) (.ex 0 (T35 x10 x11 x12) h16)) (y0 r) (y1 r) (y5 r)
def k25_1 : KF := fun c i x r h => (fun (x8 x9 : AV) =>
 x (T35 x8 x9 (pi 0)) h) (y0 r) (y1 r)
def k25_3 : KF := fun c i x r h => .ret (T21 (.bool true)) h
def k25_0 : KF := fun c i x r h => (fun (x0 x1 : AV) =>
 tR (len x0 h) fun v2 h3 =>
 tR (len x1 h3) fun v4 h5 =>
 tR (b_ne v2 v4 h5) fun v6 h7 =>
 ifR v6 (.ret (T21 (.bool false)) h7) (x (T34 x0 x1) h7)) (y0 r) (y1 r)
def x25 : AC := (.shal k25_0 (.seq (.shal k25_1 (.block 0 (.loop (.shal k25_2 .skip)))) (.shal k25_3 .skip)))
def z25 : List Rs := [.t .h0 .h4]
def f25 : AF := .mk x25 z25
def k26_2 : KF := fun c i x r h => (fun (x13 x14 x15 x16 : AV) =>
 tR (b_lt x16 x15 h) fun v17 h18 =>
 ifR v17 (tR (ix 2 x14 x16 h18) fun v19 h20 =>
 tR (o_ldn 2 (.c v19) .nil h20) fun v21 h22 =>
 tR (o_alloc 123 2 (.k1 (.mk (.str []) .nils .undef .undef .undef .undef .undef .undef .undef .undef .undef .undef .undef .undef .undef .undef)) .nil h22) fun v23 h24 =>
 tR (o_stn 2 (.c v23) (.c v21) .nil h24) fun v25 h26 =>
 tR (fa 0 v23 h26) fun v27 h28 =>
 tR (ld v27 h28) fun v29 h30 =>
 tR (o_bslice 9 1 1 [(.str [])] [.mk 0 1 (.c v29)] .nil h30) fun v31 h32 =>
 tR (appV 9 1 x13 v31 h32) fun v33 h34 =>
 tR (b_add x16 (pi 1) h34) fun v35 h36 =>
 .nm (T36 v33 x14 x15 v35) h36) (.ex 0 (T36 x13 x14 x15 x16) h18)) (y3 r) (y10 r) (y11 r) (y12 r)
def k26_1 : KF := fun c i x r h => (fun (x1 x2 : AV) =>
 tR (nic x1 h) fun v3 h4 =>
 tR (fa 0 v3 h4) fun v5 h6 =>
 tR (ld v5 h6) fun v7 h8 =>
 tT (c 53 [v7] h8) fun v9 h10 =>
 tR (len v9 h10) fun v11 h12 =>
 x (T36 x2 v9 v11 (pi 0)) h12) (y0 r) (y3 r)
def k26_3 : KF := fun c i x r h => (fun (x37 : AV) =>
 .ret (T10 x37) h) (y3 r)
def k26_0 : KF := fun c i x r h => (fun (x0 : AV) =>
 x (T9 x0 .nils) h) (y0 r)
def x26 : AC := (.shal k26_0 (.seq (.shal k26_1 (.block 0 (.loop (.shal k26_2 .skip)))) (.shal k26_3 .skip)))
def z26 : List Rs := [.t .h0 .h2]
def f26 : AF := .mk x26 z26
def k27_0 : KF := fun c i x r h => tR (o_build [.nils,.nils] [] .nil h) fun v0 h1 =>
 tR (o_box 125 (.c v0) .nil h1) fun v2 h3 =>
 .ret (T0 v2) h3
def x27 : AC := (.shal k27_0 .skip)
def z27 : List Rs := [.t .h0 .h0]
def f27 : AF := .mk x27 z27
def k28_0 : KF := fun c i x r h => tR (o_build [(pi 0),(pi 0),(pi 0),(.str []),(pi 0),(pi 0),(pi 0),(.str []),(pi 0),(pi 0),(pi 0),(.str []),(pi 0),(pi 0),(pi 0),(.str []),(pi 0),(pi 0),(pi 0),(.str []),(pi 0),(pi 0),(pi 0),(.str []),(pi 0),(pi 0),(pi 0),(.str []),(pi 0),(pi 0),(pi 0),(.str []),(pi 0),(pi 0),(pi 0),(.str []),(pi 0),(pi 0),(pi 0),(.str []),(pi 0),(pi 0),(pi 0),(.str []),(pi 0),(pi 0),(pi 0),(.str []),(pi 0),(pi 0),(pi 0),(.str []),(pi 0),(pi 0),(pi 0),(.str []),(pi 0),(pi 0),(pi 0),(.str []),(pi 0),(pi 0),(pi 0),(.str [])] [] .nil h) fun v0 h1 =>
 tR (o_box 130 (.c v0) .nil h1) fun v2 h3 =>
 .ret (T0 v2) h3
def x28 : AC := (.shal k28_0 .skip)
def z28 : List Rs := [.t .h0 .h0]
def f28 : AF := .mk x28 z28
def k29_1 : KF := fun c i x r h => (fun (x10 x11 x12 x13 : AV) =>
 ifR x13 (tT (c 55 [x10,(pi 3),x11] h) fun v14 h15 =>
 .nm (T38 x10 x12) h15) (.nm (T38 x10 x12) h)) (y0 r) (y5 r) (y6 r) (y23 r)
def k29_2 : KF := fun c i x r h => (fun (x16 x17 : AV) =>
 tT (c 56 [x16,x17] h) fun v18 h19 =>
 tR (cK .b2s v18 h19) fun v20 h21 =>
 .ret (T21 v20) h21) (y0 r) (y6 r)
def k29_0 : KF := fun c i x r h => (fun (x0 x1 : AV) =>
 tR (nic x0 h) fun v2 h3 =>
 tR (fa 1 v2 h3) fun v4 h5 =>
 tR (ld v4 h5) fun v6 h7 =>
 tT (c 54 [x0] h7) fun v8 h9 =>
 x (T37 x0 x1 v6 v8) h9) (y0 r) (y1 r)
def x29 : AC := (.shal k29_0 (.seq (.seq (.ops [m d13 r0,
 o d14 (.nilc r13),
 o d15 (.fad 2 r14),
 o d16 (.ld1 r15),
 o d17 (.bin .eq r16 (.c (pi 0))),
 m d18 r17,
 .g .h1 .h2 true d19 (.op (.mv r6)),
 .g .h1 .h2 true d20 (.op (.mv r1)),
 .g .h1 .h2 true d21 (.op (.max false [r20,(.c (pi 0))])),
 .g .h1 .h2 true d22 (.op (.bin .gt r19 r21)),
 o d23 (.pick r18 r22 (.c (.bool false)))]) (.shal k29_1 .skip)) (.shal k29_2 .skip)))
def z29 : List Rs := [.t .h0 .h4]
def f29 : AF := .mk x29 z29
def k30_0 : KF := fun c i x r h => (fun (x0 : AV) =>
 tT (c 39 [x0,(pi 1)] h) fun v1 h2 =>
 tR (cK (.toInt .i64) v1 h2) fun v3 h4 =>
 .ret (T10 v3) h4) (y0 r)
def x30 : AC := (.shal k30_0 .skip)
def z30 : List Rs := [.t .h0 .h2]
def f30 : AF := .mk x30 z30
def k32_2 : KF := fun c i x r h => .ret (T17 (pi 0) (pi 0)) h
def k32_1 : KF := fun c i x r h => (fun (x1 : AV) =>
 tR (nic x1 h) fun v2 h3 =>
 tR (fa 2 v2 h3) fun v4 h5 =>
 tR (ld v4 h5) fun v6 h7 =>
 tR (b_ne v6 (pi 0) h7) fun v8 h9 =>
 ifR v8 (tQ (nic x1 h9) fun v10 =>
 tQ (fa 2 v10 h9) fun v11 =>
 tQ (ld v11 h9) fun v12 =>
 tQ (nic x1 h9) fun v13 =>
 tQ (fa 3 v13 h9) fun v14 =>
 tQ (ld v14 h9) fun v15 =>
 .ret (T17 v12 v15) h9) (tQ (nic x1 h9) fun v16 =>
 tQ (fa 1 v16 h9) fun v17 =>
 tQ (ld v17 h9) fun v18 =>
 tQ (nic x1 h9) fun v19 =>
 tQ (fa 0 v19 h9) fun v20 =>
 tQ (ld v20 h9) fun v21 =>
 tQ (len v21 h9) fun v22 =>
 tQ (b_lt v18 v22 h9) fun v23 =>
 ifR v23 (tQ (nic x1 h9) fun v24 =>
 tQ (fa 1 v24 h9) fun v25 =>
 tQ (ld v25 h9) fun v26 =>
 .ret (T17 (pi 11) v26) h9) (x T8 h9))) (y0 r)
def k32_0 : KF := fun c i x r h => (fun (x0 : AV) =>
 x (T0 x0) h) (y0 r)
def x32 : AC := (.shal k32_0 (.shal k32_1 (.shal k32_2 .skip)))
def z32 : List Rs := [.t .h0 .h2,.t .h0 .h3]
def f32 : AF := .mk x32 z32
def k33_1 : KF := fun c i x r h => (fun (x3 x4 : AV) =>
 ifR x4 (.ret (T10 (.bool false)) h) (.nm (T39 x3) h)) (y1 r) (y36 r)
def k33_5 : KF := fun c i x r h => (fun (x30 x31 x32 x33 x34 : AV) =>
 ifR x34 (.ret (T10 (.bool false)) h) (.nm (T40 x30 x31 x32 x33) h)) (y1 r) (y38 r) (y39 r) (y40 r) (y55 r)
def k33_4 : KF := fun c i x r h => (fun (x18 x19 x20 x21 : AV) =>
 tR (ix 2 x19 x21 h) fun v22 h23 =>
 tR (o_ldn 2 (.c v22) .nil h23) fun v24 h25 =>
 tR (o_alloc 71 2 (.k1 (.mk (.str []) (pi 0) .undef .undef .undef .undef .undef .undef .undef .undef .undef .undef .undef .undef .undef .undef)) .nil h25) fun v26 h27 =>
 tR (o_stn 2 (.c v26) (.c v24) .nil h27) fun v28 h29 =>
 x (T41 x18 v26 x19 x20 x21) h29) (y1 r) (y38 r) (y39 r) (y40 r)
def k33_6 : KF := fun c i x r h => (fun (x35 x36 x37 x38 : AV) =>
 tR (b_add x38 (pi 1) h) fun v39 h40 =>
 .nm (T40 x35 x36 x37 v39) h40) (y1 r) (y38 r) (y39 r) (y40 r)
def k33_3 : KF := fun c i x r h => (fun (x12 x13 x14 x15 : AV) =>
 tR (b_lt x15 x14 h) fun v16 h17 =>
 ifR v16 (x (T40 x12 x13 x14 x15) h17) (.ex 0 (T39 x12) h17)) (y1 r) (y38 r) (y39 r) (y40 r)
def k33_2 : KF := fun c i x r h => (fun (x5 : AV) =>
 tR (fa 5 x5 h) fun v6 h7 =>
 tR (ld v6 h7) fun v8 h9 =>
 tR (len v8 h9) fun v10 h11 =>
 x (T40 x5 v8 v10 (pi 0)) h11) (y1 r)
def k33_10 : KF := fun c i x r h => (fun (x64 x65 x66 x67 : AV) =>
 ifR x67 (.ret (T10 (.bool false)) h) (.nm (T42 x64 x65 x66) h)) (y58 r) (y59 r) (y60 r) (y74 r)
def k33_9 : KF := fun c i x r h => (fun (x53 x54 x55 : AV) =>
 tR (ix 3 x53 x55 h) fun v56 h57 =>
 tR (o_ldn 3 (.c v56) .nil h57) fun v58 h59 =>
 tR (o_alloc 75 3 (.k1 (.mk (.str []) .nils (.bool false) .undef .undef .undef .undef .undef .undef .undef .undef .undef .undef .undef .undef .undef)) .nil h59) fun v60 h61 =>
 tR (o_stn 3 (.c v60) (.c v58) .nil h61) fun v62 h63 =>
 x (T43 v60 x53 x54 x55) h63) (y58 r) (y59 r) (y60 r)
def k33_11 : KF := fun c i x r h => (fun (x68 x69 x70 : AV) =>
 tR (b_add x70 (pi 1) h) fun v71 h72 =>
 .nm (T42 x68 x69 v71) h72) (y58 r) (y59 r) (y60 r)
def k33_8 : KF := fun c i x r h => (fun (x48 x49 x50 : AV) =>
 tR (b_lt x50 x49 h) fun v51 h52 =>
 ifR v51 (x (T42 x48 x49 x50) h52) (.ex 2 T8 h52)) (y58 r) (y59 r) (y60 r)
def k33_7 : KF := fun c i x r h => (fun (x41 : AV) =>
 tR (fa 6 x41 h) fun v42 h43 =>
 tR (ld v42 h43) fun v44 h45 =>
 tR (len v44 h45) fun v46 h47 =>
 x (T42 v44 v46 (pi 0)) h47) (y1 r)
def k33_12 : KF := fun c i x r h => .ret (T10 (.bool true)) h
def k33_0 : KF := fun c i x r h => (fun (x0 : AV) =>
 tR (o_box 40 (.c x0) .nil h) fun v1 h2 =>
 x (T39 v1) h2) (y0 r)
def x33 : AC := (.shal k33_0 (.seq (.seq (.ops [o d7 (.fad 0 r1),
 o d8 (.ld1 r7),
 o d9 (.fad 1 r1),
 o d10 (.ld1 r9),
 o d11 (.fad 2 r1),
 o d12 (.ld1 r11),
 o d13 (.bslice 3 1 3 [(pi 0),(pi 0),(pi 0)] [.mk 0 1 r8,.mk 1 1 r10,.mk 2 1 r12]),
 .o d14 (.call 57 [r13]),
 o d15 (.un .not r14),
 m d16 r15,
 .g .h1 .h0 false d17 (.op (.fad 3 r1)),
 .g .h1 .h0 false d18 (.op (.ld1 r17)),
 .g .h1 .h0 false d19 (.op (.fad 4 r1)),
 .g .h1 .h0 false d20 (.op (.ld1 r19)),
 .g .h1 .h0 false d21 (.op (.bslice 9 1 2 [(.str []),(.str [])] [.mk 0 1 r18,.mk 1 1 r20])),
 .g .h1 .h0 false d22 (.call 58 [r21]),
 .g .h1 .h0 false d23 (.op (.un .not r22)),
 o d24 (.pick r16 (.c (.bool true)) r23),
 m d25 r24,
 .g .h1 .h9 false d26 (.op (.fad 5 r1)),
 .g .h1 .h9 false d27 (.op (.ld1 r26)),
 .g .h1 .h9 false d28 (.op (.len r27)),
 .g .h1 .h9 false d29 (.op (.bin .gt r28 (.c (pi 255)))),
 o d30 (.pick r25 (.c (.bool true)) r29),
 m d31 r30,
 .g .h1 .hf false d32 (.op (.fad 6 r1)),
 .g .h1 .hf false d33 (.op (.ld1 r32)),
 .g .h1 .hf false d34 (.op (.len r33)),
 .g .h1 .hf false d35 (.op (.bin .gt r34 (.c (pi 255)))),
 o d36 (.pick r31 (.c (.bool true)) r35)]) (.shal k33_1 .skip)) (.seq (.shal k33_2 (.block 0 (.loop (.shal k33_3 (.seq (.block 1 (.shal k33_4 (.seq (.ops [o d44 (.fad 1 r4),
 o d45 (.ld1 r44),
 o d46 (.bslice 3 1 1 [(pi 0)] [.mk 0 1 r45]),
 .o d47 (.call 57 [r46]),
 o d48 (.un .not r47),
 m d49 r48,
 .g .h3 .h1 false d50 (.op (.fad 0 r4)),
 .g .h3 .h1 false d51 (.op (.ld1 r50)),
 .g .h3 .h1 false d52 (.op (.bslice 9 1 1 [(.str [])] [.mk 0 1 r51])),
 .g .h3 .h1 false d53 (.call 58 [r52]),
 .g .h3 .h1 false d54 (.op (.un .not r53)),
 o d55 (.pick r49 (.c (.bool true)) r54)]) (.shal k33_5 .skip)))) (.shal k33_6 .skip)))))) (.seq (.shal k33_7 (.block 2 (.loop (.shal k33_8 (.seq (.block 3 (.shal k33_9 (.seq (.ops [o d64 (.fad 0 r6),
 o d65 (.ld1 r64),
 o d66 (.bslice 9 1 1 [(.str [])] [.mk 0 1 r65]),
 .o d67 (.call 58 [r66]),
 o d68 (.un .not r67),
 m d69 r68,
 .g .h4 .h5 false d70 (.op (.fad 1 r6)),
 .g .h4 .h5 false d71 (.op (.ld1 r70)),
 .g .h4 .h5 false d72 (.call 59 [r71]),
 .g .h4 .h5 false d73 (.op (.un .not r72)),
 o d74 (.pick r69 (.c (.bool true)) r73)]) (.shal k33_10 .skip)))) (.shal k33_11 .skip)))))) (.shal k33_12 .skip)))))
def z33 : List Rs := [.t .h0 .h2]
def f33 : AF := .mk x33 z33
def k34_0 : KF := fun c i x r h => (fun (x0 x1 : AV) =>
 tR (cK .b2s x0 h) fun v2 h3 =>
 tR (cK .b2s x1 h3) fun v4 h5 =>
 tR (b_seq v2 v4 h5) fun v6 h7 =>
 .ret (T21 v6) h7) (y0 r) (y1 r)
def x34 : AC := (.shal k34_0 .skip)
def z34 : List Rs := [.t .h0 .h4]
def f34 : AF := .mk x34 z34
def k35_1 : KF := fun c i x r h => (fun (x5 x6 x7 x8 x9 : AV) =>
 ifR x9 (tR (o_build [(pi 0),(pi 0),(.str [])] [] .nil h) fun v10 h11 =>
 tR (o_stn 3 (.c x8) (.c v10) .nil h11) fun v12 h13 =>
 .ret (T4 (pi 0) x8) h13) (tR (nic x5 h) fun v14 h15 =>
 tR (fa 0 v14 h15) fun v16 h17 =>
 tR (o_ixa 16 4 (.c v16) (.c x6) .nil h17) fun v18 h19 =>
 tR (fa 0 v18 h19) fun v20 h21 =>
 tR (ld v20 h21) fun v22 h23 =>
 tR (b_gt x7 v22 h23) fun v24 h25 =>
 ifR v24 (tR (o_build [(pi 0),(pi 0),(.str [])] [] .nil h25) fun v26 h27 =>
 tR (o_stn 3 (.c x8) (.c v26) .nil h27) fun v28 h29 =>
 .ret (T4 (pi 1) x8) h29) (tR (nic x5 h25) fun v30 h31 =>
 tR (fa 0 v30 h31) fun v32 h33 =>
 tR (o_ixa 16 4 (.c v32) (.c x6) .nil h33) fun v34 h35 =>
 tR (fa 0 v34 h35) fun v36 h37 =>
 tR (ld v36 h37) fun v38 h39 =>
 tR (b_eq x7 v38 h39) fun v40 h41 =>
 ifR v40 (tQ (nic x5 h41) fun v42 =>
 tQ (fa 0 v42 h41) fun v43 =>
 tQ (o_ixa 16 4 (.c v43) (.c x6) .nil h41) fun v44 =>
 tQ (fa 1 v44 h41) fun v45 =>
 tQ (o_ldn 3 (.c v45) .nil h41) fun v46 =>
 tX (RV.toT (o_stn 3 (.c x8) (.c v46) .nil h41)) fun v47 h48 =>
 .ret (T4 (pi 2) x8) h48) (.nm (T45 x8) h41)))) (y0 r) (y1 r) (y2 r) (y7 r) (y8 r)
def k35_2 : KF := fun c i x r h => (fun (x49 : AV) =>
 tR (o_build [(pi 0),(pi 0),(.str [])] [] .nil h) fun v50 h51 =>
 tR (o_stn 3 (.c x49) (.c v50) .nil h51) fun v52 h53 =>
 .ret (T4 (pi 3) x49) h53) (y7 r)
def k35_0 : KF := fun c i x r h => (fun (x0 x1 x2 : AV) =>
 tR (o_alloc 26 3 (.k1 (.mk (pi 0) (pi 0) (.str []) .undef .undef .undef .undef .undef .undef .undef .undef .undef .undef .undef .undef .undef)) .nil h) fun v3 h4 =>
 x (T44 x0 x1 x2 v3) h4) (y0 r) (y1 r) (y2 r)
def x35 : AC := (.shal k35_0 (.seq (.block 0 (.seq (.ops [m d9 r1,
 o d10 (.bin .lt r9 (.c (pi 0))),
 m d11 r10,
 .g .h0 .hb false d12 (.op (.mv r1)),
 .g .h0 .hb false d13 (.op (.bin .ge r12 (.c (pi 16)))),
 o d14 (.pick r11 (.c (.bool true)) r13),
 m d15 r14,
 .g .h0 .hf false d16 (.op (.mv r2)),
 .g .h0 .hf false d17 (.op (.bin .lt r16 (.c (pi 1)))),
 o d18 (.pick r15 (.c (.bool true)) r17),
 m d19 r18,
 .g .h1 .h3 false d20 (.op (.mv r2)),
 .g .h1 .h3 false d21 (.op (.bin .gt r20 (.c (pi 1073741824)))),
 o d22 (.pick r19 (.c (.bool true)) r21),
 m d8 r22]) (.shal k35_1 .skip))) (.shal k35_2 .skip)))
def z35 : List Rs := [.t .h0 .h6,.agg 3 .h0 .h7]
def f35 : AF := .mk x35 z35
def k36_4 : KF := fun c i x r h => (fun (x43 x44 : AV) =>
 tR (o_build [(pi 0),(pi 0),(.str [])] [.mk 0 1 (.c x44)] .nil h) fun v45 h46 =>
 tR (o_stn 3 (.c x43) (.c v45) .nil h46) fun v47 h48 =>
 .ret (T21 x43) h48) (y4 r) (y5 r)
def k36_3 : KF := fun c i x r h => (fun (x19 x20 x21 : AV) =>
 tQ (nic x19 h) fun v22 =>
 tQ (fa 0 v22 h) fun v23 =>
 tQ (ld v23 h) fun v24 =>
 tQ (fa 3 x20 h) fun v25 =>
 tQ (ld v25 h) fun v26 =>
 tQ (fa 5 x20 h) fun v27 =>
 tQ (ld v27 h) fun v28 =>
 tX (c 60 [v24,v26,v28] h) fun v29 h30 =>
 tR (b_eq v29 (pi 0) h30) fun v31 h32 =>
 ifR v31 (tR (fa 3 x20 h32) fun v33 h34 =>
 tR (ld v33 h34) fun v35 h36 =>
 tR (fa 5 x20 h36) fun v37 h38 =>
 tR (ld v37 h38) fun v39 h40 =>
 tT (c 61 [x19,v35,v39] h40) fun v41 h42 =>
 x (T49 x21 v29) h42) (x (T49 x21 v29) h32)) (y0 r) (y3 r) (y4 r)
def k36_6 : KF := fun c i x r h => (fun (x55 x56 x57 x58 x59 : AV) =>
 ifR x59 (tQ (nic x55 h) fun v60 =>
 tQ (fa 0 v60 h) fun v61 =>
 tQ (ld v61 h) fun v62 =>
 tQ (fa 3 x56 h) fun v63 =>
 tQ (ld v63 h) fun v64 =>
 tX (c 62 [v62,v64] h) fun v65 h66 =>
 tQ (o_ext 0 (.c v65) .nil h66) fun v67 =>
 tQ (o_ext 1 (.c v65) .nil h66) fun v68 =>
 tR (b_eq v67 (pi 0) h66) fun v69 h70 =>
 ifR v69 (tR (nic x55 h70) fun v71 h72 =>
 tR (fa 1 v71 h72) fun v73 h74 =>
 tR (ld v73 h74) fun v75 h76 =>
 tT (c 63 [v75,(.fn 64 [x56])] h76) fun v77 h78 =>
 tR (nic x55 h78) fun v79 h80 =>
 tR (fa 1 v79 h80) fun v81 h82 =>
 tR (sto v81 v77 h82) fun v83 h84 =>
 tR (o_build [(pi 0),(pi 0),(.str [])] [.mk 0 1 (.c v67),.mk 2 1 (.c v68)] .nil h84) fun v85 h86 =>
 tR (o_stn 3 (.c x57) (.c v85) .nil h86) fun v87 h88 =>
 .ret (T21 x57) h88) (tR (o_build [(pi 0),(pi 0),(.str [])] [.mk 0 1 (.c v67),.mk 2 1 (.c v68)] .nil h70) fun v89 h90 =>
 tR (o_stn 3 (.c x57) (.c v89) .nil h90) fun v91 h92 =>
 .ret (T21 x57) h92)) (tR (b_eq x58 (pi 3) h) fun v93 h94 =>
 ifR v93 (tR (fa 3 x56 h94) fun v95 h96 =>
 tR (ld v95 h96) fun v97 h98 =>
 tR (fa 4 x56 h98) fun v99 h100 =>
 tR (ld v99 h100) fun v101 h102 =>
 tT (c 65 [x55,v97,v101] h102) fun v103 h104 =>
 tR (o_stn 3 (.c x57) (.c v103) .nil h104) fun v105 h106 =>
 .ret (T21 x57) h106) (tR (b_eq x58 (pi 4) h94) fun v107 h108 =>
 ifR v107 (tQ (nic x55 h108) fun v109 =>
 tQ (fa 0 v109 h108) fun v110 =>
 tQ (ld v110 h108) fun v111 =>
 tQ (fa 3 x56 h108) fun v112 =>
 tQ (ld v112 h108) fun v113 =>
 tX (c 66 [v111,v113] h108) fun v114 h115 =>
 tR (b_eq v114 (pi 0) h115) fun v116 h117 =>
 ifR v116 (tQ (nic x55 h117) fun v118 =>
 tQ (fa 2 v118 h117) fun v119 =>
 tQ (ld v119 h117) fun v120 =>
 tQ (fa 3 x56 h117) fun v121 =>
 tQ (ld v121 h117) fun v122 =>
 tX (RV.toT (del (.one .s) v120 v122 h117)) fun v123 h124 =>
 tR (o_build [(pi 0),(pi 0),(.str [])] [.mk 0 1 (.c v114)] .nil h124) fun v125 h126 =>
 tR (o_stn 3 (.c x57) (.c v125) .nil h126) fun v127 h128 =>
 .ret (T21 x57) h128) (tR (o_build [(pi 0),(pi 0),(.str [])] [.mk 0 1 (.c v114)] .nil h117) fun v129 h130 =>
 tR (o_stn 3 (.c x57) (.c v129) .nil h130) fun v131 h132 =>
 .ret (T21 x57) h132)) (tR (b_eq x58 (pi 5) h108) fun v133 h134 =>
 ifR v133 (tR (fa 6 x56 h134) fun v135 h136 =>
 tR (ld v135 h136) fun v137 h138 =>
 tT (c 67 [x55,v137] h138) fun v139 h140 =>
 tR (o_stn 3 (.c x57) (.c v139) .nil h140) fun v141 h142 =>
 .ret (T21 x57) h142) (.nm (T21 x57) h134))))) (y0 r) (y3 r) (y4 r) (y10 r) (y32 r)
def k36_5 : KF := fun c i x r h => (fun (x49 x50 x51 x52 : AV) =>
 tR (b_eq x52 (pi 2) h) fun v53 h54 =>
 x (T50 x49 x50 x51 x52 v53) h54) (y0 r) (y3 r) (y4 r) (y10 r)
def k36_2 : KF := fun c i x r h => (fun (x13 x14 x15 x16 : AV) =>
 tR (b_eq x16 (pi 1) h) fun v17 h18 =>
 x (T48 x13 x14 x15 x16 v17) h18) (y0 r) (y3 r) (y4 r) (y10 r)
def k36_1 : KF := fun c i x r h => (fun (x6 x7 x8 : AV) =>
 tR (fa 2 x7 h) fun v9 h10 =>
 tR (ld v9 h10) fun v11 h12 =>
 x (T47 x6 x7 x8 v11) h12) (y0 r) (y3 r) (y4 r)
def k36_7 : KF := fun c i x r h => (fun (x143 : AV) =>
 tR (o_build [(pi 0),(pi 0),(.str [])] [.mk 0 1 (.c (pi 12))] .nil h) fun v144 h145 =>
 tR (o_stn 3 (.c x143) (.c v144) .nil h145) fun v146 h147 =>
 .ret (T21 x143) h147) (y4 r)
def k36_0 : KF := fun c i x r h => (fun (x0 x1 : AV) =>
 tR (o_box 40 (.c x1) .nil h) fun v2 h3 =>
 tR (o_alloc 26 3 (.k1 (.mk (pi 0) (pi 0) (.str []) .undef .undef .undef .undef .undef .undef .undef .undef .undef .undef .undef .undef .undef)) .nil h3) fun v4 h5 =>
 x (T46 x0 v2 v4) h5) (y0 r) (y1 r)
def x36 : AC := (.shal k36_0 (.seq (.shal k36_1 (.block 0 (.shal k36_2 (.cond r11 (.shal k36_3 (.shal k36_4 .skip)) (.shal k36_5 (.shal k36_6 .skip)))))) (.shal k36_7 .skip)))
def z36 : List Rs := [.agg 3 .h0 .h4]
def f36 : AF := .mk x36 z36
def k37_1 : KF := fun c i x r h => (fun (x18 x19 x20 x21 : AV) =>
 tQ (o_ldn 3 (.c x21) .nil h) fun v22 =>
 tQ (o_build [(pi 0),(pi 0),(pi 0),(.str [])] [.mk 0 1 (.c x20),.mk 1 3 (.c v22)] .nil h) fun v23 =>
 tQ (nic x18 h) fun v24 =>
 tQ (fa 0 v24 h) fun v25 =>
 tQ (o_ixa 16 4 (.c v25) (.c x19) .nil h) fun v26 =>
 tX (RV.toT (o_stn 4 (.c v26) (.c v23) .nil h)) fun v27 h28 =>
 .ret (T51 (pi 0)) h28) (y0 r) (y1 r) (y2 r) (y7 r)
def k37_0 : KF := fun c i x r h => (fun (x0 x1 x2 x3 : AV) =>
 tR (o_box 26 (.c x3) .nil h) fun v4 h5 =>
 tT (c 35 [x0,x1,x2] h5) fun v6 h7 =>
 tR (o_ext 0 (.c v6) .nil h7) fun v8 h9 =>
 tR (o_ext 1 (.c v6) .nil h9) fun v10 h11 =>
 tR (o_alloc 26 3 (.k1 (.mk (pi 0) (pi 0) (.str []) .undef .undef .undef .undef .undef .undef .undef .undef .undef .undef .undef .undef .undef)) .nil h11) fun v12 h13 =>
 tR (o_stn 3 (.c v12) (.c v10) .nil h13) fun v14 h15 =>
 tR (b_ne v8 (pi 1) h15) fun v16 h17 =>
 ifR v16 (.ret (T51 (pi 1)) h17) (x (T44 x0 x1 x2 v4) h17)) (y0 r) (y1 r) (y2 r) (y3 r)
def x37 : AC := (.shal k37_0 (.shal k37_1 .skip))
def z37 : List Rs := [.t .h0 .h8]
def f37 : AF := .mk x37 z37
def k38_0 : KF := fun c i x r h => (fun (x0 : AV) =>
 tR (bK (.isnil .s) x0 .nils h) fun v1 h2 =>
 ifR v1 (.ret (T10 .nils) h2) (tR (o_bslice 5 1 0 [] [] .nil h2) fun v3 h4 =>
 tR (appV 5 1 v3 x0 h4) fun v5 h6 =>
 .ret (T10 v5) h6)) (y0 r)
def x38 : AC := (.shal k38_0 .skip)
def z38 : List Rs := [.t .h0 .h2]
def f38 : AF := .mk x38 z38
def k39_2 : KF := fun c i x r h => (fun (x8 x9 x10 : AV) =>
 tR (b_gt x10 (pi 0) h) fun v11 h12 =>
 ifR v11 (tR (b_sub x10 (pi 1) h12) fun v13 h14 =>
 tR (bK .shl x8 (.int .u64 (.ofNat 8)) h14) fun v15 h16 =>
 tR (ix 1 x9 v13 h16) fun v17 h18 =>
 tR (ld v17 h18) fun v19 h20 =>
 tR (cK (.toInt .u64) v19 h20) fun v21 h22 =>
 tR (b_or v15 v21 h22) fun v23 h24 =>
 .go 0 (T53 u v23 x9 v13) h24) (.ret (T21 x8) h12)) (y5 r) (y6 r) (y7 r)
def k39_1 : KF := fun c i x r h => (fun (x2 x3 : AV) =>
 tT (c 56 [x2,x3] h) fun v4 h5 =>
 tR (len v4 h5) fun v6 h7 =>
 x (T52 (.int .u64 (.ofNat 0)) v4 v6) h7) (y0 r) (y1 r)
def k39_0 : KF := fun c i x r h => (fun (x0 x1 : AV) =>
 x (T34 x0 x1) h) (y0 r) (y1 r)
def x39 : AC := (.shal k39_0 (.scope (.shal k39_1 (.seq (.label 0) (.shal k39_2 .skip)))))
def z39 : List Rs := [.t .h0 .h4]
def f39 : AF := .mk x39 z39
def k40_5 : KF := fun c i x r h => (fun (x30 x31 x32 x33 x34 x35 x36 : AV) =>
 tR (b_gt x36 (pi 0) h) fun v37 h38 =>
 ifR v37 (tT (c 29 [x31,(pi 12)] h38) fun v39 h40 =>
 tR (o_build [(.str []),(pi 0)] [.mk 0 1 (.c v39)] .nil h40) fun v41 h42 =>
 tR (o_alloc 71 2 (.k1 (.mk (.str []) (pi 0) .undef .undef .undef .undef .undef .undef .undef .undef .undef .undef .undef .undef .undef .undef)) .nil h42) fun v43 h44 =>
 tR (o_stn 2 (.c v43) (.c v41) .nil h44) fun v45 h46 =>
 tT (c 30 [x31] h46) fun v47 h48 =>
 tR (fa 1 v43 h48) fun v49 h50 =>
 tR (sto v49 v47 h50) fun v51 h52 =>
 tR (o_ldn 2 (.c v43) .nil h52) fun v53 h54 =>
 tR (o_bslice 71 2 1 [(.str []),(pi 0)] [.mk 0 2 (.c v53)] .nil h54) fun v55 h56 =>
 tR (appV 71 2 x35 v55 h56) fun v57 h58 =>
 tR (b_sub x36 (pi 1) h58) fun v59 h60 =>
 .nm (T55 x30 x31 x32 x33 x34 v57 v59) h60) (.ex 2 (T55 x30 x31 x32 x33 x34 x35 x36) h38)) (y0 r) (y4 r) (y5 r) (y6 r) (y7 r) (y8 r) (y9 r)
def k40_4 : KF := fun c i x r h => (fun (x22 x23 x24 x25 x26 x27 : AV) =>
 tT (c 30 [x23] h) fun v28 h29 =>
 x (T55 x22 x23 x24 x25 x26 x27 v28) h29) (y0 r) (y4 r) (y5 r) (y6 r) (y7 r) (y8 r)
def k40_6 : KF := fun c i x r h => (fun (x61 x62 x63 x64 x65 x66 : AV) =>
 tT (c 60 [x63,x65,x66] h) fun v67 h68 =>
 tR (b_ne v67 (pi 0) h68) fun v69 h70 =>
 ifR v69 (.ret (T17 .nilp (pi 12)) h70) (.nm (T22 x61 x62 x63 x64) h70)) (y0 r) (y4 r) (y5 r) (y6 r) (y7 r) (y8 r)
def k40_3 : KF := fun c i x r h => (fun (x16 x17 x18 x19 : AV) =>
 tT (c 29 [x17,(pi 12)] h) fun v20 h21 =>
 x (T54 x16 x17 x18 x19 v20 .nils) h21) (y0 r) (y4 r) (y5 r) (y6 r)
def k40_7 : KF := fun c i x r h => (fun (x71 x72 x73 x74 : AV) =>
 tR (b_sub x74 (pi 1) h) fun v75 h76 =>
 .nm (T22 x71 x72 x73 v75) h76) (y0 r) (y4 r) (y5 r) (y6 r)
def k40_2 : KF := fun c i x r h => (fun (x10 x11 x12 x13 : AV) =>
 tR (b_gt x13 (pi 0) h) fun v14 h15 =>
 ifR v14 (x (T22 x10 x11 x12 x13) h15) (.ex 0 (T24 x10 x11 x12) h15)) (y0 r) (y4 r) (y5 r) (y6 r)
def k40_1 : KF := fun c i x r h => (fun (x5 x6 x7 : AV) =>
 tT (c 30 [x6] h) fun v8 h9 =>
 x (T22 x5 x6 x7 v8) h9) (y0 r) (y4 r) (y5 r)
def k40_11 : KF := fun c i x r h => (fun (x106 x107 x108 x109 : AV) =>
 tR (b_sub x109 (pi 1) h) fun v110 h111 =>
 .nm (T56 x106 x107 x108 v110) h111) (y0 r) (y4 r) (y5 r) (y11 r)
def k40_10 : KF := fun c i x r h => (fun (x88 x89 x90 x91 : AV) =>
 tT (c 29 [x89,(pi 12)] h) fun v92 h93 =>
 tT (c 29 [x89,(pi 600)] h93) fun v94 h95 =>
 tT (c 68 [x90,v92,v94] h95) fun v96 h97 =>
 tR (o_ext 0 (.c v96) .nil h97) fun v98 h99 =>
 tR (o_ext 1 (.c v96) .nil h99) fun v100 h101 =>
 tR (o_ext 2 (.c v96) .nil h101) fun v102 h103 =>
 tR (b_ne v98 (pi 0) h103) fun v104 h105 =>
 ifR v104 (.ret (T17 .nilp (pi 12)) h105) (x (T56 x88 x89 x90 x91) h105)) (y0 r) (y4 r) (y5 r) (y11 r)
def k40_9 : KF := fun c i x r h => (fun (x82 x83 x84 x85 : AV) =>
 tR (b_gt x85 (pi 0) h) fun v86 h87 =>
 ifR v86 (x (T56 x82 x83 x84 x85) h87) (.ex 4 (T24 x82 x83 x84) h87)) (y0 r) (y4 r) (y5 r) (y11 r)
def k40_8 : KF := fun c i x r h => (fun (x77 x78 x79 : AV) =>
 tT (c 30 [x78] h) fun v80 h81 =>
 x (T56 x77 x78 x79 v80) h81) (y0 r) (y4 r) (y5 r)
def k40_13 : KF := fun c i x r h => (fun (x121 x122 : AV) =>
 ifR x122 (.ret (T17 .nilp (pi 12)) h) (.nm (T58 x121) h)) (y5 r) (y82 r)
def k40_12 : KF := fun c i x r h => (fun (x112 x113 x114 : AV) =>
 tT (c 32 [x113] h) fun v115 h116 =>
 tR (o_ext 0 (.c v115) .nil h116) fun v117 h118 =>
 tR (o_ext 1 (.c v115) .nil h118) fun v119 h120 =>
 x (T57 x112 x114 v117) h120) (y0 r) (y4 r) (y5 r)
def k40_14 : KF := fun c i x r h => (fun (x123 : AV) =>
 .ret (T17 x123 (pi 0)) h) (y5 r)
def k40_0 : KF := fun c i x r h => (fun (x0 : AV) =>
 tT (c 13 [x0] h) fun v1 h2 =>
 tT (c 27 [] h2) fun v3 h4 =>
 x (T24 x0 v1 v3) h4) (y0 r)
def x40 : AC := (.shal k40_0 (.seq (.shal k40_1 (.block 0 (.loop (.shal k40_2 (.seq (.block 1 (.shal k40_3 (.seq (.shal k40_4 (.block 2 (.loop (.shal k40_5 .skip)))) (.shal k40_6 .skip)))) (.shal k40_7 .skip)))))) (.seq (.shal k40_8 (.block 4 (.loop (.shal k40_9 (.shal k40_10 (.shal k40_11 .skip)))))) (.seq (.shal k40_12 (.seq (.ops [m d74 r16,
 o d75 (.bin .ne r74 (.c (pi 0))),
 m d76 r75,
 .g .h4 .hc false d77 (.op (.mv r5)),
 .g .h4 .hc false d78 (.call 48 [r77]),
 .g .h4 .hc false d79 (.op (.mv r0)),
 .g .h4 .hc false d80 (.call 34 [r78,r79]),
 .g .h4 .hc false d81 (.op (.un .not r80)),
 o d82 (.pick r76 (.c (.bool true)) r81)]) (.shal k40_13 .skip))) (.shal k40_14 .skip)))))
def z40 : List Rs := [.t .h0 .h2,.t .h0 .h3]
def f40 : AF := .mk x40 z40
def k41_2 : KF := fun c i x r h => (fun (x5 x6 x7 x8 : AV) =>
 ifR x8 (.nm (T46 x5 x6 x7) h) (.ex 0 (T46 x5 x6 x7) h)) (y0 r) (y3 r) (y4 r) (y13 r)
def k41_3 : KF := fun c i x r h => (fun (x9 x10 x11 : AV) =>
 tT (c 30 [x9] h) fun v12 h13 =>
 tR (cK (.toInt .u8) v12 h13) fun v14 h15 =>
 tR (o_bslice 5 1 1 [(.int .u8 (.ofNat 0))] [.mk 0 1 (.c v14)] .nil h15) fun v16 h17 =>
 tR (appV 5 1 x10 v16 h17) fun v18 h19 =>
 tR (b_sub x11 (pi 1) h19) fun v20 h21 =>
 .nm (T46 x9 v18 v20) h21) (y0 r) (y3 r) (y4 r)
def k41_1 : KF := fun c i x r h => (fun (x1 x2 : AV) =>
 tT (c 14 [x1] h) fun v3 h4 =>
 x (T46 x1 x2 v3) h4) (y0 r) (y3 r)
def k41_4 : KF := fun c i x r h => (fun (x22 : AV) =>
 .ret (T10 x22) h) (y3 r)
def k41_0 : KF := fun c i x r h => (fun (x0 : AV) =>
 x (T9 x0 .nils) h) (y0 r)
def x41 : AC := (.shal k41_0 (.seq (.shal k41_1 (.block 0 (.loop (.seq (.seq (.ops [m d7 r4,
 o d8 (.bin .gt r7 (.c (pi 0))),
 m d9 r8,
 .g .h0 .h9 true d10 (.op (.mv r0)),
 .g .h0 .h9 true d11 (.call 69 [r10]),
 .g .h0 .h9 true d12 (.op (.un .not r11)),
 o d13 (.pick r9 r12 (.c (.bool false)))]) (.shal k41_2 .skip)) (.shal k41_3 .skip))))) (.shal k41_4 .skip)))
def z41 : List Rs := [.t .h0 .h2]
def f41 : AF := .mk x41 z41
def k42_4 : KF := fun c i x r h => (fun (x44 x45 x46 x47 x48 x49 x50 : AV) =>
 ifR x50 (.ret (T17 .nilp (pi 12)) h) (.nm (T60 x44 x45 x46 x47 x48 x49) h)) (y0 r) (y4 r) (y5 r) (y6 r) (y7 r) (y13 r) (y47 r)
def k42_5 : KF := fun c i x r h => (fun (x51 x52 x53 x54 x55 x56 : AV) =>
 tQ (o_ldn 4 (.c x55) .nil h) fun v57 =>
 tQ (nic x53 h) fun v58 =>
 tQ (fa 0 v58 h) fun v59 =>
 tQ (o_ixa 16 4 (.c v59) (.c x54) .nil h) fun v60 =>
 tX (RV.toT (o_stn 4 (.c v60) (.c v57) .nil h)) fun v61 h62 =>
 .nm (T59 x51 x52 x53 x56) h62) (y0 r) (y4 r) (y5 r) (y6 r) (y7 r) (y13 r)
def k42_3 : KF := fun c i x r h => (fun (x14 x15 x16 x17 : AV) =>
 tT (c 14 [x15] h) fun v18 h19 =>
 tR (o_build [(pi 0),(pi 0),(pi 0),(.str [])] [.mk 0 1 (.c v18)] .nil h19) fun v20 h21 =>
 tR (o_alloc 127 4 (.k1 (.mk (pi 0) (pi 0) (pi 0) (.str []) .undef .undef .undef .undef .undef .undef .undef .undef .undef .undef .undef .undef)) .nil h21) fun v22 h23 =>
 tR (o_stn 4 (.c v22) (.c v20) .nil h23) fun v24 h25 =>
 tT (c 14 [x15] h25) fun v26 h27 =>
 tT (c 14 [x15] h27) fun v28 h29 =>
 tR (o_build [(pi 0),(pi 0),(.str [])] [.mk 0 1 (.c v26),.mk 1 1 (.c v28)] .nil h29) fun v30 h31 =>
 tR (fa 1 v22 h31) fun v32 h33 =>
 tR (o_stn 3 (.c v32) (.c v30) .nil h33) fun v34 h35 =>
 tT (c 70 [x15] h35) fun v36 h37 =>
 tR (fa 1 v22 h37) fun v38 h39 =>
 tR (fa 2 v38 h39) fun v40 h41 =>
 tR (sto v40 v36 h41) fun v42 h43 =>
 x (T60 x14 x15 x16 x17 v22 x17) h43) (y0 r) (y4 r) (y5 r) (y13 r)
def k42_6 : KF := fun c i x r h => (fun (x63 x64 x65 x66 : AV) =>
 tR (b_add x66 (pi 1) h) fun v67 h68 =>
 .nm (T59 x63 x64 x65 v67) h68) (y0 r) (y4 r) (y5 r) (y13 r)
def k42_2 : KF := fun c i x r h => (fun (x8 x9 x10 x11 : AV) =>
 tR (b_lt x11 (pi 16) h) fun v12 h13 =>
 ifR v12 (x (T59 x8 x9 x10 x11) h13) (.ex 0 (T24 x8 x9 x10) h13)) (y0 r) (y4 r) (y5 r) (y13 r)
def k42_1 : KF := fun c i x r h => (fun (x5 x6 x7 : AV) =>
 x (T59 x5 x6 x7 (pi 0)) h) (y0 r) (y4 r) (y5 r)
def k42_8 : KF := fun c i x r h => (fun (x78 x79 : AV) =>
 ifR x79 (.ret (T17 .nilp (pi 12)) h) (.nm (T58 x78) h)) (y5 r) (y68 r)
def k42_7 : KF := fun c i x r h => (fun (x69 x70 x71 : AV) =>
 tT (c 32 [x70] h) fun v72 h73 =>
 tR (o_ext 0 (.c v72) .nil h73) fun v74 h75 =>
 tR (o_ext 1 (.c v72) .nil h75) fun v76 h77 =>
 x (T61 x69 x71 v74) h77) (y0 r) (y4 r) (y5 r)
def k42_9 : KF := fun c i x r h => (fun (x80 : AV) =>
 .ret (T17 x80 (pi 0)) h) (y5 r)
def k42_0 : KF := fun c i x r h => (fun (x0 : AV) =>
 tT (c 13 [x0] h) fun v1 h2 =>
 tT (c 28 [] h2) fun v3 h4 =>
 x (T24 x0 v1 v3) h4) (y0 r)
def x42 : AC := (.shal k42_0 (.seq (.shal k42_1 (.block 0 (.loop (.shal k42_2 (.seq (.block 1 (.shal k42_3 (.seq (.seq (.ops [o d29 (.fad 0 r7),
 o d30 (.ld1 r29),
 o d31 (.bin .lt r30 (.c (pi 0))),
 m d32 r31,
 .g .h2 .h0 false d33 (.op (.fad 0 r7)),
 .g .h2 .h0 false d34 (.op (.ld1 r33)),
 .g .h2 .h0 false d35 (.op (.bin .gt r34 (.c (pi 1073741824)))),
 o d36 (.pick r32 (.c (.bool true)) r35),
 m d37 r36,
 .g .h2 .h5 false d38 (.op (.fad 0 r7)),
 .g .h2 .h5 false d39 (.op (.ld1 r38)),
 .g .h2 .h5 false d40 (.op (.bin .eq r39 (.c (pi 0)))),
 .g .h2 .h5 false d41 (.op (.mv r40)),
 .g .h2 .h9 true d42 (.op (.fad 1 r7)),
 .g .h2 .h9 true d43 (.op (.ldn 3 r42)),
 .g .h2 .h9 true d44 (.op (.build [(pi 0),(pi 0),(.str [])] [])),
 .g .h2 .h9 true d45 (.op (.bin (.ane [.i,.i,.s]) r43 r44)),
 .g .h2 .h5 false d46 (.op (.pick r41 r45 (.c (.bool false)))),
 o d47 (.pick r37 (.c (.bool true)) r46)]) (.shal k42_4 .skip)) (.shal k42_5 .skip)))) (.shal k42_6 .skip)))))) (.seq (.shal k42_7 (.seq (.ops [m d60 r8,
 o d61 (.bin .ne r60 (.c (pi 0))),
 m d62 r61,
 .g .h3 .he false d63 (.op (.mv r5)),
 .g .h3 .he false d64 (.call 49 [r63]),
 .g .h3 .he false d65 (.op (.mv r0)),
 .g .h3 .he false d66 (.call 34 [r64,r65]),
 .g .h3 .he false d67 (.op (.un .not r66)),
 o d68 (.pick r62 (.c (.bool true)) r67)]) (.shal k42_8 .skip))) (.shal k42_9 .skip))))
def z42 : List Rs := [.t .h0 .h2,.t .h0 .h3]
def f42 : AF := .mk x42 z42
def k43_5 : KF := fun c i x r h => (fun (x50 x51 x52 x53 x54 x55 x56 : AV) =>
 ifR x56 (.ret (T21 (.bool false)) h) (.nm (T65 x50 x51 x52 x53 x54 x55) h)) (y0 r) (y1 r) (y7 r) (y14 r) (y15 r) (y16 r) (y44 r)
def k43_4 : KF := fun c i x r h => (fun (x34 x35 x36 x37 x38 x39 : AV) =>
 tR (fa 2 x36 h) fun v40 h41 =>
 tR (ld v40 h41) fun v42 h43 =>
 tT (c 72 [v42] h43) fun v44 h45 =>
 tR (o_ext 0 (.c v44) .nil h45) fun v46 h47 =>
 tR (o_ext 1 (.c v44) .nil h47) fun v48 h49 =>
 x (T64 x34 x35 x36 v46 v48 x37 x38 x39) h49) (y0 r) (y1 r) (y7 r) (y14 r) (y15 r) (y16 r)
def k43_3 : KF := fun c i x r h => (fun (x21 x22 x23 x24 x25 : AV) =>
 tR (ix 2 x23 x25 h) fun v26 h27 =>
 tR (o_ldn 2 (.c v26) .nil h27) fun v28 h29 =>
 tR (o_alloc 123 2 (.k1 (.mk (.str []) .nils .undef .undef .undef .undef .undef .undef .undef .undef .undef .undef .undef .undef .undef .undef)) .nil h29) fun v30 h31 =>
 tR (o_stn 2 (.c v30) (.c v28) .nil h31) fun v32 h33 =>
 x (T63 x21 x22 v30 x23 x24 x25) h33) (y0 r) (y1 r) (y14 r) (y15 r) (y16 r)
def k43_6 : KF := fun c i x r h => (fun (x57 x58 x59 x60 x61 : AV) =>
 tR (b_add x61 (pi 1) h) fun v62 h63 =>
 .nm (T62 x57 x58 x59 x60 v62) h63) (y0 r) (y1 r) (y14 r) (y15 r) (y16 r)
def k43_2 : KF := fun c i x r h => (fun (x14 x15 x16 x17 x18 : AV) =>
 tR (b_lt x18 x17 h) fun v19 h20 =>
 ifR v19 (x (T62 x14 x15 x16 x17 x18) h20) (.ex 0 T8 h20)) (y0 r) (y1 r) (y14 r) (y15 r) (y16 r)
def k43_1 : KF := fun c i x r h => (fun (x2 x3 : AV) =>
 tR (nic x2 h) fun v4 h5 =>
 tR (fa 0 v4 h5) fun v6 h7 =>
 tR (ld v6 h7) fun v8 h9 =>
 tT (c 53 [v8] h9) fun v10 h11 =>
 tR (len v10 h11) fun v12 h13 =>
 x (T62 x2 x3 v10 v12 (pi 0)) h13) (y0 r) (y1 r)
def k43_7 : KF := fun c i x r h => .ret (T21 (.bool true)) h
def k43_0 : KF := fun c i x r h => (fun (x0 x1 : AV) =>
 x (T34 x0 x1) h) (y0 r) (y1 r)
def x43 : AC := (.shal k43_0 (.seq (.shal k43_1 (.block 0 (.loop (.shal k43_2 (.seq (.block 1 (.shal k43_3 (.seq (.drw [q 0 (m d24 r1),
 w (.o d25 (.call 71 [r24])),
 q 1 (o d20 (.fad 0 r6)),
 q 1 (o d21 (.ld1 r20)),
 q 1 (o d22 (.fad 1 r6)),
 q 1 (o d23 (.ld1 r22)),
 q 0 (o d26 (.build [(.str []),.nils,.nils] [.mk 0 1 r21,.mk 1 1 r23,.mk 2 1 r25])),
 n (o d7 (.alloc 114 3 (.k1 (.mk (.str []) .nils .nils .undef .undef .undef .undef .undef .undef .undef .undef .undef .undef .undef .undef .undef)))),
 w (o .no (.stn 3 r7 r26))]) (.shal k43_4 (.seq (.seq (.ops [m d33 r9,
 o d34 (.un .not r33),
 m d35 r34,
 .g .h2 .h3 false d36 (.op (.mv r8)),
 .g .h2 .h3 false d37 (.op (.bin .gt r36 (.c (pi 64)))),
 o d38 (.pick r35 (.c (.bool true)) r37),
 m d39 r38,
 .g .h2 .h7 false d40 (.op (.ldn 3 r7)),
 .g .h2 .h7 false d41 (.op (.bslice 114 3 1 [(.str []),.nils,.nils] [.mk 0 3 r40])),
 .g .h2 .h7 false d42 (.call 73 [r41]),
 .g .h2 .h7 false d43 (.op (.un .not r42)),
 o d44 (.pick r39 (.c (.bool true)) r43)]) (.shal k43_5 .skip)) (.drw [q 0 (o d50 (.ldn 3 r7)),
 w (o d51 (.bslice 114 3 1 [(.str []),.nils,.nils] [.mk 0 3 r50])),
 q 1 (m d46 r0),
 q 1 (o d47 (.nilc r46)),
 q 1 (o d48 (.fad 1 r47)),
 q 1 (o d49 (.ld1 r48)),
 w (o d52 (.app 114 3 r49 r51)),
 q 2 (m d45 r0),
 q 0 (o d53 (.nilc r45)),
 q 0 (o d54 (.fad 1 r53)),
 w (o .no (.st1 r54 r52))])))))) (.shal k43_6 .skip)))))) (.shal k43_7 .skip)))
def z43 : List Rs := [.t .h0 .h4]
def f43 : AF := .mk x43 z43
def k44_4 : KF := fun c i x r h => (fun (x61 x62 x63 x64 : AV) =>
 tR (b_add x64 (pi 1) h) fun v65 h66 =>
 .nm (T66 x61 x62 x63 v65) h66) (y3 r) (y9 r) (y10 r) (y11 r)
def k44_3 : KF := fun c i x r h => (fun (x17 x18 x19 x20 : AV) =>
 tR (ix 11 x18 x20 h) fun v21 h22 =>
 tR (o_ldn 11 (.c v21) .nil h22) fun v23 h24 =>
 tR (o_alloc 103 11 (.k1 (.mk (.str []) (.str []) (pi 0) (.str []) .nils .nils .nils .nils .nils .nils .nils .undef .undef .undef .undef .undef)) .nil h24) fun v25 h26 =>
 tR (o_stn 11 (.c v25) (.c v23) .nil h26) fun v27 h28 =>
 tR (fa 1 v25 h28) fun v29 h30 =>
 tR (ld v29 h30) fun v31 h32 =>
 tT (c 74 [v31] h32) fun v33 h34 =>
 tR (o_ext 0 (.c v33) .nil h34) fun v35 h36 =>
 tR (o_ext 1 (.c v33) .nil h36) fun v37 h38 =>
 tR (o_ext 2 (.c v33) .nil h38) fun v39 h40 =>
 tR (fa 2 v25 h40) fun v41 h42 =>
 tR (o_stn 8 (.c v41) (.c v35) .nil h42) fun v43 h44 =>
 tR (fa 10 v25 h44) fun v45 h46 =>
 tR (ld v45 h46) fun v47 h48 =>
 tT (c 75 [v47] h48) fun v49 h50 =>
 tR (fa 10 v25 h50) fun v51 h52 =>
 tR (sto v51 v49 h52) fun v53 h54 =>
 tR (o_ldn 11 (.c v25) .nil h54) fun v55 h56 =>
 tR (o_bslice 103 11 1 [(.str []),(.str []),(pi 0),(.str []),.nils,.nils,.nils,.nils,.nils,.nils,.nils] [.mk 0 11 (.c v55)] .nil h56) fun v57 h58 =>
 tR (appV 103 11 x17 v57 h58) fun v59 h60 =>
 x (T66 v59 x18 x19 x20) h60) (y3 r) (y9 r) (y10 r) (y11 r)
def k44_2 : KF := fun c i x r h => (fun (x11 x12 x13 x14 : AV) =>
 tR (b_lt x14 x13 h) fun v15 h16 =>
 ifR v15 (x (T66 x11 x12 x13 x14) h16) (.ex 0 (T31 x11) h16)) (y3 r) (y9 r) (y10 r) (y11 r)
def k44_1 : KF := fun c i x r h => (fun (x1 x2 : AV) =>
 tR (nic x1 h) fun v3 h4 =>
 tR (fa 1 v3 h4) fun v5 h6 =>
 tR (ld v5 h6) fun v7 h8 =>
 tR (len v7 h8) fun v9 h10 =>
 x (T66 x2 v7 v9 (pi 0)) h10) (y0 r) (y3 r)
def k44_5 : KF := fun c i x r h => (fun (x67 : AV) =>
 .ret (T10 x67) h) (y3 r)
def k44_0 : KF := fun c i x r h => (fun (x0 : AV) =>
 x (T9 x0 .nils) h) (y0 r)
def x44 : AC := (.shal k44_0 (.seq (.shal k44_1 (.block 0 (.loop (.shal k44_2 (.shal k44_3 (.shal k44_4 .skip)))))) (.shal k44_5 .skip)))
def z44 : List Rs := [.t .h0 .h2]
def f44 : AF := .mk x44 z44
def k46_1 : KF := fun c i x r h => (fun (x3 x4 x5 : AV) =>
 tR (b_eq x5 (pi 0) h) fun v6 h7 =>
 ifR v6 (.ret T8 h7) (tR (nic x3 h7) fun v8 h9 =>
 tR (fa 0 v8 h9) fun v10 h11 =>
 tR (ld v10 h11) fun v12 h13 =>
 tR (cK (.toInt .u8) x4 h13) fun v14 h15 =>
 tR (o_bslice 5 1 1 [(.int .u8 (.ofNat 0))] [.mk 0 1 (.c v14)] .nil h15) fun v16 h17 =>
 tR (appV 5 1 v12 v16 h17) fun v18 h19 =>
 tR (nic x3 h19) fun v20 h21 =>
 tR (fa 0 v20 h21) fun v22 h23 =>
 tR (sto v22 v18 h23) fun v24 h25 =>
 tR (bK .shr x4 (.int .u64 (.ofNat 8)) h25) fun v26 h27 =>
 tR (b_sub x5 (pi 1) h27) fun v28 h29 =>
 .go 0 (T67 x3 v26 v28) h29)) (y0 r) (y1 r) (y6 r)
def k46_0 : KF := fun c i x r h => (fun (x0 x1 x2 : AV) =>
 x (T67 x0 x1 x2) h) (y0 r) (y1 r) (y2 r)
def x46 : AC := (.scope (.shal k46_0 (.seq (.label 0) (.shal k46_1 .skip))))
def z46 : List Rs := []
def f46 : AF := .mk x46 z46
def k47_1 : KF := fun c i x r h => (fun (x8 x9 x10 x11 : AV) =>
 tR (b_lt x11 x10 h) fun v12 h13 =>
 ifR v12 (tR (ix 1 x9 x11 h13) fun v14 h15 =>
 tR (ld v14 h15) fun v16 h17 =>
 tR (cK (.toInt .i64) v16 h17) fun v18 h19 =>
 tT (c 52 [x8,v18] h19) fun v20 h21 =>
 tR (b_add x11 (pi 1) h21) fun v22 h23 =>
 .nm (T68 x8 x9 x10 v22) h23) (.ex 0 (T68 x8 x9 x10 x11) h13)) (y0 r) (y10 r) (y11 r) (y12 r)
def k47_0 : KF := fun c i x r h => (fun (x0 x1 : AV) =>
 tR (len x1 h) fun v2 h3 =>
 tT (c 17 [x0,v2] h3) fun v4 h5 =>
 tR (len x1 h5) fun v6 h7 =>
 x (T68 x0 x1 v6 (pi 0)) h7) (y0 r) (y1 r)
def x47 : AC := (.shal k47_0 (.block 0 (.loop (.shal k47_1 .skip))))
def z47 : List Rs := []
def f47 : AF := .mk x47 z47
def k48_4 : KF := fun c i x r h => (fun (x63 x64 x65 x66 x67 x68 x69 x70 : AV) =>
 tR (b_lt x70 x69 h) fun v71 h72 =>
 ifR v71 (tR (ix 2 x68 x70 h72) fun v73 h74 =>
 tR (o_ldn 2 (.c v73) .nil h74) fun v75 h76 =>
 tR (o_alloc 71 2 (.k1 (.mk (.str []) (pi 0) .undef .undef .undef .undef .undef .undef .undef .undef .undef .undef .undef .undef .undef .undef)) .nil h76) fun v77 h78 =>
 tR (o_stn 2 (.c v77) (.c v75) .nil h78) fun v79 h80 =>
 tR (fa 0 v77 h80) fun v81 h82 =>
 tR (ld v81 h82) fun v83 h84 =>
 tT (c 51 [x64,v83] h84) fun v85 h86 =>
 tR (fa 1 v77 h86) fun v87 h88 =>
 tR (ld v87 h88) fun v89 h90 =>
 tT (c 52 [x64,v89] h90) fun v91 h92 =>
 tR (b_add x70 (pi 1) h92) fun v93 h94 =>
 .nm (T70 x63 x64 x65 x66 x67 x68 x69 v93) h94) (.ex 2 (T70 x63 x64 x65 x66 x67 x68 x69 x70) h72)) (y0 r) (y3 r) (y21 r) (y22 r) (y23 r) (y37 r) (y38 r) (y39 r)
def k48_3 : KF := fun c i x r h => (fun (x30 x31 x32 x33 x34 : AV) =>
 tR (ix 2 x32 x34 h) fun v35 h36 =>
 tR (o_ldn 2 (.c v35) .nil h36) fun v37 h38 =>
 tR (o_alloc 123 2 (.k1 (.mk (.str []) .nils .undef .undef .undef .undef .undef .undef .undef .undef .undef .undef .undef .undef .undef .undef)) .nil h38) fun v39 h40 =>
 tR (o_stn 2 (.c v39) (.c v37) .nil h40) fun v41 h42 =>
 tR (fa 0 v39 h42) fun v43 h44 =>
 tR (ld v43 h44) fun v45 h46 =>
 tT (c 51 [x31,v45] h46) fun v47 h48 =>
 tR (fa 1 v39 h48) fun v49 h50 =>
 tR (ld v49 h50) fun v51 h52 =>
 tR (len v51 h52) fun v53 h54 =>
 tT (c 52 [x31,v53] h54) fun v55 h56 =>
 tR (fa 1 v39 h56) fun v57 h58 =>
 tR (ld v57 h58) fun v59 h60 =>
 tR (len v59 h60) fun v61 h62 =>
 x (T70 x30 x31 x32 x33 x34 v59 v61 (pi 0)) h62) (y0 r) (y3 r) (y21 r) (y22 r) (y23 r)
def k48_5 : KF := fun c i x r h => (fun (x95 x96 x97 x98 x99 : AV) =>
 tR (b_add x99 (pi 1) h) fun v100 h101 =>
 .nm (T69 x95 x96 x97 x98 v100) h101) (y0 r) (y3 r) (y21 r) (y22 r) (y23 r)
def k48_2 : KF := fun c i x r h => (fun (x23 x24 x25 x26 x27 : AV) =>
 tR (b_lt x27 x26 h) fun v28 h29 =>
 ifR v28 (x (T69 x23 x24 x25 x26 x27) h29) (.ex 0 (T9 x23 x24) h29)) (y0 r) (y3 r) (y21 r) (y22 r) (y23 r)
def k48_1 : KF := fun c i x r h => (fun (x13 x14 : AV) =>
 tR (nic x13 h) fun v15 h16 =>
 tR (fa 0 v15 h16) fun v17 h18 =>
 tR (ld v17 h18) fun v19 h20 =>
 tR (len v19 h20) fun v21 h22 =>
 x (T69 x13 x14 v19 v21 (pi 0)) h22) (y0 r) (y3 r)
def k48_8 : KF := fun c i x r h => (fun (x124 x125 x126 x127 : AV) =>
 tR (b_lt x127 x126 h) fun v128 h129 =>
 ifR v128 (tR (ix 11 x125 x127 h129) fun v130 h131 =>
 tR (o_ldn 11 (.c v130) .nil h131) fun v132 h133 =>
 tR (o_alloc 103 11 (.k1 (.mk (.str []) (.str []) (pi 0) (.str []) .nils .nils .nils .nils .nils .nils .nils .undef .undef .undef .undef .undef)) .nil h133) fun v134 h135 =>
 tR (o_stn 11 (.c v134) (.c v132) .nil h135) fun v136 h137 =>
 tR (fa 0 v134 h137) fun v138 h139 =>
 tR (ld v138 h139) fun v140 h141 =>
 tT (c 51 [x124,v140] h141) fun v142 h143 =>
 tR (fa 1 v134 h143) fun v144 h145 =>
 tR (ld v144 h145) fun v146 h147 =>
 tT (c 51 [x124,v146] h147) fun v148 h149 =>
 tR (b_add x127 (pi 1) h149) fun v150 h151 =>
 .nm (T71 x124 x125 x126 v150) h151) (.ex 4 (T71 x124 x125 x126 x127) h129)) (y3 r) (y63 r) (y64 r) (y65 r)
def k48_7 : KF := fun c i x r h => (fun (x114 x115 : AV) =>
 tR (nic x114 h) fun v116 h117 =>
 tR (fa 1 v116 h117) fun v118 h119 =>
 tR (ld v118 h119) fun v120 h121 =>
 tR (len v120 h121) fun v122 h123 =>
 x (T71 x115 v120 v122 (pi 0)) h123) (y0 r) (y3 r)
def k48_9 : KF := fun c i x r h => (fun (x152 : AV) =>
 tT (c 18 [x152] h) fun v153 h154 =>
 .ret (T10 v153) h154) (y3 r)
def k48_6 : KF := fun c i x r h => (fun (x102 x103 : AV) =>
 tR (nic x102 h) fun v104 h105 =>
 tR (fa 1 v104 h105) fun v106 h107 =>
 tR (ld v106 h107) fun v108 h109 =>
 tR (len v108 h109) fun v110 h111 =>
 tT (c 52 [x103,v110] h111) fun v112 h113 =>
 x (T9 x102 x103) h113) (y0 r) (y3 r)
def k48_0 : KF := fun c i x r h => (fun (x0 : AV) =>
 tT (c 16 [] h) fun v1 h2 =>
 tR (nic x0 h2) fun v3 h4 =>
 tR (fa 0 v3 h4) fun v5 h6 =>
 tR (ld v5 h6) fun v7 h8 =>
 tR (len v7 h8) fun v9 h10 =>
 tT (c 52 [v1,v9] h10) fun v11 h12 =>
 x (T9 x0 v1) h12) (y0 r)
def x48 : AC := (.shal k48_0 (.seq (.shal k48_1 (.block 0 (.loop (.shal k48_2 (.seq (.block 1 (.shal k48_3 (.block 2 (.loop (.shal k48_4 .skip))))) (.shal k48_5 .skip)))))) (.shal k48_6 (.seq (.shal k48_7 (.block 4 (.loop (.shal k48_8 .skip)))) (.shal k48_9 .skip)))))
def z48 : List Rs := [.t .h0 .h2]
def f48 : AF := .mk x48 z48
def k49_4 : KF := fun c i x r h => (fun (x55 x56 x57 : AV) =>
 tR (b_add x57 (pi 1) h) fun v58 h59 =>
 .nm (T72 x55 x56 v58) h59) (y3 r) (y10 r) (y11 r)
def k49_3 : KF := fun c i x r h => (fun (x16 x17 x18 : AV) =>
 tR (o_idxa 16 4 true (.c x17) (.c x18) .nil h) fun v19 h20 =>
 tR (o_alloc 127 4 (.k1 (.mk (pi 0) (pi 0) (pi 0) (.str []) .undef .undef .undef .undef .undef .undef .undef .undef .undef .undef .undef .undef)) .nil h20) fun v21 h22 =>
 tR (o_stn 4 (.c v21) (.c v19) .nil h22) fun v23 h24 =>
 tR (fa 0 v21 h24) fun v25 h26 =>
 tR (ld v25 h26) fun v27 h28 =>
 tT (c 17 [x16,v27] h28) fun v29 h30 =>
 tR (fa 1 v21 h30) fun v31 h32 =>
 tR (fa 0 v31 h32) fun v33 h34 =>
 tR (ld v33 h34) fun v35 h36 =>
 tT (c 17 [x16,v35] h36) fun v37 h38 =>
 tR (fa 1 v21 h38) fun v39 h40 =>
 tR (fa 1 v39 h40) fun v41 h42 =>
 tR (ld v41 h42) fun v43 h44 =>
 tT (c 17 [x16,v43] h44) fun v45 h46 =>
 tR (fa 1 v21 h46) fun v47 h48 =>
 tR (fa 2 v47 h48) fun v49 h50 =>
 tR (ld v49 h50) fun v51 h52 =>
 tT (c 78 [x16,v51] h52) fun v53 h54 =>
 x (T72 x16 x17 x18) h54) (y3 r) (y10 r) (y11 r)
def k49_2 : KF := fun c i x r h => (fun (x11 x12 x13 : AV) =>
 tR (b_lt x13 (pi 16) h) fun v14 h15 =>
 ifR v14 (x (T72 x11 x12 x13) h15) (.ex 0 (T31 x11) h15)) (y3 r) (y10 r) (y11 r)
def k49_1 : KF := fun c i x r h => (fun (x3 x4 : AV) =>
 tR (nic x3 h) fun v5 h6 =>
 tR (fa 0 v5 h6) fun v7 h8 =>
 tR (o_ldn 64 (.c v7) .nil h8) fun v9 h10 =>
 x (T72 x4 v9 (pi 0)) h10) (y0 r) (y3 r)
def k49_5 : KF := fun c i x r h => (fun (x60 : AV) =>
 tT (c 18 [x60] h) fun v61 h62 =>
 .ret (T10 v61) h62) (y3 r)
def k49_0 : KF := fun c i x r h => (fun (x0 : AV) =>
 tT (c 16 [] h) fun v1 h2 =>
 x (T9 x0 v1) h2) (y0 r)
def x49 : AC := (.shal k49_0 (.seq (.shal k49_1 (.block 0 (.loop (.shal k49_2 (.shal k49_3 (.shal k49_4 .skip)))))) (.shal k49_5 .skip)))
def z49 : List Rs := [.t .h0 .h2]
def f49 : AF := .mk x49 z49
def k50_1 : KF := fun c i x r h => (fun (x8 x9 x10 x11 : AV) =>
 tR (b_lt x11 x10 h) fun v12 h13 =>
 ifR v12 (tR (ix 2 x9 x11 h13) fun v14 h15 =>
 tR (o_ldn 2 (.c v14) .nil h15) fun v16 h17 =>
 tR (o_alloc 165 2 (.k1 (.mk .nils (.cplx .f64 0 0) .undef .undef .undef .undef .undef .undef .undef .undef .undef .undef .undef .undef .undef .undef)) .nil h17) fun v18 h19 =>
 tR (o_stn 2 (.c v18) (.c v16) .nil h19) fun v20 h21 =>
 tR (o_ldn 2 (.c v18) .nil h21) fun v22 h23 =>
 tR (o_bslice 165 2 1 [.nils,(.cplx .f64 0 0)] [.mk 0 2 (.c v22)] .nil h23) fun v24 h25 =>
 tT (c 79 [v24] h25) fun v26 h27 =>
 tR (cK .b2s v26 h27) fun v28 h29 =>
 tT (c 51 [x8,v28] h29) fun v30 h31 =>
 tR (b_add x11 (pi 1) h31) fun v32 h33 =>
 .nm (T73 x8 x9 x10 v32) h33) (.ex 0 (T73 x8 x9 x10 x11) h13)) (y0 r) (y11 r) (y12 r) (y13 r)
def k50_0 : KF := fun c i x r h => (fun (x0 x1 : AV) =>
 tR (len x1 h) fun v2 h3 =>
 tT (c 17 [x0,v2] h3) fun v4 h5 =>
 tR (len x1 h5) fun v6 h7 =>
 x (T73 x0 x1 v6 (pi 0)) h7) (y0 r) (y1 r)
def x50 : AC := (.shal k50_0 (.block 0 (.loop (.shal k50_1 .skip))))
def z50 : List Rs := []
def f50 : AF := .mk x50 z50
def k51_0 : KF := fun c i x r h => (fun (x0 x1 : AV) =>
 tR (lent x1 h) fun v2 h3 =>
 tT (c 80 [x0,v2] h3) fun v4 h5 =>
 tR (nic x0 h5) fun v6 h7 =>
 tR (fa 0 v6 h7) fun v8 h9 =>
 tR (ld v8 h9) fun v10 h11 =>
 tR (o_apps 5 (.c v10) (.c x1) .nil h11) fun v12 h13 =>
 tR (nic x0 h13) fun v14 h15 =>
 tR (fa 0 v14 h15) fun v16 h17 =>
 tR (sto v16 v12 h17) fun v18 h19 =>
 .nm T8 h19) (y0 r) (y1 r)
def x51 : AC := (.shal k51_0 .skip)
def z51 : List Rs := []
def f51 : AF := .mk x51 z51
def k52_0 : KF := fun c i x r h => (fun (x0 x1 : AV) =>
 tR (cK (.toInt .u64) x1 h) fun v2 h3 =>
 tT (c 46 [x0,v2,(pi 1)] h3) fun v4 h5 =>
 .nm T8 h5) (y0 r) (y1 r)
def x52 : AC := (.shal k52_0 .skip)
def z52 : List Rs := []
def f52 : AF := .mk x52 z52
def k53_3 : KF := fun c i x r h => (fun (x17 x18 x19 x20 : AV) =>
 tR (ix 2 x18 x20 h) fun v21 h22 =>
 tR (o_ldn 2 (.c v21) .nil h22) fun v23 h24 =>
 tR (o_alloc 123 2 (.k1 (.mk (.str []) .nils .undef .undef .undef .undef .undef .undef .undef .undef .undef .undef .undef .undef .undef .undef)) .nil h24) fun v25 h26 =>
 tR (o_stn 2 (.c v25) (.c v23) .nil h26) fun v27 h28 =>
 x (T74 x17 v25 x18 x19 x20) h28) (y3 r) (y9 r) (y10 r) (y11 r)
def k53_4 : KF := fun c i x r h => (fun (x29 x30 x31 x32 : AV) =>
 tR (b_add x32 (pi 1) h) fun v33 h34 =>
 .nm (T66 x29 x30 x31 v33) h34) (y3 r) (y9 r) (y10 r) (y11 r)
def k53_2 : KF := fun c i x r h => (fun (x11 x12 x13 x14 : AV) =>
 tR (b_lt x14 x13 h) fun v15 h16 =>
 ifR v15 (x (T66 x11 x12 x13 x14) h16) (.ex 0 (T31 x11) h16)) (y3 r) (y9 r) (y10 r) (y11 r)
def k53_1 : KF := fun c i x r h => (fun (x1 x2 : AV) =>
 tR (nic x1 h) fun v3 h4 =>
 tR (fa 0 v3 h4) fun v5 h6 =>
 tR (ld v5 h6) fun v7 h8 =>
 tR (len v7 h8) fun v9 h10 =>
 x (T66 x2 v7 v9 (pi 0)) h10) (y0 r) (y3 r)
def k53_5 : KF := fun c i x r h => (fun (x35 : AV) =>
 .ret (T10 x35) h) (y3 r)
def k53_0 : KF := fun c i x r h => (fun (x0 : AV) =>
 x (T9 x0 .nils) h) (y0 r)
def x53 : AC := (.shal k53_0 (.seq (.shal k53_1 (.block 0 (.loop (.shal k53_2 (.seq (.block 1 (.shal k53_3 (.drw [q 0 (o d18 (.fad 1 r5)),
 q 0 (o d19 (.ld1 r18)),
 w (.o d20 (.call 75 [r19])),
 q 1 (o d16 (.fad 0 r5)),
 q 1 (o d17 (.ld1 r16)),
 q 0 (o d21 (.build [(.str []),.nils] [.mk 0 1 r17,.mk 1 1 r20])),
 w (o d22 (.bslice 123 2 1 [(.str []),.nils] [.mk 0 2 r21])),
 q 2 (m d15 r3),
 w (o d23 (.app 123 2 r15 r22)),
 q 0 (m d3 r23)]))) (.shal k53_4 .skip)))))) (.shal k53_5 .skip)))
def z53 : List Rs := [.t .h0 .h2]
def f53 : AF := .mk x53 z53
def k54_0 : KF := fun c i x r h => (fun (x0 : AV) =>
 tT (c 39 [x0,(pi 2)] h) fun v1 h2 =>
 tR (cK (.toInt .i64) v1 h2) fun v3 h4 =>
 .ret (T10 v3) h4) (y0 r)
def x54 : AC := (.shal k54_0 .skip)
def z54 : List Rs := [.t .h0 .h2]
def f54 : AF := .mk x54 z54
def k55_0 : KF := fun c i x r h => (fun (x0 x1 x2 : AV) =>
 tR (nic x0 h) fun v3 h4 =>
 tR (fa 2 v3 h4) fun v5 h6 =>
 tR (ld v5 h6) fun v7 h8 =>
 tR (b_eq v7 (pi 0) h8) fun v9 h10 =>
 ifR v9 (tR (nic x0 h10) fun v11 h12 =>
 tR (fa 2 v11 h12) fun v13 h14 =>
 tR (sto v13 x1 h14) fun v15 h16 =>
 tR (nic x0 h16) fun v17 h18 =>
 tR (fa 3 v17 h18) fun v19 h20 =>
 tR (sto v19 x2 h20) fun v21 h22 =>
 .nm T8 h22) (.nm T8 h10)) (y0 r) (y1 r) (y2 r)
def x55 : AC := (.shal k55_0 .skip)
def z55 : List Rs := []
def f55 : AF := .mk x55 z55
def k56_3 : KF := fun c i x r h => (fun (x47 x48 : AV) =>
 tQ (nic x47 h) fun v49 =>
 tQ (fa 0 v49 h) fun v50 =>
 tQ (ld v50 h) fun v51 =>
 tQ (nic x47 h) fun v52 =>
 tQ (fa 1 v52 h) fun v53 =>
 tQ (ld v53 h) fun v54 =>
 tQ (b_sub v54 x48 h) fun v55 =>
 tQ (nic x47 h) fun v56 =>
 tQ (fa 1 v56 h) fun v57 =>
 tQ (ld v57 h) fun v58 =>
 tQ (o_slc 1 (.c v51) (.some (.c v55)) (.some (.c v58)) .none .nil h) fun v59 =>
 .ret (T21 v59) h) (y0 r) (y1 r)
def k56_2 : KF := fun c i x r h => (fun (x31 x32 : AV) =>
 tR (nic x31 h) fun v33 h34 =>
 tR (fa 1 v33 h34) fun v35 h36 =>
 tR (ld v35 h36) fun v37 h38 =>
 tR (b_add v37 x32 h38) fun v39 h40 =>
 tR (nic x31 h40) fun v41 h42 =>
 tR (fa 1 v41 h42) fun v43 h44 =>
 tR (sto v43 v39 h44) fun v45 h46 =>
 x (T34 x31 x32) h46) (y0 r) (y1 r)
def k56_1 : KF := fun c i x r h => (fun (x10 x11 : AV) =>
 tQ (nic x10 h) fun v12 =>
 tQ (fa 0 v12 h) fun v13 =>
 tQ (ld v13 h) fun v14 =>
 tQ (len v14 h) fun v15 =>
 tQ (nic x10 h) fun v16 =>
 tQ (fa 1 v16 h) fun v17 =>
 tQ (ld v17 h) fun v18 =>
 tQ (b_sub v15 v18 h) fun v19 =>
 tQ (b_gt x11 v19 h) fun v20 =>
 ifR v20 (tR (nic x10 h) fun v21 h22 =>
 tR (fa 0 v21 h22) fun v23 h24 =>
 tR (ld v23 h24) fun v25 h26 =>
 tR (len v25 h26) fun v27 h28 =>
 tT (c 55 [x10,(pi 10),v27] h28) fun v29 h30 =>
 .ret (T21 .nils) h30) (x (T34 x10 x11) h)) (y0 r) (y1 r)
def k56_0 : KF := fun c i x r h => (fun (x0 x1 : AV) =>
 tR (nic x0 h) fun v2 h3 =>
 tR (fa 2 v2 h3) fun v4 h5 =>
 tR (ld v4 h5) fun v6 h7 =>
 tR (b_ne v6 (pi 0) h7) fun v8 h9 =>
 ifR v8 (.ret (T21 .nils) h9) (x (T34 x0 x1) h9)) (y0 r) (y1 r)
def x56 : AC := (.shal k56_0 (.shal k56_1 (.shal k56_2 (.shal k56_3 .skip))))
def z56 : List Rs := [.t .h0 .h4]
def f56 : AF := .mk x56 z56
def k57_3 : KF := fun c i x r h => (fun (x25 x26 x27 : AV) =>
 tR (b_add x27 (pi 1) h) fun v28 h29 =>
 .nm (T52 x25 x26 v28) h29) (y5 r) (y6 r) (y7 r)
def k57_2 : KF := fun c i x r h => (fun (x4 x5 x6 : AV) =>
 tR (b_lt x6 x5 h) fun v7 h8 =>
 ifR v7 (tR (ix 1 x4 x6 h8) fun v9 h10 =>
 tR (ld v9 h10) fun v11 h12 =>
 tR (b_lt v11 (ni 2147483647) h12) fun v13 h14 =>
 (fun (k15 : AV → Hp → RS) => gd v13 false (k15 v11 h14) (k15 .undef h14)) fun v16 h17 =>
 (fun (k18 : AV → Hp → RS) => gd v13 false (tR (b_gt v16 (pi 2147483647) h17) fun v21 h22 =>
 k18 v21 h22) (k18 .undef h17)) fun v19 h20 =>
 tR (o_pick (.c v13) (.c (.bool true)) (.c v19) .nil h20) fun v23 h24 =>
 ifR v23 (.ret (T10 (.bool false)) h24) (x (T52 x4 x5 x6) h24)) (.ex 0 T8 h8)) (y5 r) (y6 r) (y7 r)
def k57_1 : KF := fun c i x r h => (fun (x1 : AV) =>
 tR (len x1 h) fun v2 h3 =>
 x (T52 x1 v2 (pi 0)) h3) (y0 r)
def k57_4 : KF := fun c i x r h => .ret (T10 (.bool true)) h
def k57_0 : KF := fun c i x r h => (fun (x0 : AV) =>
 x (T0 x0) h) (y0 r)
def x57 : AC := (.shal k57_0 (.seq (.shal k57_1 (.block 0 (.loop (.shal k57_2 (.shal k57_3 .skip))))) (.shal k57_4 .skip)))
def z57 : List Rs := [.t .h0 .h2]
def f57 : AF := .mk x57 z57
def k58_2 : KF := fun c i x r h => (fun (x4 x5 x6 : AV) =>
 tR (b_lt x6 x5 h) fun v7 h8 =>
 ifR v7 (tR (ix 1 x4 x6 h8) fun v9 h10 =>
 tR (ld v9 h10) fun v11 h12 =>
 tR (lent v11 h12) fun v13 h14 =>
 tR (b_gt v13 (pi 65535) h14) fun v15 h16 =>
 ifR v15 (.ret (T10 (.bool false)) h16) (tR (b_add x6 (pi 1) h16) fun v17 h18 =>
 .nm (T52 x4 x5 v17) h18)) (.ex 0 (T52 x4 x5 x6) h8)) (y5 r) (y6 r) (y7 r)
def k58_1 : KF := fun c i x r h => (fun (x1 : AV) =>
 tR (len x1 h) fun v2 h3 =>
 x (T52 x1 v2 (pi 0)) h3) (y0 r)
def k58_3 : KF := fun c i x r h => .ret (T10 (.bool true)) h
def k58_0 : KF := fun c i x r h => (fun (x0 : AV) =>
 x (T0 x0) h) (y0 r)
def x58 : AC := (.shal k58_0 (.seq (.shal k58_1 (.block 0 (.loop (.shal k58_2 .skip)))) (.shal k58_3 .skip)))
def z58 : List Rs := [.t .h0 .h2]
def f58 : AF := .mk x58 z58
def k60_1 : KF := fun c i x r h => (fun (x9 x10 x11 x12 x13 : AV) =>
 ifR x13 (.nm (T44 x9 x10 x11 (pi 13)) h) (.nm (T44 x9 x10 x11 x12) h)) (y0 r) (y1 r) (y2 r) (y7 r) (y24 r)
def k60_3 : KF := fun c i x r h => (fun (x20 : AV) =>
 tR (nic x20 h) fun v21 h22 =>
 tR (fa 0 v21 h22) fun v23 h24 =>
 tR (ld v23 h24) fun v25 h26 =>
 tT (c 83 [v25,(.fn 84 [])] h26) fun v27 h28 =>
 .ret (T6 (pi 0)) h28) (y0 r)
def k60_2 : KF := fun c i x r h => (fun (x14 x15 x16 x17 : AV) =>
 tR (b_ne x17 (pi 0) h) fun v18 h19 =>
 ifR v18 (.ret (T6 x17) h19) (x (T7 x14 x15 x16) h19)) (y0 r) (y1 r) (y2 r) (y7 r)
def k60_0 : KF := fun c i x r h => (fun (x0 x1 x2 : AV) =>
 tT (c 81 [x0,x1] h) fun v3 h4 =>
 tR (b_eq v3 (pi 0) h4) fun v5 h6 =>
 ifR v5 (tT (c 82 [x2] h6) fun v7 h8 =>
 x (T44 x0 x1 x2 v7) h8) (x (T44 x0 x1 x2 v3) h6)) (y0 r) (y1 r) (y2 r)
def x60 : AC := (.shal k60_0 (.seq (.seq (.ops [m d15 r7,
 o d16 (.bin .eq r15 (.c (pi 0))),
 m d17 r16,
 .g .h1 .h1 true d18 (.op (.mv r0)),
 .g .h1 .h1 true d19 (.op (.nilc r18)),
 .g .h1 .h1 true d20 (.op (.fad 0 r19)),
 .g .h1 .h1 true d21 (.op (.ld1 r20)),
 .g .h1 .h1 true d22 (.op (.len r21)),
 .g .h1 .h1 true d23 (.op (.bin .ge r22 (.c (pi 6)))),
 o d24 (.pick r17 r23 (.c (.bool false)))]) (.shal k60_1 .skip)) (.shal k60_2 (.seq (.drw [q 0 (m d34 r2),
 w (.o d35 (.call 75 [r34])),
 q 1 (m d33 r1),
 q 0 (o d36 (.build [(.str []),.nils] [.mk 0 1 r33,.mk 1 1 r35])),
 w (o d37 (.bslice 123 2 1 [(.str []),.nils] [.mk 0 2 r36])),
 q 2 (m d29 r0),
 q 2 (o d30 (.nilc r29)),
 q 2 (o d31 (.fad 0 r30)),
 q 2 (o d32 (.ld1 r31)),
 w (o d38 (.app 123 2 r32 r37)),
 q 3 (m d28 r0),
 q 0 (o d39 (.nilc r28)),
 q 0 (o d40 (.fad 0 r39)),
 w (o .no (.st1 r40 r38))]) (.shal k60_3 .skip)))))
def z60 : List Rs := [.t .h0 .h6]
def f60 : AF := .mk x60 z60
def k61_0 : KF := fun c i x r h => (fun (x0 x1 x2 : AV) =>
 tR (o_box 9 (.c x1) .nil h) fun v3 h4 =>
 tR (nic x0 h4) fun v5 h6 =>
 tR (fa 1 v5 h6) fun v7 h8 =>
 tR (ld v7 h8) fun v9 h10 =>
 tT (c 86 [v9,(.fn 87 [v3])] h10) fun v11 h12 =>
 tR (b_lt v11 (pi 0) h12) fun v13 h14 =>
 ifR v13 (tR (nic x0 h14) fun v15 h16 =>
 tR (fa 1 v15 h16) fun v17 h18 =>
 tR (ld v17 h18) fun v19 h20 =>
 tR (len v19 h20) fun v21 h22 =>
 x (T75 x0 x2 v3 v21) h22) (x (T75 x0 x2 v3 v11) h14)) (y0 r) (y1 r) (y2 r)
def x61 : AC := (.shal k61_0 (.drw [q 0 (m d27 r2),
 w (.o d28 (.call 75 [r27])),
 q 1 (o d26 (.ld1 r4)),
 q 0 (o d29 (.build [(.str []),.nils,.nils] [.mk 0 1 r26,.mk 1 1 r28])),
 w (o d30 (.bslice 114 3 1 [(.str []),.nils,.nils] [.mk 0 3 r29])),
 q 2 (m d21 r0),
 q 2 (o d22 (.nilc r21)),
 q 2 (o d23 (.fad 1 r22)),
 q 2 (o d24 (.ld1 r23)),
 q 2 (m d25 r6),
 w (.o d31 (.call 88 [r24,r25,r30])),
 q 3 (m d20 r0),
 q 0 (o d32 (.nilc r20)),
 q 0 (o d33 (.fad 1 r32)),
 w (o .no (.st1 r33 r31))]))
def z61 : List Rs := []
def f61 : AF := .mk x61 z61
def k69_0 : KF := fun c i x r h => (fun (x0 : AV) =>
 tR (nic x0 h) fun v1 h2 =>
 tR (fa 2 v1 h2) fun v3 h4 =>
 tR (ld v3 h4) fun v5 h6 =>
 tR (b_ne v5 (pi 0) h6) fun v7 h8 =>
 .ret (T10 v7) h8) (y0 r)
def x69 : AC := (.shal k69_0 .skip)
def z69 : List Rs := [.t .h0 .h2]
def f69 : AF := .mk x69 z69
def k70_2 : KF := fun c i x r h => (fun (x5 x6 x7 x8 : AV) =>
 ifR x8 (.nm (T46 x5 x6 x7) h) (.ex 0 (T46 x5 x6 x7) h)) (y0 r) (y3 r) (y4 r) (y16 r)
def k70_3 : KF := fun c i x r h => (fun (x9 x10 x11 : AV) =>
 tT (c 29 [x9,(pi 65535)] h) fun v12 h13 =>
 tR (b_seq v12 (.str []) h13) fun v14 h15 =>
 ifR v14 (tT (c 105 [x9,(pi 12)] h15) fun v16 h17 =>
 tR (o_apps 5 (.c x10) (.c v12) .nil h17) fun v18 h19 =>
 .nm (T46 x9 v18 x11) h19) (tR (o_apps 5 (.c x10) (.c v12) .nil h15) fun v20 h21 =>
 .nm (T46 x9 v20 x11) h21)) (y0 r) (y3 r) (y4 r)
def k70_1 : KF := fun c i x r h => (fun (x1 x2 : AV) =>
 tT (c 14 [x1] h) fun v3 h4 =>
 x (T46 x1 x2 v3) h4) (y0 r) (y3 r)
def k70_4 : KF := fun c i x r h => (fun (x22 : AV) =>
 tR (cK .b2s x22 h) fun v23 h24 =>
 .ret (T10 v23) h24) (y3 r)
def k70_0 : KF := fun c i x r h => (fun (x0 : AV) =>
 x (T9 x0 .nils) h) (y0 r)
def x70 : AC := (.shal k70_0 (.seq (.shal k70_1 (.block 0 (.loop (.seq (.seq (.ops [m d8 r3,
 o d9 (.len r8),
 m d10 r4,
 o d11 (.bin .lt r9 r10),
 m d12 r11,
 .g .h0 .hc true d13 (.op (.mv r0)),
 .g .h0 .hc true d14 (.call 69 [r13]),
 .g .h0 .hc true d15 (.op (.un .not r14)),
 o d16 (.pick r12 r15 (.c (.bool false)))]) (.shal k70_2 .skip)) (.shal k70_3 .skip))))) (.shal k70_4 .skip)))
def z70 : List Rs := [.t .h0 .h2]
def f70 : AF := .mk x70 z70
def k71_2 : KF := fun c i x r h => (fun (x5 x6 x7 x8 : AV) =>
 ifR x8 (.nm (T46 x5 x6 x7) h) (.ex 0 (T46 x5 x6 x7) h)) (y0 r) (y3 r) (y4 r) (y15 r)
def k71_4 : KF := fun c i x r h => (fun (x22 x23 x24 x25 x26 : AV) =>
 ifR x26 (tT (c 105 [x22,(pi 12)] h) fun v27 h28 =>
 .ret (T10 .nils) h28) (.nm (T76 x22 x23 x24 x25) h)) (y0 r) (y3 r) (y4 r) (y5 r) (y31 r)
def k71_5 : KF := fun c i x r h => (fun (x29 x30 x31 x32 : AV) =>
 tR (appV 165 2 x30 x32 h) fun v33 h34 =>
 .nm (T46 x29 v33 x31) h34) (y0 r) (y3 r) (y4 r) (y5 r)
def k71_3 : KF := fun c i x r h => (fun (x9 x10 x11 : AV) =>
 tT (c 29 [x9,(pi 65536)] h) fun v12 h13 =>
 tR (cK (.s2b 5) v12 h13) fun v14 h15 =>
 tT (c 106 [v14] h15) fun v16 h17 =>
 tR (o_ext 0 (.c v16) .nil h17) fun v18 h19 =>
 tR (o_ext 1 (.c v16) .nil h19) fun v20 h21 =>
 x (T19 x9 x10 x11 v18 v20) h21) (y0 r) (y3 r) (y4 r)
def k71_6 : KF := fun c i x r h => (fun (x35 x36 x37 : AV) =>
 tR (b_sub x37 (pi 1) h) fun v38 h39 =>
 .nm (T46 x35 x36 v38) h39) (y0 r) (y3 r) (y4 r)
def k71_1 : KF := fun c i x r h => (fun (x1 x2 : AV) =>
 tT (c 14 [x1] h) fun v3 h4 =>
 x (T46 x1 x2 v3) h4) (y0 r) (y3 r)
def k71_7 : KF := fun c i x r h => (fun (x40 : AV) =>
 .ret (T10 x40) h) (y3 r)
def k71_0 : KF := fun c i x r h => (fun (x0 : AV) =>
 x (T9 x0 .nils) h) (y0 r)
def x71 : AC := (.shal k71_0 (.seq (.shal k71_1 (.block 0 (.loop (.seq (.seq (.ops [m d9 r4,
 o d10 (.bin .gt r9 (.c (pi 0))),
 m d11 r10,
 .g .h0 .hb true d12 (.op (.mv r0)),
 .g .h0 .hb true d13 (.call 69 [r12]),
 .g .h0 .hb true d14 (.op (.un .not r13)),
 o d15 (.pick r11 r14 (.c (.bool false)))]) (.shal k71_2 .skip)) (.seq (.block 1 (.shal k71_3 (.seq (.seq (.ops [m d25 r6,
 o d26 (.bin .ne r25 (.c (pi 0))),
 m d27 r26,
 .g .h1 .hb false d28 (.op (.mv r5)),
 .g .h1 .hb false d29 (.op (.len r28)),
 .g .h1 .hb false d30 (.op (.bin .ne r29 (.c (pi 1)))),
 o d31 (.pick r27 (.c (.bool true)) r30)]) (.shal k71_4 .skip)) (.shal k71_5 .skip)))) (.shal k71_6 .skip)))))) (.shal k71_7 .skip)))
def z71 : List Rs := [.t .h0 .h2]
def f71 : AF := .mk x71 z71
def k72_4 : KF := fun c i x r h => (fun (x47 x48 x49 x50 : AV) =>
 tR (b_add x50 (pi 1) h) fun v51 h52 =>
 .nm (T78 x47 x48 x49 v51) h52) (y4 r) (y10 r) (y11 r) (y12 r)
def k72_3 : KF := fun c i x r h => (fun (x15 x16 x17 x18 : AV) =>
 tR (ix 2 x16 x18 h) fun v19 h20 =>
 tR (o_ldn 2 (.c v19) .nil h20) fun v21 h22 =>
 tR (o_alloc 165 2 (.k1 (.mk .nils (.cplx .f64 0 0) .undef .undef .undef .undef .undef .undef .undef .undef .undef .undef .undef .undef .undef .undef)) .nil h22) fun v23 h24 =>
 tR (o_stn 2 (.c v23) (.c v21) .nil h24) fun v25 h26 =>
 tR (fa 1 v23 h26) fun v27 h28 =>
 tR (ld v27 h28) fun v29 h30 =>
 tT (c 108 [v29] h30) fun v31 h32 =>
 tR (b_add x15 v31 h32) fun v33 h34 =>
 tR (b_gt v33 (pi 1125899906842624) h34) fun v35 h36 =>
 (fun (k37 : AV → Hp → RS) => gd v35 false (k37 v33 h36) (k37 .undef h36)) fun v38 h39 =>
 (fun (k40 : AV → Hp → RS) => gd v35 false (tR (b_lt v38 (ni 1125899906842623) h39) fun v43 h44 =>
 k40 v43 h44) (k40 .undef h39)) fun v41 h42 =>
 tR (o_pick (.c v35) (.c (.bool true)) (.c v41) .nil h42) fun v45 h46 =>
 ifR v45 (.ret (T17 (pi 0) (.bool false)) h46) (x (T78 v33 x16 x17 x18) h46)) (y4 r) (y10 r) (y11 r) (y12 r)
def k72_2 : KF := fun c i x r h => (fun (x9 x10 x11 x12 : AV) =>
 tR (b_lt x12 x11 h) fun v13 h14 =>
 ifR v13 (x (T78 x9 x10 x11 x12) h14) (.ex 0 (T21 x9) h14)) (y4 r) (y10 r) (y11 r) (y12 r)
def k72_1 : KF := fun c i x r h => (fun (x5 x6 : AV) =>
 tR (len x5 h) fun v7 h8 =>
 x (T78 x6 x5 v7 (pi 0)) h8) (y0 r) (y4 r)
def k72_5 : KF := fun c i x r h => (fun (x53 : AV) =>
 .ret (T17 x53 (.bool true)) h) (y4 r)
def k72_0 : KF := fun c i x r h => (fun (x0 : AV) =>
 tT (c 107 [x0] h) fun v1 h2 =>
 tR (u_not v1 h2) fun v3 h4 =>
 ifR v3 (.ret (T17 (pi 0) (.bool false)) h4) (x (T77 x0 (pi 0)) h4)) (y0 r)
def x72 : AC := (.shal k72_0 (.seq (.shal k72_1 (.block 0 (.loop (.shal k72_2 (.shal k72_3 (.shal k72_4 .skip)))))) (.shal k72_5 .skip)))
def z72 : List Rs := [.t .h0 .h2,.t .h0 .h3]
def f72 : AF := .mk x72 z72
def k73_4 : KF := fun c i x r h => (fun (x26 x27 x28 x29 : AV) =>
 ifR x29 (.ret (T10 (.bool false)) h) (.nm (T79 x26 x27 x28) h)) (y9 r) (y10 r) (y11 r) (y24 r)
def k73_3 : KF := fun c i x r h => (fun (x15 x16 x17 : AV) =>
 tR (ix 3 x15 x17 h) fun v18 h19 =>
 tR (o_ldn 3 (.c v18) .nil h19) fun v20 h21 =>
 tR (o_alloc 114 3 (.k1 (.mk (.str []) .nils .nils .undef .undef .undef .undef .undef .undef .undef .undef .undef .undef .undef .undef .undef)) .nil h21) fun v22 h23 =>
 tR (o_stn 3 (.c v22) (.c v20) .nil h23) fun v24 h25 =>
 x (T80 v22 x15 x16 x17) h25) (y9 r) (y10 r) (y11 r)
def k73_5 : KF := fun c i x r h => (fun (x30 x31 x32 : AV) =>
 tR (b_add x32 (pi 1) h) fun v33 h34 =>
 .nm (T79 x30 x31 v33) h34) (y9 r) (y10 r) (y11 r)
def k73_2 : KF := fun c i x r h => (fun (x10 x11 x12 : AV) =>
 tR (b_lt x12 x11 h) fun v13 h14 =>
 ifR v13 (x (T79 x10 x11 x12) h14) (.ex 0 T8 h14)) (y9 r) (y10 r) (y11 r)
def k73_1 : KF := fun c i x r h => (fun (x7 : AV) =>
 tR (len x7 h) fun v8 h9 =>
 x (T79 x7 v8 (pi 0)) h9) (y0 r)
def k73_6 : KF := fun c i x r h => .ret (T10 (.bool true)) h
def k73_0 : KF := fun c i x r h => (fun (x0 : AV) =>
 tT (c 110 [x0] h) fun v1 h2 =>
 tT (c 109 [v1] h2) fun v3 h4 =>
 tR (b_ne v3 (pi 0) h4) fun v5 h6 =>
 ifR v5 (.ret (T10 (.bool false)) h6) (x (T0 x0) h6)) (y0 r)
def x73 : AC := (.shal k73_0 (.seq (.shal k73_1 (.block 0 (.loop (.shal k73_2 (.seq (.block 1 (.shal k73_3 (.seq (.ops [o d15 (.fad 2 r4),
 o d16 (.ld1 r15),
 .o d17 (.call 111 [r16]),
 o d18 (.un .not r17),
 m d19 r18,
 .g .h1 .h3 false d20 (.op (.fad 2 r4)),
 .g .h1 .h3 false d21 (.op (.ld1 r20)),
 .g .h1 .h3 false d22 (.op (.mkf 113 [r4])),
 .g .h1 .h3 false d23 (.call 112 [r21,r22]),
 o d24 (.pick r19 (.c (.bool true)) r23)]) (.shal k73_4 .skip)))) (.shal k73_5 .skip)))))) (.shal k73_6 .skip)))
def z73 : List Rs := [.t .h0 .h2]
def f73 : AF := .mk x73 z73
def k75_0 : KF := fun c i x r h => (fun (x0 : AV) =>
 tR (bK (.isnil .s) x0 .nils h) fun v1 h2 =>
 ifR v1 (.ret (T10 .nils) h2) (tR (o_bslice 71 2 0 [] [] .nil h2) fun v3 h4 =>
 tR (appV 71 2 v3 x0 h4) fun v5 h6 =>
 .ret (T10 v5) h6)) (y0 r)
def x75 : AC := (.shal k75_0 .skip)
def z75 : List Rs := [.t .h0 .h2]
def f75 : AF := .mk x75 z75
def k78_1 : KF := fun c i x r h => (fun (x6 x7 : AV) =>
 tR (lent x7 h) fun v8 h9 =>
 tR (b_gt v8 (pi 0) h9) fun v10 h11 =>
 ifR v10 (tR (lent x7 h11) fun v12 h13 =>
 tR (maxV true [v12,(pi 65535)] h13) fun v14 h15 =>
 tR (o_slcs (.c x7) .none (.some (.c v14)) .nil h15) fun v16 h17 =>
 tT (c 51 [x6,v16] h17) fun v18 h19 =>
 tR (o_slcs (.c x7) (.some (.c v14)) .none .nil h19) fun v20 h21 =>
 .nm (T34 x6 v20) h21) (.ex 0 (T34 x6 x7) h11)) (y0 r) (y1 r)
def k78_0 : KF := fun c i x r h => (fun (x0 x1 : AV) =>
 tR (lent x1 h) fun v2 h3 =>
 tT (c 17 [x0,v2] h3) fun v4 h5 =>
 x (T34 x0 x1) h5) (y0 r) (y1 r)
def x78 : AC := (.shal k78_0 (.block 0 (.loop (.shal k78_1 .skip))))
def z78 : List Rs := []
def f78 : AF := .mk x78 z78
def k80_0 : KF := fun c i x r h => (fun (x0 x1 : AV) =>
 tR (cK (.toInt .u64) x1 h) fun v2 h3 =>
 tT (c 46 [x0,v2,(pi 2)] h3) fun v4 h5 =>
 .nm T8 h5) (y0 r) (y1 r)
def x80 : AC := (.shal k80_0 .skip)
def z80 : List Rs := []
def f80 : AF := .mk x80 z80
def k81_2 : KF := fun c i x r h => .ret (T21 (pi 20)) h
def k81_3 : KF := fun c i x r h => (fun (x8 : AV) =>
 ifR x8 (.ret (T21 (pi 21)) h) (.nm T8 h)) (y9 r)
def k81_1 : KF := fun c i x r h => (fun (x2 x3 : AV) =>
 tT (c 126 [x3] h) fun v4 h5 =>
 tR (u_not v4 h5) fun v6 h7 =>
 x (T35 x2 x3 v6) h7) (y0 r) (y1 r)
def k81_4 : KF := fun c i x r h => .ret (T21 (pi 0)) h
def k81_0 : KF := fun c i x r h => (fun (x0 x1 : AV) =>
 x (T34 x0 x1) h) (y0 r) (y1 r)
def x81 : AC := (.shal k81_0 (.seq (.block 0 (.shal k81_1 (.cond r5 (.shal k81_2 .skip) (.seq (.ops [m d10 r0,
 m d11 r1,
 .o d12 (.call 89 [r10,r11]),
 o d13 (.bin .ge r12 (.c (pi 0))),
 m d14 r13,
 .g .h0 .he false d15 (.op (.mv r0)),
 .g .h0 .he false d16 (.op (.mv r1)),
 .g .h0 .he false d17 (.call 93 [r15,r16]),
 .g .h0 .he false d18 (.op (.bin .ge r17 (.c (pi 0)))),
 o d19 (.pick r14 (.c (.bool true)) r18),
 m d9 r19]) (.shal k81_3 .skip))))) (.shal k81_4 .skip)))
def z81 : List Rs := [.t .h0 .h4]
def f81 : AF := .mk x81 z81
def k82_1 : KF := fun c i x r h => (fun (x1 x2 : AV) =>
 ifR x2 (.ret (T10 (pi 23)) h) (.nm (T0 x1) h)) (y0 r) (y14 r)
def k82_5 : KF := fun c i x r h => (fun (x24 x25 x26 x27 x28 x29 x30 : AV) =>
 ifR x30 (.ret (T10 (pi 20)) h) (.nm (T82 x24 x25 x26 x27 x28 x29) h)) (y0 r) (y3 r) (y4 r) (y15 r) (y16 r) (y17 r) (y35 r)
def k82_6 : KF := fun c i x r h => (fun (x31 x32 x33 x34 x35 x36 : AV) =>
 tQ (o_slc 2 (.c x31) .none (.some (.c x32)) .none .nil h) fun v37 =>
 tQ (fa 0 x33 h) fun v38 =>
 tQ (ld v38 h) fun v39 =>
 tX (c 127 [v37,v39] h) fun v40 h41 =>
 tQ (o_ext 0 (.c v40) .nil h41) fun v42 =>
 tQ (o_ext 1 (.c v40) .nil h41) fun v43 =>
 ifR v43 (.ret (T10 (pi 21)) h41) (.nm (T81 x31 x34 x35 x36) h41)) (y0 r) (y3 r) (y4 r) (y15 r) (y16 r) (y17 r)
def k82_4 : KF := fun c i x r h => (fun (x12 x13 x14 x15 : AV) =>
 tR (ix 2 x13 x15 h) fun v16 h17 =>
 tR (o_ldn 2 (.c v16) .nil h17) fun v18 h19 =>
 tR (o_alloc 71 2 (.k1 (.mk (.str []) (pi 0) .undef .undef .undef .undef .undef .undef .undef .undef .undef .undef .undef .undef .undef .undef)) .nil h19) fun v20 h21 =>
 tR (o_stn 2 (.c v20) (.c v18) .nil h21) fun v22 h23 =>
 x (T82 x12 x15 v20 x13 x14 x15) h23) (y0 r) (y15 r) (y16 r) (y17 r)
def k82_7 : KF := fun c i x r h => (fun (x44 x45 x46 x47 : AV) =>
 tR (b_add x47 (pi 1) h) fun v48 h49 =>
 .nm (T81 x44 x45 x46 v48) h49) (y0 r) (y15 r) (y16 r) (y17 r)
def k82_3 : KF := fun c i x r h => (fun (x6 x7 x8 x9 : AV) =>
 tR (b_lt x9 x8 h) fun v10 h11 =>
 ifR v10 (x (T81 x6 x7 x8 x9) h11) (.ex 0 T8 h11)) (y0 r) (y15 r) (y16 r) (y17 r)
def k82_2 : KF := fun c i x r h => (fun (x3 : AV) =>
 tR (len x3 h) fun v4 h5 =>
 x (T81 x3 x3 v4 (pi 0)) h5) (y0 r)
def k82_8 : KF := fun c i x r h => .ret (T10 (pi 0)) h
def k82_0 : KF := fun c i x r h => (fun (x0 : AV) =>
 x (T0 x0) h) (y0 r)
def x82 : AC := (.shal k82_0 (.seq (.seq (.ops [m d7 r0,
 o d8 (.len r7),
 o d9 (.bin .eq r8 (.c (pi 0))),
 m d10 r9,
 .g .h0 .ha false d11 (.op (.mv r0)),
 .g .h0 .ha false d12 (.op (.len r11)),
 .g .h0 .ha false d13 (.op (.bin .gt r12 (.c (pi 6)))),
 o d14 (.pick r10 (.c (.bool true)) r13)]) (.shal k82_1 .skip)) (.seq (.shal k82_2 (.block 0 (.loop (.shal k82_3 (.seq (.block 1 (.shal k82_4 (.seq (.seq (.ops [o d22 (.fad 0 r4),
 o d23 (.ld1 r22),
 .o d24 (.call 126 [r23]),
 o d25 (.un .not r24),
 m d26 r25,
 .g .h1 .ha false d27 (.op (.fad 1 r4)),
 .g .h1 .ha false d28 (.op (.ld1 r27)),
 .g .h1 .ha false d29 (.op (.bin .ne r28 (.c (pi 1)))),
 .g .h1 .ha false d30 (.op (.mv r29)),
 .g .h1 .he true d31 (.op (.fad 1 r4)),
 .g .h1 .he true d32 (.op (.ld1 r31)),
 .g .h1 .he true d33 (.op (.bin .ne r32 (.c (pi 2)))),
 .g .h1 .ha false d34 (.op (.pick r30 r33 (.c (.bool false)))),
 o d35 (.pick r26 (.c (.bool true)) r34)]) (.shal k82_5 .skip)) (.shal k82_6 .skip)))) (.shal k82_7 .skip)))))) (.shal k82_8 .skip))))
def z82 : List Rs := [.t .h0 .h2]
def f82 : AF := .mk x82 z82
def k83_0 : KF := fun c i x r h => (fun (x0 x1 : AV) =>
 tR (len x0 h) fun v2 h3 =>
 tR (cK (.toInt .u64) v2 h3) fun v4 h5 =>
 tT (c 129 [v4] h5) fun v6 h7 =>
 tT (c 128 [x0,(pi 0),v2,v6,x1] h7) fun v8 h9 =>
 .nm T8 h9) (y0 r) (y1 r)
def x83 : AC := (.shal k83_0 .skip)
def z83 : List Rs := []
def f83 : AF := .mk x83 z83
def k86_2 : KF := fun c i x r h => (fun (x6 x7 x8 x9 : AV) =>
 tR (b_lt x9 x8 h) fun v10 h11 =>
 ifR v10 (tR (ix 3 x6 x9 h11) fun v12 h13 =>
 tR (o_ldn 3 (.c v12) .nil h13) fun v14 h15 =>
 tT (AV.onFn x7 (fun f l => c f (List.append [v14] l) h15) (.err 202)) fun v16 h17 =>
 ifR v16 (.ret (T21 x9) h17) (tR (b_add x9 (pi 1) h17) fun v18 h19 =>
 .nm (T83 x6 x7 x8 v18) h19)) (.ex 0 (T83 x6 x7 x8 x9) h11)) (y0 r) (y1 r) (y7 r) (y8 r)
def k86_1 : KF := fun c i x r h => (fun (x2 x3 : AV) =>
 tR (len x2 h) fun v4 h5 =>
 x (T83 x2 x3 v4 (pi 0)) h5) (y0 r) (y1 r)
def k86_3 : KF := fun c i x r h => .ret (T21 (ni 0)) h
def k86_0 : KF := fun c i x r h => (fun (x0 x1 : AV) =>
 x (T34 x0 x1) h) (y0 r) (y1 r)
def x86 : AC := (.shal k86_0 (.seq (.shal k86_1 (.block 0 (.loop (.shal k86_2 .skip)))) (.shal k86_3 .skip)))
def z86 : List Rs := [.t .h0 .h4]
def f86 : AF := .mk x86 z86
def k88_3 : KF := fun c i x r h => (fun (x34 x35 x36 x37 x38 : AV) =>
 tR (o_slc 3 (.c x38) (.some (.c x35)) .none .none .nil h) fun v39 h40 =>
 tR (cpyV 3 v39 x36 h40) fun v41 h42 =>
 tQ (b_add x35 x37 h42) fun v43 =>
 tQ (o_slc 3 (.c x38) (.some (.c v43)) .none .none .nil h42) fun v44 =>
 tQ (o_slc 3 (.c x34) (.some (.c x35)) .none .none .nil h42) fun v45 =>
 tX (RV.toT (cpyV 3 v44 v45 h42)) fun v46 h47 =>
 .ret (T6 x38) h47) (y0 r) (y1 r) (y2 r) (y7 r) (y9 r)
def k88_2 : KF := fun c i x r h => (fun (x22 x23 x24 x25 x26 x27 : AV) =>
 tR (b_add x26 x25 h) fun v28 h29 =>
 tR (o_cap (.c x22) .nil h29) fun v30 h31 =>
 tR (b_gt v28 v30 h31) fun v32 h33 =>
 x (T85 x22 x23 x24 x25 x26 v32 x27) h33) (y0 r) (y1 r) (y2 r) (y7 r) (y8 r) (y40 r)
def k88_6 : KF := fun c i x r h => (fun (x79 x80 x81 x82 x83 : AV) =>
 tR (o_slc 3 (.c x79) (.some (.c x83)) .none .none .nil h) fun v84 h85 =>
 tR (cpyV 3 v84 x81 h85) fun v86 h87 =>
 tR (o_slc 3 (.c x79) (.some (.c x80)) .none .none .nil h87) fun v88 h89 =>
 tT (c 132 [v88,x82] h89) fun v90 h91 =>
 .ret (T6 x79) h91) (y0 r) (y1 r) (y2 r) (y7 r) (y8 r)
def k88_5 : KF := fun c i x r h => (fun (x57 x58 x59 x60 x61 : AV) =>
 tR (b_add x58 x60 h) fun v62 h63 =>
 tR (o_slc 3 (.c x57) (.some (.c v62)) .none .none .nil h63) fun v64 h65 =>
 tT (c 131 [x59,v64] h65) fun v66 h67 =>
 tR (u_not v66 h67) fun v68 h69 =>
 ifR v68 (tQ (b_add x58 x60 h69) fun v70 =>
 tQ (o_slc 3 (.c x57) (.some (.c v70)) .none .none .nil h69) fun v71 =>
 tQ (o_slc 3 (.c x57) (.some (.c x58)) .none .none .nil h69) fun v72 =>
 tX (RV.toT (cpyV 3 v71 v72 h69)) fun v73 h74 =>
 tR (o_slc 3 (.c x57) (.some (.c x58)) .none .none .nil h74) fun v75 h76 =>
 tR (cpyV 3 v75 x59 h76) fun v77 h78 =>
 .ret (T6 x57) h78) (x (T86 x57 x58 x59 x60 x61) h69)) (y0 r) (y1 r) (y2 r) (y7 r) (y8 r)
def k88_4 : KF := fun c i x r h => (fun (x48 x49 x50 x51 x52 : AV) =>
 tR (b_add x52 x51 h) fun v53 h54 =>
 tR (o_slc 3 (.c x48) .none (.some (.c v53)) .none .nil h54) fun v55 h56 =>
 x (T86 v55 x49 x50 x51 x52) h56) (y0 r) (y1 r) (y2 r) (y7 r) (y8 r)
def k88_1 : KF := fun c i x r h => (fun (x12 x13 x14 x15 x16 x17 : AV) =>
 tR (b_eq x13 x16 h) fun v18 h19 =>
 ifR v18 (tR (appV 114 3 x12 x14 h19) fun v20 h21 =>
 .ret (T6 v20) h21) (x (T84 x12 x13 x14 x15 x16 x17) h19)) (y0 r) (y1 r) (y2 r) (y7 r) (y8 r) (y40 r)
def k88_0 : KF := fun c i x r h => (fun (x0 x1 x2 x3 : AV) =>
 tR (o_slc 3 (.c x0) (.some (.c x1)) .none .none .nil h) fun v4 h5 =>
 tR (len x2 h5) fun v6 h7 =>
 tR (b_eq v6 (pi 0) h7) fun v8 h9 =>
 ifR v8 (.ret (T6 x0) h9) (tR (len x0 h9) fun v10 h11 =>
 x (T84 x0 x1 x2 v6 v10 x3) h11)) (y0 r) (y1 r) (y2 r) (y40 r)
def x88 : AC := (.shal k88_0 (.shal k88_1 (.seq (.shal k88_2 (.cond r31 (.seq (.ops [m d32 r0,
 m d33 r1,
 o d34 (.slc 3 r32 .none (.some r33) .none),
 m d35 r8,
 m d36 r7,
 o d37 (.bin .add r35 r36),
 m d38 r1,
 o d39 (.bin .sub r37 r38),
 o .no (.bad 400),
 m d9 r40]) (.shal k88_3 .skip)) .skip)) (.shal k88_4 (.shal k88_5 (.shal k88_6 .skip))))))
def z88 : List Rs := [.t .h0 .h6]
def f88 : AF := .mk x88 z88
def k89_0 : KF := fun c i x r h => (fun (x0 x1 : AV) =>
 tR (o_box 9 (.c x1) .nil h) fun v2 h3 =>
 tR (nic x0 h3) fun v4 h5 =>
 tR (fa 0 v4 h5) fun v6 h7 =>
 tR (ld v6 h7) fun v8 h9 =>
 tT (c 133 [v8,(.fn 134 [v2])] h9) fun v10 h11 =>
 .ret (T21 v10) h11) (y0 r) (y1 r)
def x89 : AC := (.shal k89_0 .skip)
def z89 : List Rs := [.t .h0 .h4]
def f89 : AF := .mk x89 z89
def k93_0 : KF := fun c i x r h => (fun (x0 x1 : AV) =>
 tR (o_box 9 (.c x1) .nil h) fun v2 h3 =>
 tR (nic x0 h3) fun v4 h5 =>
 tR (fa 1 v4 h5) fun v6 h7 =>
 tR (ld v6 h7) fun v8 h9 =>
 tT (c 137 [v8,(.fn 138 [v2])] h9) fun v10 h11 =>
 .ret (T21 v10) h11) (y0 r) (y1 r)
def x93 : AC := (.shal k93_0 .skip)
def z93 : List Rs := [.t .h0 .h4]
def f93 : AF := .mk x93 z93
def k107_4 : KF := fun c i x r h => (fun (x30 x31 x32 x33 x34 x35 x36 : AV) =>
 ifR x36 (.ret (T10 (.bool false)) h) (.nm (T88 x30 x31 x32 x33 x34 x35) h)) (y0 r) (y5 r) (y6 r) (y7 r) (y25 r) (y33 r) (y50 r)
def k107_3 : KF := fun c i x r h => (fun (x16 x17 x18 x19 x20 x21 : AV) =>
 tR (ix 2 x17 x19 h) fun v22 h23 =>
 tR (o_ldn 2 (.c v22) .nil h23) fun v24 h25 =>
 tR (o_alloc 165 2 (.k1 (.mk .nils (.cplx .f64 0 0) .undef .undef .undef .undef .undef .undef .undef .undef .undef .undef .undef .undef .undef .undef)) .nil h25) fun v26 h27 =>
 tR (o_stn 2 (.c v26) (.c v24) .nil h27) fun v28 h29 =>
 x (T89 x16 x19 v26 x17 x18 x19 x20 x21) h29) (y0 r) (y5 r) (y6 r) (y7 r) (y25 r) (y33 r)
def k107_5 : KF := fun c i x r h => (fun (x37 x38 x39 x40 x41 x42 : AV) =>
 tR (b_add x40 (pi 1) h) fun v43 h44 =>
 .nm (T88 x37 x38 x39 v43 x41 x42) h44) (y0 r) (y5 r) (y6 r) (y7 r) (y25 r) (y33 r)
def k107_2 : KF := fun c i x r h => (fun (x8 x9 x10 x11 x12 x13 : AV) =>
 tR (b_lt x11 x10 h) fun v14 h15 =>
 ifR v14 (x (T88 x8 x9 x10 x11 x12 x13) h15) (.ex 0 T8 h15)) (y0 r) (y5 r) (y6 r) (y7 r) (y25 r) (y33 r)
def k107_1 : KF := fun c i x r h => (fun (x3 x4 x5 : AV) =>
 tR (len x3 h) fun v6 h7 =>
 x (T88 x3 x3 v6 (pi 0) x4 x5) h7) (y0 r) (y25 r) (y33 r)
def k107_6 : KF := fun c i x r h => .ret (T10 (.bool true)) h
def k107_0 : KF := fun c i x r h => (fun (x0 x1 x2 : AV) =>
 x (T87 x0 x1 x2) h) (y0 r) (y25 r) (y33 r)
def x107 : AC := (.shal k107_0 (.seq (.shal k107_1 (.block 0 (.loop (.shal k107_2 (.seq (.block 1 (.shal k107_3 (.seq (.drw [q 0 (o d12 (.fad 0 r4)),
 q 0 (o d13 (.ld1 r12)),
 w (.o d14 (.call 154 [r13])),
 q 0 (o d15 (.un .not r14)),
 q 0 (m d16 r15),
 q 0 (.g .h1 .h0 false d17 (.op (.fad 1 r4))),
 q 0 (.g .h1 .h0 false d18 (.op (.ld1 r17))),
 w (.g .h1 .h0 false d19 (.call 155 [r18])),
 q 0 (.g .h1 .h0 false d20 (.op (.un .not r19))),
 q 0 (o d21 (.pick r16 (.c (.bool true)) r20)),
 q 0 (m d22 r21),
 q 0 (.g .h1 .h6 false d23 (.op (.fad 1 r4))),
 q 0 (.g .h1 .h6 false d24 (.op (.ld1 r23))),
 w (o .no (.bad 400)),
 q 0 (o d26 (.pick r22 (.c (.bool true)) r25)),
 q 0 (m d27 r26),
 q 0 (.g .h1 .hb false d28 (.op (.fad 1 r4))),
 q 0 (.g .h1 .hb false d29 (.op (.ld1 r28))),
 w (.g .h1 .hb false d30 (.call 156 [r29])),
 q 1 (.g .h1 .hb false d31 (.op (.fad 1 r4))),
 q 1 (.g .h1 .hb false d32 (.op (.ld1 r31))),
 w (o .no (.bad 400)),
 q 0 (o d34 (.pick r27 (.c (.bool true)) r33)),
 q 0 (m d35 r34),
 q 0 (.g .h2 .h3 false d36 (.op (.mv r3))),
 q 0 (.g .h2 .h3 false d37 (.op (.bin .gt r36 (.c (pi 0))))),
 q 0 (.g .h2 .h3 false d38 (.op (.mv r37))),
 q 0 (.g .h2 .h6 true d39 (.op (.mv r0))),
 q 0 (.g .h2 .h6 true d40 (.op (.mv r3))),
 q 0 (.g .h2 .h6 true d41 (.op (.bin .sub r40 (.c (pi 1))))),
 q 0 (.g .h2 .h6 true d42 (.op (.ixs 2 r39 r41))),
 q 0 (.g .h2 .h6 true d43 (.op (.fad 0 r42))),
 q 0 (.g .h2 .h6 true d44 (.op (.ld1 r43))),
 q 0 (.g .h2 .h6 true d45 (.op (.fad 0 r4))),
 q 0 (.g .h2 .h6 true d46 (.op (.ld1 r45))),
 w (.g .h2 .h6 true d47 (.call 157 [r44,r46])),
 q 0 (.g .h2 .h6 true d48 (.op (.un .not r47))),
 q 0 (.g .h2 .h3 false d49 (.op (.pick r38 r48 (.c (.bool false))))),
 q 0 (o d50 (.pick r35 (.c (.bool true)) r49))]) (.shal k107_4 .skip)))) (.shal k107_5 .skip)))))) (.shal k107_6 .skip)))
def z107 : List Rs := [.t .h0 .h2]
def f107 : AF := .mk x107 z107
def k109_4 : KF := fun c i x r h => (fun (x42 x43 x44 x45 : AV) =>
 tR (b_add x45 (pi 1) h) fun v46 h47 =>
 .nm (T90 x42 x43 x44 v46) h47) (y0 r) (y6 r) (y7 r) (y8 r)
def k109_3 : KF := fun c i x r h => (fun (x10 x11 x12 x13 : AV) =>
 tR (ix 2 x11 x13 h) fun v14 h15 =>
 tR (o_ldn 2 (.c v14) .nil h15) fun v16 h17 =>
 tR (o_alloc 123 2 (.k1 (.mk (.str []) .nils .undef .undef .undef .undef .undef .undef .undef .undef .undef .undef .undef .undef .undef .undef)) .nil h17) fun v18 h19 =>
 tR (o_stn 2 (.c v18) (.c v16) .nil h19) fun v20 h21 =>
 tR (fa 0 v18 h21) fun v22 h23 =>
 tR (ld v22 h23) fun v24 h25 =>
 tT (c 126 [v24] h25) fun v26 h27 =>
 tR (u_not v26 h27) fun v28 h29 =>
 ifR v28 (.ret (T10 (pi 20)) h29) (tR (o_slc 2 (.c x10) .none (.some (.c x13)) .none .nil h29) fun v30 h31 =>
 tT (c 159 [v30,(.fn 160 [v18])] h31) fun v32 h33 =>
 ifR v32 (.ret (T10 (pi 21)) h33) (tR (fa 1 v18 h33) fun v34 h35 =>
 tR (ld v34 h35) fun v36 h37 =>
 tT (c 82 [v36] h37) fun v38 h39 =>
 tR (b_ne v38 (pi 0) h39) fun v40 h41 =>
 ifR v40 (.ret (T10 v38) h41) (x (T90 x10 x11 x12 x13) h41)))) (y0 r) (y6 r) (y7 r) (y8 r)
def k109_2 : KF := fun c i x r h => (fun (x4 x5 x6 x7 : AV) =>
 tR (b_lt x7 x6 h) fun v8 h9 =>
 ifR v8 (x (T90 x4 x5 x6 x7) h9) (.ex 0 T8 h9)) (y0 r) (y6 r) (y7 r) (y8 r)
def k109_1 : KF := fun c i x r h => (fun (x1 : AV) =>
 tR (len x1 h) fun v2 h3 =>
 x (T90 x1 x1 v2 (pi 0)) h3) (y0 r)
def k109_5 : KF := fun c i x r h => .ret (T10 (pi 0)) h
def k109_0 : KF := fun c i x r h => (fun (x0 : AV) =>
 x (T0 x0) h) (y0 r)
def x109 : AC := (.shal k109_0 (.seq (.shal k109_1 (.block 0 (.loop (.shal k109_2 (.shal k109_3 (.shal k109_4 .skip)))))) (.shal k109_5 .skip)))
def z109 : List Rs := [.t .h0 .h2]
def f109 : AF := .mk x109 z109
def k110_3 : KF := fun c i x r h => (fun (x11 x12 x13 x14 : AV) =>
 tR (ix 3 x12 x14 h) fun v15 h16 =>
 tR (o_ldn 3 (.c v15) .nil h16) fun v17 h18 =>
 tR (o_alloc 114 3 (.k1 (.mk (.str []) .nils .nils .undef .undef .undef .undef .undef .undef .undef .undef .undef .undef .undef .undef .undef)) .nil h18) fun v19 h20 =>
 tR (o_stn 3 (.c v19) (.c v17) .nil h20) fun v21 h22 =>
 x (T92 x11 v19 x12 x13 x14) h22) (y3 r) (y6 r) (y7 r) (y8 r)
def k110_4 : KF := fun c i x r h => (fun (x23 x24 x25 x26 : AV) =>
 tR (b_add x26 (pi 1) h) fun v27 h28 =>
 .nm (T91 x23 x24 x25 v27) h28) (y3 r) (y6 r) (y7 r) (y8 r)
def k110_2 : KF := fun c i x r h => (fun (x5 x6 x7 x8 : AV) =>
 tR (b_lt x8 x7 h) fun v9 h10 =>
 ifR v9 (x (T91 x5 x6 x7 x8) h10) (.ex 0 (T31 x5) h10)) (y3 r) (y6 r) (y7 r) (y8 r)
def k110_1 : KF := fun c i x r h => (fun (x1 x2 : AV) =>
 tR (len x1 h) fun v3 h4 =>
 x (T91 x2 x1 v3 (pi 0)) h4) (y0 r) (y3 r)
def k110_5 : KF := fun c i x r h => (fun (x29 : AV) =>
 .ret (T10 x29) h) (y3 r)
def k110_0 : KF := fun c i x r h => (fun (x0 : AV) =>
 x (T9 x0 .nils) h) (y0 r)
def x110 : AC := (.shal k110_0 (.seq (.shal k110_1 (.block 0 (.loop (.shal k110_2 (.seq (.block 1 (.shal k110_3 (.drw [q 0 (o d15 (.fad 1 r5)),
 q 0 (o d16 (.ld1 r15)),
 w (.o d17 (.call 75 [r16])),
 q 1 (o d13 (.fad 0 r5)),
 q 1 (o d14 (.ld1 r13)),
 q 0 (o d18 (.build [(.str []),.nils] [.mk 0 1 r14,.mk 1 1 r17])),
 w (o d19 (.bslice 123 2 1 [(.str []),.nils] [.mk 0 2 r18])),
 q 2 (m d12 r3),
 w (o d20 (.app 123 2 r12 r19)),
 q 0 (m d3 r20)]))) (.shal k110_4 .skip)))))) (.shal k110_5 .skip)))
def z110 : List Rs := [.t .h0 .h2]
def f110 : AF := .mk x110 z110
def k111_0 : KF := fun c i x r h => (fun (x0 : AV) =>
 x (T0 x0) h) (y0 r)
def x111 : AC := (.shal k111_0 (.seq (.ops [m d3 r0,
 .o d4 (.call 107 [r3]),
 m d5 r4,
 .g .h0 .h5 true d6 (.op (.mv r0)),
 .g .h0 .h5 true d7 (.call 112 [r6,(.c (.fn 161 []))]),
 .g .h0 .h5 true d8 (.op (.un .not r7)),
 o d9 (.pick r5 r8 (.c (.bool false))),
 m d2 r9]) .ret))
def z111 : List Rs := [.t .h0 .h2]
def f111 : AF := .mk x111 z111
def k112_0 : KF := fun c i x r h => (fun (x0 x1 : AV) =>
 tT (c 162 [x0,x1] h) fun v2 h3 =>
 tR (b_ge v2 (pi 0) h3) fun v4 h5 =>
 .ret (T21 v4) h5) (y0 r) (y1 r)
def x112 : AC := (.shal k112_0 .skip)
def z112 : List Rs := [.t .h0 .h4]
def f112 : AF := .mk x112 z112
def k126_1 : KF := fun c i x r h => (fun (x1 x2 : AV) =>
 ifR x2 (.ret (T10 (.bool false)) h) (.nm (T0 x1) h)) (y0 r) (y14 r)
def k126_5 : KF := fun c i x r h => (fun (x14 x15 x16 x17 : AV) =>
 ifR x17 (.ret (T10 (.bool false)) h) (.nm (T93 x14 x15 x16) h)) (y0 r) (y16 r) (y17 r) (y29 r)
def k126_4 : KF := fun c i x r h => (fun (x11 x12 x13 : AV) =>
 x (T94 x11 x13 x12 x13) h) (y0 r) (y16 r) (y17 r)
def k126_6 : KF := fun c i x r h => (fun (x18 x19 x20 : AV) =>
 tR (b_add x20 (pi 1) h) fun v21 h22 =>
 .nm (T93 x18 x19 v21) h22) (y0 r) (y16 r) (y17 r)
def k126_3 : KF := fun c i x r h => (fun (x6 x7 x8 : AV) =>
 tR (b_lt x8 x7 h) fun v9 h10 =>
 ifR v9 (x (T93 x6 x7 x8) h10) (.ex 0 T8 h10)) (y0 r) (y16 r) (y17 r)
def k126_2 : KF := fun c i x r h => (fun (x3 : AV) =>
 tR (lent x3 h) fun v4 h5 =>
 x (T93 x3 v4 (pi 0)) h5) (y0 r)
def k126_7 : KF := fun c i x r h => .ret (T10 (.bool true)) h
def k126_0 : KF := fun c i x r h => (fun (x0 : AV) =>
 x (T0 x0) h) (y0 r)
def x126 : AC := (.shal k126_0 (.seq (.seq (.ops [m d4 r0,
 o d5 (.bin .seq r4 (.c (.str []))),
 m d6 r5,
 .g .h0 .h6 false d7 (.op (.mv r0)),
 .g .h0 .h6 false d8 (.op (.lent r7)),
 .g .h0 .h6 false d9 (.op (.bin .gt r8 (.c (pi 12)))),
 o d10 (.pick r6 (.c (.bool true)) r9),
 m d11 r10,
 .g .h0 .hb false d12 (.op (.mv r0)),
 .g .h0 .hb false d13 (.call 198 [r12]),
 o d14 (.pick r11 (.c (.bool true)) r13)]) (.shal k126_1 .skip)) (.seq (.shal k126_2 (.block 0 (.loop (.shal k126_3 (.seq (.block 1 (.shal k126_4 (.seq (.ops [m d20 r0,
 m d21 r3,
 o d22 (.idxs r20 r21),
 o d23 (.bin .lt r22 (.c (.int .u8 (.ofNat 97)))),
 m d24 r23,
 .g .h1 .h8 false d25 (.op (.mv r0)),
 .g .h1 .h8 false d26 (.op (.mv r3)),
 .g .h1 .h8 false d27 (.op (.idxs r25 r26)),
 .g .h1 .h8 false d28 (.op (.bin .gt r27 (.c (.int .u8 (.ofNat 122))))),
 o d29 (.pick r24 (.c (.bool true)) r28)]) (.shal k126_5 .skip)))) (.shal k126_6 .skip)))))) (.shal k126_7 .skip))))
def z126 : List Rs := [.t .h0 .h2]
def f126 : AF := .mk x126 z126
def k127_0 : KF := fun c i x r h => (fun (x0 x1 : AV) =>
 tR (o_box 9 (.c x1) .nil h) fun v2 h3 =>
 tT (c 199 [x0,(.fn 200 [v2])] h3) fun v4 h5 =>
 tR (maxV false [v4,(pi 0)] h5) fun v6 h7 =>
 tR (b_ge v4 (pi 0) h7) fun v8 h9 =>
 .ret (T49 v6 v8) h9) (y0 r) (y1 r)
def x127 : AC := (.shal k127_0 .skip)
def z127 : List Rs := [.t .h0 .h4,.t .h0 .h5]
def f127 : AF := .mk x127 z127
def k128_5 : KF := fun c i x r h => (fun (x70 x71 x72 x73 x74 x75 x76 x77 x78 x79 : AV) =>
 ifR x79 (tT (c 206 [x70,x71,x72,x74] h) fun v80 h81 =>
 ifR v80 (.ret T8 h81) (.nm (T98 x70 x71 x72 x73 x74 x75 x76 x77 x78) h81)) (.nm (T98 x70 x71 x72 x73 x74 x75 x76 x77 x78) h)) (y0 r) (y1 r) (y2 r) (y3 r) (y4 r) (y10 r) (y11 r) (y12 r) (y13 r) (y75 r)
def k128_6 : KF := fun c i x r h => (fun (x82 x83 x84 x85 x86 x87 x88 x89 x90 x91 : AV) =>
 ifR x91 (tT (c 207 [x82,x83,x84,x90,x86] h) fun v92 h93 =>
 .ex 1 (T98 x82 v92 x84 x85 x86 x87 x88 x89 x90) h93) (.nm (T98 x82 x83 x84 x85 x86 x87 x88 x89 x90) h)) (y0 r) (y1 r) (y2 r) (y3 r) (y4 r) (y10 r) (y11 r) (y12 r) (y13 r) (y97 r)
def k128_9 : KF := fun c i x r h => (fun (x125 x126 x127 x128 x129 x130 x131 x132 x133 x134 x135 : AV) =>
 ifR x135 (tR (b_ge x132 x134 h) fun v136 h137 =>
 tT (c 128 [x125,x126,x131,x128,x129] h137) fun v138 h139 =>
 tR (b_add x131 (pi 1) h139) fun v140 h141 =>
 .nm (T95 x125 v140 x127 x128 x129 v136 x130) h141) (tR (b_ge x133 x134 h) fun v142 h143 =>
 tR (b_add x131 (pi 1) h143) fun v144 h145 =>
 tT (c 128 [x125,v144,x127,x128,x129] h145) fun v146 h147 =>
 .nm (T95 x125 x126 x131 x128 x129 v142 x130) h147)) (y0 r) (y1 r) (y2 r) (y3 r) (y4 r) (y11 r) (y16 r) (y18 r) (y19 r) (y20 r) (y125 r)
def k128_8 : KF := fun c i x r h => (fun (x113 x114 x115 x116 x117 x118 x119 x120 x121 x122 : AV) =>
 tR (b_lt x120 x121 h) fun v123 h124 =>
 x (T100 x113 x114 x115 x116 x117 x118 x119 x120 x121 x122 v123) h124) (y0 r) (y1 r) (y2 r) (y3 r) (y4 r) (y11 r) (y16 r) (y18 r) (y19 r) (y20 r)
def k128_7 : KF := fun c i x r h => (fun (x94 x95 x96 x97 x98 x99 x100 : AV) =>
 tT (c 208 [x94,x95,x96,x100,x98] h) fun v101 h102 =>
 tR (o_ext 0 (.c v101) .nil h102) fun v103 h104 =>
 tR (o_ext 1 (.c v101) .nil h104) fun v105 h106 =>
 tR (b_sub v103 x95 h106) fun v107 h108 =>
 tR (b_sub x96 v103 h108) fun v109 h110 =>
 tR (b_quo x99 (pi 8) h110) fun v111 h112 =>
 x (T99 x94 x95 x96 x97 x98 v105 v103 v107 v109 v111) h112) (y0 r) (y1 r) (y2 r) (y3 r) (y4 r) (y12 r) (y13 r)
def k128_4 : KF := fun c i x r h => (fun (x50 x51 x52 x53 x54 x55 x56 x57 x58 x59 : AV) =>
 tR (b_eq x59 (pi 2) h) fun v60 h61 =>
 ifR v60 (tT (c 205 [x50,x51,x52,x54] h61) fun v62 h63 =>
 tR (b_sub x52 (pi 1) h63) fun v64 h65 =>
 tR (b_sub x58 x51 h65) fun v66 h67 =>
 tR (b_sub v64 v66 h67) fun v68 h69 =>
 x (T97 x50 x51 x52 x53 x54 x55 x56 x57 v68 (pi 1)) h69) (x (T97 x50 x51 x52 x53 x54 x55 x56 x57 x58 x59) h61)) (y0 r) (y1 r) (y2 r) (y3 r) (y4 r) (y10 r) (y11 r) (y12 r) (y13 r) (y14 r)
def k128_3 : KF := fun c i x r h => (fun (x36 x37 x38 x39 x40 x41 x42 x43 : AV) =>
 tT (c 204 [x36,x37,x38,x40] h) fun v44 h45 =>
 tR (o_ext 0 (.c v44) .nil h45) fun v46 h47 =>
 tR (o_ext 1 (.c v44) .nil h47) fun v48 h49 =>
 x (T97 x36 x37 x38 x39 x40 x41 x42 x43 v46 v48) h49) (y0 r) (y1 r) (y2 r) (y3 r) (y4 r) (y10 r) (y11 r) (y12 r)
def k128_2 : KF := fun c i x r h => (fun (x22 x23 x24 x25 x26 x27 x28 x29 : AV) =>
 tR (u_not x27 h) fun v30 h31 =>
 ifR v30 (tT (c 203 [x22,x23,x24,x26] h31) fun v32 h33 =>
 tR (b_sub x25 (pi 1) h33) fun v34 h35 =>
 x (T96 x22 x23 x24 v34 x26 x27 x28 x29) h35) (x (T96 x22 x23 x24 x25 x26 x27 x28 x29) h31)) (y0 r) (y1 r) (y2 r) (y3 r) (y4 r) (y10 r) (y11 r) (y12 r)
def k128_1 : KF := fun c i x r h => (fun (x5 x6 x7 x8 x9 x10 x11 : AV) =>
 tR (b_sub x7 x6 h) fun v12 h13 =>
 tR (b_le v12 (pi 12) h13) fun v14 h15 =>
 ifR v14 (tT (c 201 [x5,x6,x7,x9] h15) fun v16 h17 =>
 .ret T8 h17) (tR (b_eq x8 (pi 0) h15) fun v18 h19 =>
 ifR v18 (tT (c 202 [x5,x6,x7,x9] h19) fun v20 h21 =>
 .ret T8 h21) (x (T96 x5 x6 x7 x8 x9 x10 x11 v12) h19))) (y0 r) (y1 r) (y2 r) (y3 r) (y4 r) (y10 r) (y11 r)
def k128_0 : KF := fun c i x r h => (fun (x0 x1 x2 x3 x4 : AV) =>
 x (T95 x0 x1 x2 x3 x4 (.bool true) (.bool true)) h) (y0 r) (y1 r) (y2 r) (y3 r) (y4 r)
def x128 : AC := (.shal k128_0 (.block 0 (.loop (.block 1 (.shal k128_1 (.shal k128_2 (.shal k128_3 (.shal k128_4 (.seq (.seq (.ops [m d68 r10,
 m d69 r68,
 .g .h4 .h5 true d70 (.op (.mv r11)),
 o d71 (.pick r69 r70 (.c (.bool false))),
 m d72 r71,
 .g .h4 .h8 true d73 (.op (.mv r14)),
 .g .h4 .h8 true d74 (.op (.bin .eq r73 (.c (pi 1)))),
 o d75 (.pick r72 r74 (.c (.bool false)))]) (.shal k128_5 .skip)) (.seq (.seq (.drw [q 0 (m d81 r1),
 q 0 (o d82 (.bin .gt r81 (.c (pi 0)))),
 q 0 (m d83 r82),
 q 0 (.g .h5 .h3 true d84 (.op (.mv r4))),
 q 0 (.g .h5 .h3 true d85 (.op (.mv r0))),
 q 0 (.g .h5 .h3 true d86 (.op (.mv r1))),
 q 0 (.g .h5 .h3 true d87 (.op (.bin .sub r86 (.c (pi 1))))),
 q 0 (.g .h5 .h3 true d88 (.op (.ixs 2 r85 r87))),
 q 0 (.g .h5 .h3 true d89 (.op (.ldn 2 r88))),
 q 0 (.g .h5 .h3 true d90 (.op (.mv r0))),
 q 0 (.g .h5 .h3 true d91 (.op (.mv r13))),
 q 0 (.g .h5 .h3 true d92 (.op (.ixs 2 r90 r91))),
 q 0 (.g .h5 .h3 true d93 (.op (.ldn 2 r92))),
 w (.g .h5 .h3 true d94 (.calld r84 [r89,r93])),
 q 0 (.g .h5 .h3 true d95 (.op (.bin .lt r94 (.c (pi 0))))),
 q 0 (.g .h5 .h3 true d96 (.op (.un .not r95))),
 q 0 (o d97 (.pick r83 r96 (.c (.bool false))))]) (.shal k128_6 .skip)) (.shal k128_7 (.shal k128_8 (.shal k128_9 .skip)))))))))))))
def z128 : List Rs := []
def f128 : AF := .mk x128 z128
def k129_0 : KF := fun c i x r h => (fun (x0 : AV) =>
 ifR (.bool false) (tR (cK (.toInt .u32) x0 h) fun v1 h2 =>
 tT (c 209 [v1] h2) fun v3 h4 =>
 .ret (T10 v3) h4) (tT (c 210 [x0] h) fun v5 h6 =>
 .ret (T10 v5) h6)) (y0 r)
def x129 : AC := (.shal k129_0 .skip)
def z129 : List Rs := [.t .h0 .h2]
def f129 : AF := .mk x129 z129
def k133_2 : KF := fun c i x r h => (fun (x6 x7 x8 x9 : AV) =>
 tR (b_lt x9 x8 h) fun v10 h11 =>
 ifR v10 (tR (ix 2 x6 x9 h11) fun v12 h13 =>
 tR (o_ldn 2 (.c v12) .nil h13) fun v14 h15 =>
 tT (AV.onFn x7 (fun f l => c f (List.append [v14] l) h15) (.err 202)) fun v16 h17 =>
 ifR v16 (.ret (T21 x9) h17) (tR (b_add x9 (pi 1) h17) fun v18 h19 =>
 .nm (T83 x6 x7 x8 v18) h19)) (.ex 0 (T83 x6 x7 x8 x9) h11)) (y0 r) (y1 r) (y7 r) (y8 r)
def k133_1 : KF := fun c i x r h => (fun (x2 x3 : AV) =>
 tR (len x2 h) fun v4 h5 =>
 x (T83 x2 x3 v4 (pi 0)) h5) (y0 r) (y1 r)
def k133_3 : KF := fun c i x r h => .ret (T21 (ni 0)) h
def k133_0 : KF := fun c i x r h => (fun (x0 x1 : AV) =>
 x (T34 x0 x1) h) (y0 r) (y1 r)
def x133 : AC := (.shal k133_0 (.seq (.shal k133_1 (.block 0 (.loop (.shal k133_2 .skip)))) (.shal k133_3 .skip)))
def z133 : List Rs := [.t .h0 .h4]
def f133 : AF := .mk x133 z133
def k137_2 : KF := fun c i x r h => (fun (x6 x7 x8 x9 : AV) =>
 tR (b_lt x9 x8 h) fun v10 h11 =>
 ifR v10 (tR (ix 11 x6 x9 h11) fun v12 h13 =>
 tR (o_ldn 11 (.c v12) .nil h13) fun v14 h15 =>
 tT (AV.onFn x7 (fun f l => c f (List.append [v14] l) h15) (.err 202)) fun v16 h17 =>
 ifR v16 (.ret (T21 x9) h17) (tR (b_add x9 (pi 1) h17) fun v18 h19 =>
 .nm (T83 x6 x7 x8 v18) h19)) (.ex 0 (T83 x6 x7 x8 x9) h11)) (y0 r) (y1 r) (y7 r) (y8 r)
def k137_1 : KF := fun c i x r h => (fun (x2 x3 : AV) =>
 tR (len x2 h) fun v4 h5 =>
 x (T83 x2 x3 v4 (pi 0)) h5) (y0 r) (y1 r)
def k137_3 : KF := fun c i x r h => .ret (T21 (ni 0)) h
def k137_0 : KF := fun c i x r h => (fun (x0 x1 : AV) =>
 x (T34 x0 x1) h) (y0 r) (y1 r)
def x137 : AC := (.shal k137_0 (.seq (.shal k137_1 (.block 0 (.loop (.shal k137_2 .skip)))) (.shal k137_3 .skip)))
def z137 : List Rs := [.t .h0 .h4]
def f137 : AF := .mk x137 z137
def k159_0 : KF := fun c i x r h => (fun (x0 x1 : AV) =>
 tT (c 133 [x0,x1] h) fun v2 h3 =>
 tR (b_ge v2 (pi 0) h3) fun v4 h5 =>
 .ret (T21 v4) h5) (y0 r) (y1 r)
def x159 : AC := (.shal k159_0 .skip)
def z159 : List Rs := [.t .h0 .h4]
def f159 : AF := .mk x159 z159
def k162_2 : KF := fun c i x r h => (fun (x6 x7 x8 x9 : AV) =>
 tR (b_lt x9 x8 h) fun v10 h11 =>
 ifR v10 (tR (ix 2 x6 x9 h11) fun v12 h13 =>
 tR (o_ldn 2 (.c v12) .nil h13) fun v14 h15 =>
 tT (AV.onFn x7 (fun f l => c f (List.append [v14] l) h15) (.err 202)) fun v16 h17 =>
 ifR v16 (.ret (T21 x9) h17) (tR (b_add x9 (pi 1) h17) fun v18 h19 =>
 .nm (T83 x6 x7 x8 v18) h19)) (.ex 0 (T83 x6 x7 x8 x9) h11)) (y0 r) (y1 r) (y7 r) (y8 r)
def k162_1 : KF := fun c i x r h => (fun (x2 x3 : AV) =>
 tR (len x2 h) fun v4 h5 =>
 x (T83 x2 x3 v4 (pi 0)) h5) (y0 r) (y1 r)
def k162_3 : KF := fun c i x r h => .ret (T21 (ni 0)) h
def k162_0 : KF := fun c i x r h => (fun (x0 x1 : AV) =>
 x (T34 x0 x1) h) (y0 r) (y1 r)
def x162 : AC := (.shal k162_0 (.seq (.shal k162_1 (.block 0 (.loop (.shal k162_2 .skip)))) (.shal k162_3 .skip)))
def z162 : List Rs := [.t .h0 .h4]
def f162 : AF := .mk x162 z162
def k198_3 : KF := fun c i x r h => (fun (x49 : AV) =>
 ifR x49 (.ret (T10 (.bool true)) h) (.nm T8 h)) (y4 r)
def k198_2 : KF := fun c i x r h => (fun (x2 : AV) =>
 tR (b_seq x2 (.str [116,97,98,108,101]) h) fun v3 h4 =>
 ifR v3 (x (T21 v3) h4) (tR (b_seq x2 (.str [102,105,108,116,101,114]) h4) fun v5 h6 =>
 ifR v5 (x (T21 v5) h6) (tR (b_seq x2 (.str [112,114,111,106,101,99,116]) h6) fun v7 h8 =>
 ifR v7 (x (T21 v7) h8) (tR (b_seq x2 (.str [106,111,105,110]) h8) fun v9 h10 =>
 ifR v9 (x (T21 v9) h10) (tR (b_seq x2 (.str [117,110,105,111,110]) h10) fun v11 h12 =>
 ifR v11 (x (T21 v11) h12) (tR (b_seq x2 (.str [100,105,115,116,105,110,99,116]) h12) fun v13 h14 =>
 ifR v13 (x (T21 v13) h14) (tR (b_seq x2 (.str [103,114,111,117,112]) h14) fun v15 h16 =>
 ifR v15 (x (T21 v15) h16) (tR (b_seq x2 (.str [99,111,117,110,116]) h16) fun v17 h18 =>
 ifR v17 (x (T21 v17) h18) (tR (b_seq x2 (.str [115,117,109]) h18) fun v19 h20 =>
 ifR v19 (x (T21 v19) h20) (tR (b_seq x2 (.str [109,105,110]) h20) fun v21 h22 =>
 ifR v21 (x (T21 v21) h22) (tR (b_seq x2 (.str [109,97,120]) h22) fun v23 h24 =>
 ifR v23 (x (T21 v23) h24) (tR (b_seq x2 (.str [97,100,100]) h24) fun v25 h26 =>
 ifR v25 (x (T21 v25) h26) (tR (b_seq x2 (.str [115,117,98]) h26) fun v27 h28 =>
 ifR v27 (x (T21 v27) h28) (tR (b_seq x2 (.str [109,117,108]) h28) fun v29 h30 =>
 ifR v29 (x (T21 v29) h30) (tR (b_seq x2 (.str [110,101,103]) h30) fun v31 h32 =>
 ifR v31 (x (T21 v31) h32) (tR (b_seq x2 (.str [101,113]) h32) fun v33 h34 =>
 ifR v33 (x (T21 v33) h34) (tR (b_seq x2 (.str [108,116]) h34) fun v35 h36 =>
 ifR v35 (x (T21 v35) h36) (tR (b_seq x2 (.str [97,110,100]) h36) fun v37 h38 =>
 ifR v37 (x (T21 v37) h38) (tR (b_seq x2 (.str [111,114]) h38) fun v39 h40 =>
 ifR v39 (x (T21 v39) h40) (tR (b_seq x2 (.str [110,111,116]) h40) fun v41 h42 =>
 ifR v41 (x (T21 v41) h42) (tR (b_seq x2 (.str [99,97,116]) h42) fun v43 h44 =>
 ifR v43 (x (T21 v43) h44) (tR (b_seq x2 (.str [108,101,110]) h44) fun v45 h46 =>
 ifR v45 (x (T21 v45) h46) (tR (b_seq x2 (.str [105,102]) h46) fun v47 h48 =>
 x (T21 v47) h48))))))))))))))))))))))) (y3 r)
def k198_1 : KF := fun c i x r h => (fun (x1 : AV) =>
 x (T31 x1) h) (y0 r)
def k198_4 : KF := fun c i x r h => .ret (T10 (.bool false)) h
def k198_0 : KF := fun c i x r h => (fun (x0 : AV) =>
 x (T0 x0) h) (y0 r)
def x198 : AC := (.shal k198_0 (.seq (.shal k198_1 (.block 0 (.shal k198_2 (.shal k198_3 .skip)))) (.shal k198_4 .skip)))
def z198 : List Rs := [.t .h0 .h2]
def f198 : AF := .mk x198 z198
def k199_2 : KF := fun c i x r h => (fun (x6 x7 x8 x9 : AV) =>
 tR (b_lt x9 x8 h) fun v10 h11 =>
 ifR v10 (tR (ix 2 x6 x9 h11) fun v12 h13 =>
 tR (o_ldn 2 (.c v12) .nil h13) fun v14 h15 =>
 tT (AV.onFn x7 (fun f l => c f (List.append [v14] l) h15) (.err 202)) fun v16 h17 =>
 ifR v16 (.ret (T21 x9) h17) (tR (b_add x9 (pi 1) h17) fun v18 h19 =>
 .nm (T83 x6 x7 x8 v18) h19)) (.ex 0 (T83 x6 x7 x8 x9) h11)) (y0 r) (y1 r) (y7 r) (y8 r)
def k199_1 : KF := fun c i x r h => (fun (x2 x3 : AV) =>
 tR (len x2 h) fun v4 h5 =>
 x (T83 x2 x3 v4 (pi 0)) h5) (y0 r) (y1 r)
def k199_3 : KF := fun c i x r h => .ret (T21 (ni 0)) h
def k199_0 : KF := fun c i x r h => (fun (x0 x1 : AV) =>
 x (T34 x0 x1) h) (y0 r) (y1 r)
def x199 : AC := (.shal k199_0 (.seq (.shal k199_1 (.block 0 (.loop (.shal k199_2 .skip)))) (.shal k199_3 .skip)))
def z199 : List Rs := [.t .h0 .h4]
def f199 : AF := .mk x199 z199
def k200_0 : KF := fun c i x r h => (fun (x0 x1 : AV) =>
 tR (o_box 71 (.c x0) .nil h) fun v2 h3 =>
 tR (fa 0 v2 h3) fun v4 h5 =>
 tR (ld v4 h5) fun v6 h7 =>
 tR (ld x1 h7) fun v8 h9 =>
 tR (b_seq v6 v8 h9) fun v10 h11 =>
 .ret (T31 v10) h11) (y0 r) (y1 r)
def x200 : AC := (.shal k200_0 .skip)
def z200 : List Rs := [.t .h0 .h3]
def f200 : AF := .mk x200 z200
def k201_3 : KF := fun c i x r h => (fun (x18 x19 x20 x21 x22 x23 x24 : AV) =>
 ifR x24 (.nm (T102 x18 x19 x20 x21 x22 x23) h) (.ex 2 (T102 x18 x19 x20 x21 x22 x23) h)) (y0 r) (y1 r) (y2 r) (y3 r) (y8 r) (y9 r) (y34 r)
def k201_4 : KF := fun c i x r h => (fun (x25 x26 x27 x28 x29 x30 : AV) =>
 tR (b_sub x30 (pi 1) h) fun v31 h32 =>
 .nm (T102 x25 x26 x27 x28 x29 v31) h32) (y0 r) (y1 r) (y2 r) (y3 r) (y8 r) (y9 r)
def k201_2 : KF := fun c i x r h => (fun (x13 x14 x15 x16 x17 : AV) =>
 x (T102 x13 x14 x15 x16 x17 x17) h) (y0 r) (y1 r) (y2 r) (y3 r) (y8 r)
def k201_5 : KF := fun c i x r h => (fun (x33 x34 x35 x36 x37 : AV) =>
 tR (b_add x37 (pi 1) h) fun v38 h39 =>
 .nm (T101 x33 x34 x35 x36 v38) h39) (y0 r) (y1 r) (y2 r) (y3 r) (y8 r)
def k201_1 : KF := fun c i x r h => (fun (x6 x7 x8 x9 x10 : AV) =>
 tR (b_lt x10 x8 h) fun v11 h12 =>
 ifR v11 (x (T101 x6 x7 x8 x9 x10) h12) (.ex 0 T8 h12)) (y0 r) (y1 r) (y2 r) (y3 r) (y8 r)
def k201_0 : KF := fun c i x r h => (fun (x0 x1 x2 x3 : AV) =>
 tR (b_add x1 (pi 1) h) fun v4 h5 =>
 x (T101 x0 x1 x2 x3 v4) h5) (y0 r) (y1 r) (y2 r) (y3 r)
def x201 : AC := (.shal k201_0 (.block 0 (.loop (.shal k201_1 (.seq (.block 1 (.shal k201_2 (.block 2 (.loop (.seq (.seq (.drw [q 0 (m d18 r9),
 q 0 (m d19 r1),
 q 0 (o d20 (.bin .gt r18 r19)),
 q 0 (m d21 r20),
 q 0 (.g .h1 .h5 true d22 (.op (.mv r3))),
 q 0 (.g .h1 .h5 true d23 (.op (.mv r0))),
 q 0 (.g .h1 .h5 true d24 (.op (.mv r9))),
 q 0 (.g .h1 .h5 true d25 (.op (.ixs 2 r23 r24))),
 q 0 (.g .h1 .h5 true d26 (.op (.ldn 2 r25))),
 q 0 (.g .h1 .h5 true d27 (.op (.mv r0))),
 q 0 (.g .h1 .h5 true d28 (.op (.mv r9))),
 q 0 (.g .h1 .h5 true d29 (.op (.bin .sub r28 (.c (pi 1))))),
 q 0 (.g .h1 .h5 true d30 (.op (.ixs 2 r27 r29))),
 q 0 (.g .h1 .h5 true d31 (.op (.ldn 2 r30))),
 w (.g .h1 .h5 true d32 (.calld r22 [r26,r31])),
 q 0 (.g .h1 .h5 true d33 (.op (.bin .lt r32 (.c (pi 0))))),
 q 0 (o d34 (.pick r21 r33 (.c (.bool false))))]) (.shal k201_3 .skip)) (.seq (.block 3 (.drw [q 0 (m d37 r0),
 q 0 (m d38 r9),
 q 0 (m d42 r0),
 q 0 (m d43 r9),
 q 0 (o d44 (.bin .sub r43 (.c (pi 1)))),
 q 0 (o d45 (.ixs 2 r42 r44)),
 q 0 (o d46 (.ldn 2 r45)),
 q 0 (m d47 r0),
 q 0 (m d48 r9),
 q 0 (o d49 (.ixs 2 r47 r48)),
 q 0 (o d50 (.ldn 2 r49)),
 q 0 (o d51 (.ixs 2 r37 r38)),
 w (o .no (.stn 2 r51 r46)),
 q 1 (m d39 r0),
 q 1 (m d40 r9),
 q 1 (o d41 (.bin .sub r40 (.c (pi 1)))),
 q 0 (o d52 (.ixs 2 r39 r41)),
 w (o .no (.stn 2 r52 r50))])) (.shal k201_4 .skip))))))) (.shal k201_5 .skip))))))
def z201 : List Rs := []
def f201 : AF := .mk x201 z201
def k210_2 : KF := fun c i x r h => (fun (x13 x14 : AV) =>
 tR (b_ge x13 (.int .u64 (.ofNat 256)) h) fun v15 h16 =>
 ifR v15 (tR (bK .shr x13 (.int .u64 (.ofNat 8)) h16) fun v17 h18 =>
 tR (b_add x14 (pi 8) h18) fun v19 h20 =>
 tR (cK (.toInt .u8) v17 h20) fun v21 h22 =>
 tR (o_idxs (.c (.str [0,1,2,2,3,3,3,3,4,4,4,4,4,4,4,4,5,5,5,5,5,5,5,5,5,5,5,5,5,5,5,5,6,6,6,6,6,6,6,6,6,6,6,6,6,6,6,6,6,6,6,6,6,6,6,6,6,6,6,6,6,6,6,6,7,7,7,7,7,7,7,7,7,7,7,7,7,7,7,7,7,7,7,7,7,7,7,7,7,7,7,7,7,7,7,7,7,7,7,7,7,7,7,7,7,7,7,7,7,7,7,7,7,7,7,7,7,7,7,7,7,7,7,7,7,7,7,7,8,8,8,8,8,8,8,8,8,8,8,8,8,8,8,8,8,8,8,8,8,8,8,8,8,8,8,8,8,8,8,8,8,8,8,8,8,8,8,8,8,8,8,8,8,8,8,8,8,8,8,8,8,8,8,8,8,8,8,8,8,8,8,8,8,8,8,8,8,8,8,8,8,8,8,8,8,8,8,8,8,8,8,8,8,8,8,8,8,8,8,8,8,8,8,8,8,8,8,8,8,8,8,8,8,8,8,8,8,8,8,8,8,8,8,8,8,8,8,8,8,8,8,8,8,8,8,8])) (.c v21) .nil h22) fun v23 h24 =>
 tR (cK (.toInt .i64) v23 h24) fun v25 h26 =>
 tR (b_add v19 v25 h26) fun v27 h28 =>
 x (T10 v27) h28) (tR (cK (.toInt .u8) x13 h16) fun v29 h30 =>
 tR (o_idxs (.c (.str [0,1,2,2,3,3,3,3,4,4,4,4,4,4,4,4,5,5,5,5,5,5,5,5,5,5,5,5,5,5,5,5,6,6,6,6,6,6,6,6,6,6,6,6,6,6,6,6,6,6,6,6,6,6,6,6,6,6,6,6,6,6,6,6,7,7,7,7,7,7,7,7,7,7,7,7,7,7,7,7,7,7,7,7,7,7,7,7,7,7,7,7,7,7,7,7,7,7,7,7,7,7,7,7,7,7,7,7,7,7,7,7,7,7,7,7,7,7,7,7,7,7,7,7,7,7,7,7,8,8,8,8,8,8,8,8,8,8,8,8,8,8,8,8,8,8,8,8,8,8,8,8,8,8,8,8,8,8,8,8,8,8,8,8,8,8,8,8,8,8,8,8,8,8,8,8,8,8,8,8,8,8,8,8,8,8,8,8,8,8,8,8,8,8,8,8,8,8,8,8,8,8,8,8,8,8,8,8,8,8,8,8,8,8,8,8,8,8,8,8,8,8,8,8,8,8,8,8,8,8,8,8,8,8,8,8,8,8,8,8,8,8,8,8,8,8,8,8,8,8,8,8,8,8,8,8])) (.c v29) .nil h30) fun v31 h32 =>
 tR (cK (.toInt .i64) v31 h32) fun v33 h34 =>
 tR (b_add x14 v33 h34) fun v35 h36 =>
 x (T10 v35) h36)) (y0 r) (y2 r)
def k210_1 : KF := fun c i x r h => (fun (x5 x6 : AV) =>
 tR (b_ge x5 (.int .u64 (.ofNat 65536)) h) fun v7 h8 =>
 ifR v7 (tR (bK .shr x5 (.int .u64 (.ofNat 16)) h8) fun v9 h10 =>
 tR (b_add x6 (pi 16) h10) fun v11 h12 =>
 x (T103 v9 v11) h12) (x (T103 x5 x6) h8)) (y0 r) (y2 r)
def k210_0 : KF := fun c i x r h => (fun (x0 : AV) =>
 tR (b_ge x0 (.int .u64 (.ofNat 4294967296)) h) fun v1 h2 =>
 ifR v1 (tR (bK .shr x0 (.int .u64 (.ofNat 32)) h2) fun v3 h4 =>
 x (T103 v3 (pi 32)) h4) (x (T103 x0 (pi 0)) h2)) (y0 r)
def x210 : AC := (.shal k210_0 (.shal k210_1 (.shal k210_2 .ret)))
def z210 : List Rs := [.t .h0 .h2]
def f210 : AF := .mk x210 z210
def row0 : F1 := (.mk .none .none .none f3 f4 f5 f6 f7 f8 f9 f10 f11 f12 f13 f14 f15)
def row1 : F1 := (.mk f16 f17 f18 f19 f20 f21 f22 f23 f24 f25 f26 f27 f28 f29 f30 .none)
def row2 : F1 := (.mk f32 f33 f34 f35 f36 f37 f38 f39 f40 f41 f42 f43 f44 .none f46 f47)
def row3 : F1 := (.mk f48 f49 f50 f51 f52 f53 f54 f55 f56 f57 f58 .none f60 f61 .none .none)
def row4 : F1 := (.mk .none .none .none .none .none f69 f70 f71 f72 f73 .none f75 .none .none f78 .none)
def row5 : F1 := (.mk f80 f81 f82 f83 .none .none f86 .none f88 f89 .none .none .none f93 .none .none)
def row6 : F1 := (.mk .none .none .none .none .none .none .none .none .none .none .none f107 .none f109 f110 f111)
def row7 : F1 := (.mk f112 .none .none .none .none .none .none .none .none .none .none .none .none .none f126 f127)
def row8 : F1 := (.mk f128 f129 .none .none .none f133 .none .none .none f137 .none .none .none .none .none .none)
def row9 : F1 := (.mk .none .none .none .none .none .none .none .none .none .none .none .none .none .none .none f159)
def row10 : F1 := (.mk .none .none f162 .none .none .none .none .none .none .none .none .none .none .none .none .none)
def row12 : F1 := (.mk .none .none .none .none .none .none f198 f199 f200 f201 .none .none .none .none .none .none)
def row13 : F1 := (.mk .none .none f210 .none .none .none .none .none .none .none .none .none .none .none .none .none)
def page0 : F2 := .mk row0 row1 row2 row3 row4 row5 row6 row7 row8 row9 row10 .nil row12 row13 .nil .nil
def pg : Pg := .mk (.mk page0 .nil .nil .nil .nil .nil .nil .nil .nil .nil .nil .nil .nil .nil .nil .nil) []
end
end Go.Am.Seat
