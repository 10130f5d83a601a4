/- The same code in a form that runs faster, written by program. Nothing is asked. -/
import Derived.Test.YtlbakkmjljnbdaaGreatDoorHead
set_option linter.all false
namespace Go.Am.Seat
set_option linter.unusedVariables false
set_option maxRecDepth 20000
noncomputable section
def T0 (v2 v4 v6 : AV) : A2 := N0 (.mk u u v2 u v4 u v6 u u u u u u u u u)
def T1 (v2 v4 v6 v8 v10 : AV) : A2 := N0 (.mk u u v2 u v4 u v6 u v8 u v10 u u u u u)
def T2 (v2 v4 v6 v8 v10 v11 v12 v13 v14 v15 : AV) : A2 := N0 (.mk u u v2 u v4 u v6 u v8 u v10 v11 v12 v13 v14 v15)
def T3 (v2 v4 v6 v8 v10 v11 v12 v13 v14 v15 v16 : AV) : A2 := N1 (.mk u u v2 u v4 u v6 u v8 u v10 v11 v12 v13 v14 v15) (.mk v16 u u u u u u u u u u u u u u u)
def T4 (v2 v3 : AV) : A2 := N0 (.mk u u v2 v3 u u u u u u u u u u u u)
def T5 (v0 : AV) : A2 := N0 (.mk v0 u u u u u u u u u u u u u u u)
def T6 (v0 v15 v16 v17 : AV) : A2 := N1 (.mk v0 u u u u u u u u u u u u u u v15) (.mk v16 v17 u u u u u u u u u u u u u u)
def T7 (v0 v6 : AV) : A2 := N0 (.mk v0 u u u u u v6 u u u u u u u u u)
def T8 (v6 v26 v27 v28 : AV) : A2 := N1 (.mk u u u u u u v6 u u u u u u u u u) (.mk u u u u u u u u u u v26 v27 v28 u u u)
def T9 (v6 : AV) : A2 := N0 (.mk u u u u u u v6 u u u u u u u u u)
def T10 (v6 v8 v26 v27 v28 : AV) : A2 := N1 (.mk u u u u u u v6 u v8 u u u u u u u) (.mk u u u u u u u u u u v26 v27 v28 u u u)
def T11 (v6 v8 v26 v27 v28 v36 v37 v38 : AV) : A2 := N2 (.mk u u u u u u v6 u v8 u u u u u u u) (.mk u u u u u u u u u u v26 v27 v28 u u u) (.mk u u u u v36 v37 v38 u u u u u u u u u)
def T12 (v3 v4 : AV) : A2 := N0 (.mk u u u v3 v4 u u u u u u u u u u u)
def T13 (v3 v4 v5 : AV) : A2 := N0 (.mk u u u v3 v4 v5 u u u u u u u u u u)
def T14 (v2 : AV) : A2 := N0 (.mk u u v2 u u u u u u u u u u u u u)
def T15 (v4 : AV) : A2 := N0 (.mk u u u u v4 u u u u u u u u u u u)
def T16 (v1 v4 v5 v7 : AV) : A2 := N0 (.mk u v1 u u v4 v5 u v7 u u u u u u u u)
def T17 (v1 v4 v5 v7 v8 : AV) : A2 := N0 (.mk u v1 u u v4 v5 u v7 v8 u u u u u u u)
def T18 (v4 v5 v7 : AV) : A2 := N0 (.mk u u u u v4 v5 u v7 u u u u u u u u)
def T19 (v0 v3 : AV) : A2 := N0 (.mk v0 u u v3 u u u u u u u u u u u u)
def T20 (v0 v3 v4 : AV) : A2 := N0 (.mk v0 u u v3 v4 u u u u u u u u u u u)
def T21 (v3 : AV) : A2 := N0 (.mk u u u v3 u u u u u u u u u u u u)
def T22 (v0 v3 v4 v5 : AV) : A2 := N0 (.mk v0 u u v3 v4 v5 u u u u u u u u u u)
def T23 (v3 v6 v7 v8 : AV) : A2 := N0 (.mk u u u v3 u u v6 v7 v8 u u u u u u u)
def T24 (v1 : AV) : A2 := N0 (.mk u v1 u u u u u u u u u u u u u u)
def T25 (v1 v5 v6 v7 : AV) : A2 := N0 (.mk u v1 u u u v5 v6 v7 u u u u u u u u)
def T26 (v1 v4 v5 v6 v7 : AV) : A2 := N0 (.mk u v1 u u v4 v5 v6 v7 u u u u u u u u)
def T27 : A2 := .nil
def T28 (v1 v3 : AV) : A2 := N0 (.mk u v1 u v3 u u u u u u u u u u u u)
def T29 (v1 v3 v41 v42 v43 : AV) : A2 := N2 (.mk u v1 u v3 u u u u u u u u u u u u) .nil (.mk u u u u u u u u u v41 v42 v43 u u u u)
def T30 (v3 v62 v63 v64 : AV) : A2 := N4 (.mk u u u v3 u u u u u u u u u u u u) .nil .nil (.mk u u u u u u u u u u u u u u v62 v63) (.mk v64 u u u u u u u u u u u u u u u)
def T31 (v3 v7 v62 v63 v64 : AV) : A2 := N4 (.mk u u u v3 u u u v7 u u u u u u u u) .nil .nil (.mk u u u u u u u u u u u u u u v62 v63) (.mk v64 u u u u u u u u u u u u u u u)
def T32 (v3 v7 v62 v63 v64 v78 v79 v80 : AV) : A2 := N5 (.mk u u u v3 u u u v7 u u u u u u u u) .nil .nil (.mk u u u u u u u u u u u u u u v62 v63) (.mk v64 u u u u u u u u u u u u u v78 v79) (.mk v80 u u u u u u u u u u u u u u u)
def T33 (v6 v21 v22 : AV) : A2 := N1 (.mk u u u u u u v6 u u u u u u u u u) (.mk u u u u u v21 v22 u u u u u u u u u)
def T34 (v3 v9 v10 : AV) : A2 := N0 (.mk u u u v3 u u u u u v9 v10 u u u u u)
def T35 (v1 v5 : AV) : A2 := N0 (.mk u v1 u u u v5 u u u u u u u u u u)
def T36 (v1 v5 v6 : AV) : A2 := N0 (.mk u v1 u u u v5 v6 u u u u u u u u u)
def T37 (v4 v5 : AV) : A2 := N0 (.mk u u u u v4 v5 u u u u u u u u u u)
def T38 (v0 v28 v29 v30 : AV) : A2 := N1 (.mk v0 u u u u u u u u u u u u u u u) (.mk u u u u u u u u u u u u v28 v29 v30 u)
def T39 (v0 v5 v6 v28 v29 v30 : AV) : A2 := N1 (.mk v0 u u u u v5 v6 u u u u u u u u u) (.mk u u u u u u u u u u u u v28 v29 v30 u)
def T40 (v0 v5 v6 v28 v29 v30 v35 v36 v37 : AV) : A2 := N2 (.mk v0 u u u u v5 v6 u u u u u u u u u) (.mk u u u u u u u u u u u u v28 v29 v30 u) (.mk u u u v35 v36 v37 u u u u u u u u u u)
def T41 (v1 v38 v39 v40 : AV) : A2 := N2 (.mk u v1 u u u u u u u u u u u u u u) .nil (.mk u u u u u u v38 v39 v40 u u u u u u u)
def T42 (v1 v4 v38 v39 v40 : AV) : A2 := N2 (.mk u v1 u u v4 u u u u u u u u u u u) .nil (.mk u u u u u u v38 v39 v40 u u u u u u u)
def T43 (v58 v59 v60 : AV) : A2 := N3 .nil .nil .nil (.mk u u u u u u u u u u v58 v59 v60 u u u)
def T44 (v6 v58 v59 v60 : AV) : A2 := N3 (.mk u u u u u u v6 u u u u u u u u u) .nil .nil (.mk u u u u u u u u u u v58 v59 v60 u u u)
def T45 (v0 v1 v6 : AV) : A2 := N0 (.mk v0 v1 u u u u v6 u u u u u u u u u)
def T46 (v0 v1 : AV) : A2 := N0 (.mk v0 v1 u u u u u u u u u u u u u u)
def T47 (v5 v6 v7 : AV) : A2 := N0 (.mk u u u u u v5 v6 v7 u u u u u u u u)
def T48 (v4 v5 v6 v7 : AV) : A2 := N0 (.mk u u u u v4 v5 v6 v7 u u u u u u u u)
def T49 (v19 : AV) : A2 := N1 .nil (.mk u u u v19 u u u u u u u u u u u u)
def T50 (v1 v10 : AV) : A2 := N0 (.mk u v1 u u u u u u u u v10 u u u u u)
def T51 (v1 v10 v11 : AV) : A2 := N0 (.mk u v1 u u u u u u u u v10 v11 u u u u)
def T52 (v1 v16 : AV) : A2 := N1 (.mk u v1 u u u u u u u u u u u u u u) (.mk v16 u u u u u u u u u u u u u u u)
def T53 (v1 v3 v21 v22 : AV) : A2 := N1 (.mk u v1 u v3 u u u u u u u u u u u u) (.mk u u u u u v21 v22 u u u u u u u u u)
def T54 (v1 v3 v5 v21 v22 : AV) : A2 := N1 (.mk u v1 u v3 u v5 u u u u u u u u u u) (.mk u u u u u v21 v22 u u u u u u u u u)
def T55 (v0 v1 v5 : AV) : A2 := N0 (.mk v0 v1 u u u v5 u u u u u u u u u u)
def T56 (v0 v1 v5 v22 : AV) : A2 := N1 (.mk v0 v1 u u u v5 u u u u u u u u u u) (.mk u u u u u u v22 u u u u u u u u u)
def T57 (v0 v1 v5 v29 : AV) : A2 := N1 (.mk v0 v1 u u u v5 u u u u u u u u u u) (.mk u u u u u u u u u u u u u v29 u u)
def T58 (v0 v1 v5 v39 v40 v41 : AV) : A2 := N2 (.mk v0 v1 u u u v5 u u u u u u u u u u) .nil (.mk u u u u u u u v39 v40 v41 u u u u u u)
def T59 (v0 v1 v5 v7 v39 v40 v41 : AV) : A2 := N2 (.mk v0 v1 u u u v5 u v7 u u u u u u u u) .nil (.mk u u u u u u u v39 v40 v41 u u u u u u)
def T60 (v0 v1 v5 v7 v39 v40 v41 v49 : AV) : A2 := N3 (.mk v0 v1 u u u v5 u v7 u u u u u u u u) .nil (.mk u u u u u u u v39 v40 v41 u u u u u u) (.mk u v49 u u u u u u u u u u u u u u)
def T61 (v0 v1 v8 : AV) : A2 := N0 (.mk v0 v1 u u u u u u v8 u u u u u u u)
def T62 (v1 v8 v63 v64 v65 : AV) : A2 := N4 (.mk u v1 u u u u u u v8 u u u u u u u) .nil .nil (.mk u u u u u u u u u u u u u u u v63) (.mk v64 v65 u u u u u u u u u u u u u u)
def T63 (v0 v5 : AV) : A2 := N0 (.mk v0 u u u u v5 u u u u u u u u u u)
def T64 (v5 v12 v13 : AV) : A2 := N0 (.mk u u u u u v5 u u u u u u v12 v13 u u)
def T65 (v5 : AV) : A2 := N0 (.mk u u u u u v5 u u u u u u u u u u)
def T66 (v5 v6 v12 v13 : AV) : A2 := N0 (.mk u u u u u v5 v6 u u u u u v12 v13 u u)
def T67 (v5 v34 v35 v36 : AV) : A2 := N2 (.mk u u u u u v5 u u u u u u u u u u) .nil (.mk u u v34 v35 v36 u u u u u u u u u u u)
def T68 (v0 v1 v11 : AV) : A2 := N0 (.mk v0 v1 u u u u u u u u u v11 u u u u)
def T69 (v0 v5 v6 v7 : AV) : A2 := N0 (.mk v0 u u u u v5 v6 v7 u u u u u u u u)
def T70 (v1 v4 : AV) : A2 := N0 (.mk u v1 u u v4 u u u u u u u u u u u)
def T71 (v1 v4 v5 : AV) : A2 := N0 (.mk u v1 u u v4 v5 u u u u u u u u u u)
def T72 (v0 v1 v7 : AV) : A2 := N0 (.mk v0 v1 u u u u u v7 u u u u u u u u)
def T73 (v2 v3 v4 : AV) : A2 := N0 (.mk u u v2 v3 v4 u u u u u u u u u u u)
def T74 (v0 v4 : AV) : A2 := N0 (.mk v0 u u u v4 u u u u u u u u u u u)
def T75 (v0 v81 v82 v83 : AV) : A2 := N5 (.mk v0 u u u u u u u u u u u u u u u) .nil .nil .nil .nil (.mk u v81 v82 v83 u u u u u u u u u u u u)
def T76 (v0 v1 v4 : AV) : A2 := N0 (.mk v0 v1 u u v4 u u u u u u u u u u u)
def T77 (v0 v1 v4 v6 v8 v9 : AV) : A2 := N0 (.mk v0 v1 u u v4 u v6 u v8 v9 u u u u u u)
def T78 (v0 v1 v4 v8 v9 v10 v11 : AV) : A2 := N0 (.mk v0 v1 u u v4 u u u v8 v9 v10 v11 u u u u)
def T79 (v0 v4 v12 : AV) : A2 := N0 (.mk v0 u u u v4 u u u u u u u v12 u u u)
def T80 (v0 v4 v12 v99 : AV) : A2 := N6 (.mk v0 u u u v4 u u u u u u u v12 u u u) .nil .nil .nil .nil .nil (.mk u u u v99 u u u u u u u u u u u u)
def T81 (v0 v4 v12 v139 : AV) : A2 := N8 (.mk v0 u u u v4 u u u u u u u v12 u u u) .nil .nil .nil .nil .nil .nil .nil (.mk u u u u u u u u u u u v139 u u u u)
def T82 (v0 v4 v5 : AV) : A2 := N0 (.mk v0 u u u v4 v5 u u u u u u u u u u)
def T83 (v0 v4 v5 v6 : AV) : A2 := N0 (.mk v0 u u u v4 v5 v6 u u u u u u u u u)
def T84 (v1 v2 : AV) : A2 := N0 (.mk u v1 v2 u u u u u u u u u u u u u)
def T85 (v1 v2 v29 v30 v31 : AV) : A2 := N1 (.mk u v1 v2 u u u u u u u u u u u u u) (.mk u u u u u u u u u u u u u v29 v30 v31)
def T86 (v1 v2 v50 v51 v52 : AV) : A2 := N3 (.mk u v1 v2 u u u u u u u u u u u u u) .nil .nil (.mk u u v50 v51 v52 u u u u u u u u u u u)
def T87 (v1 v2 v6 v7 v50 v51 v52 : AV) : A2 := N3 (.mk u v1 v2 u u u v6 v7 u u u u u u u u) .nil .nil (.mk u u v50 v51 v52 u u u u u u u u u u u)
def T88 (v0 v2 v14 v15 v16 : AV) : A2 := N1 (.mk v0 u v2 u u u u u u u u u u u v14 v15) (.mk v16 u u u u u u u u u u u u u u u)
def T89 (v0 v2 : AV) : A2 := N0 (.mk v0 u v2 u u u u u u u u u u u u u)
def T90 (v0 v5 v6 : AV) : A2 := N0 (.mk v0 u u u u v5 v6 u u u u u u u u u)
def T91 (v3 v7 v8 v9 : AV) : A2 := N0 (.mk u u u v3 u u u v7 v8 v9 u u u u u u)
def T92 (v3 v7 v8 v9 v17 : AV) : A2 := N1 (.mk u u u v3 u u u v7 v8 v9 u u u u u u) (.mk u v17 u u u u u u u u u u u u u u)
def f93 : AF := .ext .noesc
def f175 : AF := .ext (.mknz 5)
def f301 : AF := .ext .trunc
def k3_3 : KF := fun c i x r h => (fun (x0 x1 x2 x3 x4 x5 x6 x7 x8 x9 : AV) =>
 tR (o_build [(pi 0),(pi 0),(pi 0),(pi 0),(pi 0),(pi 0),(.str []),(pi 0),(pi 0),(pi 0),(.str []),(.str []),.nils,.nils,(pi 0),(pi 0),(.str []),.nils] [.mk 0 1 (.c (pi 1)),.mk 1 1 (.c (pi 2))] .nil h) fun v10 h11 =>
 tR (o_build [(pi 0),(pi 0),(pi 0),(pi 0),(pi 0),(pi 0),(.str []),(pi 0),(pi 0),(pi 0),(.str []),(.str []),.nils,.nils,(pi 0),(pi 0),(.str []),.nils] [.mk 0 1 (.c (pi 3)),.mk 1 1 (.c (ni 6))] .nil h11) fun v12 h13 =>
 tR (o_build [(pi 0),(pi 0),(.str [])] [.mk 0 1 (.c (pi 26)),.mk 1 1 (.c (pi 1)),.mk 2 1 (.c (.str [118]))] .nil h13) fun v14 h15 =>
 tR (o_build [(pi 0),(pi 0),(pi 0),(pi 0),(pi 0),(pi 0),(.str []),(pi 0),(pi 0),(pi 0),(.str []),(.str []),.nils,.nils,(pi 0),(pi 0),(.str []),.nils] [.mk 0 1 (.c (pi 2)),.mk 14 3 (.c v14)] .nil h15) fun v16 h17 =>
 tR (o_bslice 2 1 2 [(pi 0),(pi 0)] [.mk 0 1 (.c (pi 1)),.mk 1 1 (.c (ni 1))] .nil h17) fun v18 h19 =>
 tT (c 8 [v18] h19) fun v20 h21 =>
 tR (o_build [.nils,(.cplx .f64 0 0)] [.mk 0 1 (.c v20),.mk 1 1 (.c (.cplx .f64 4613937818241073152 0))] .nil h21) fun v22 h23 =>
 tT (c 9 [(.str [97,32,98])] h23) fun v24 h25 =>
 tR (o_bslice 53 3 1 [(pi 0),(pi 0),(.str [])] [.mk 0 3 (.c v24)] .nil h25) fun v26 h27 =>
 tR (o_build [.nils,(.cplx .f64 0 0)] [.mk 0 1 (.c v26),.mk 1 1 (.c (.cplx .f64 0 4611686018427387904))] .nil h27) fun v28 h29 =>
 tR (o_bslice 51 2 2 [.nils,(.cplx .f64 0 0),.nils,(.cplx .f64 0 0)] [.mk 0 2 (.c v22),.mk 2 2 (.c v28)] .nil h29) fun v30 h31 =>
 tR (o_build [(pi 0),(pi 0),(pi 0),(pi 0),(pi 0),(pi 0),(.str []),(pi 0),(pi 0),(pi 0),(.str []),(.str []),.nils,.nils,(pi 0),(pi 0),(.str []),.nils] [.mk 0 1 (.c (pi 2)),.mk 17 1 (.c v30)] .nil h31) fun v32 h33 =>
 tR (o_build [(pi 0),(pi 0),(pi 0),(pi 0),(pi 0),(pi 0),(.str []),(pi 0),(pi 0),(pi 0),(.str []),(.str []),.nils,.nils,(pi 0),(pi 0),(.str []),.nils] [] .nil h33) fun v34 h35 =>
 tR (o_bslice 45 18 5 [(pi 0),(pi 0),(pi 0),(pi 0),(pi 0),(pi 0),(.str []),(pi 0),(pi 0),(pi 0),(.str []),(.str []),.nils,.nils,(pi 0),(pi 0),(.str []),.nils,(pi 0),(pi 0),(pi 0),(pi 0),(pi 0),(pi 0),(.str []),(pi 0),(pi 0),(pi 0),(.str []),(.str []),.nils,.nils,(pi 0),(pi 0),(.str []),.nils,(pi 0),(pi 0),(pi 0),(pi 0),(pi 0),(pi 0),(.str []),(pi 0),(pi 0),(pi 0),(.str []),(.str []),.nils,.nils,(pi 0),(pi 0),(.str []),.nils,(pi 0),(pi 0),(pi 0),(pi 0),(pi 0),(pi 0),(.str []),(pi 0),(pi 0),(pi 0),(.str []),(.str []),.nils,.nils,(pi 0),(pi 0),(.str []),.nils,(pi 0),(pi 0),(pi 0),(pi 0),(pi 0),(pi 0),(.str []),(pi 0),(pi 0),(pi 0),(.str []),(.str []),.nils,.nils,(pi 0),(pi 0),(.str []),.nils] [.mk 0 18 (.c v10),.mk 18 18 (.c v12),.mk 36 18 (.c v16),.mk 54 18 (.c v32),.mk 72 18 (.c v34)] .nil h35) fun v36 h37 =>
 x (T3 x0 x1 x2 x3 x4 x5 x6 x7 x8 x9 v36) h37) (y2 r) (y4 r) (y6 r) (y8 r) (y10 r) (y11 r) (y12 r) (y13 r) (y14 r) (y15 r)
def k3_2 : KF := fun c i x r h => (fun (x0 x1 x2 x3 x4 : AV) =>
 tR (o_build [(pi 0),(pi 0),(pi 0),(pi 0),(.str []),(pi 0),(pi 0),(pi 0),(.str []),(.str []),.nils,.nils] [.mk 0 1 (.c (pi 6)),.mk 3 1 (.c (ni 0)),.mk 2 1 (.c (pi 2))] .nil h) fun v5 h6 =>
 tR (o_bslice 32 12 1 [(pi 0),(pi 0),(pi 0),(pi 0),(.str []),(pi 0),(pi 0),(pi 0),(.str []),(.str []),.nils,.nils] [.mk 0 12 (.c v5)] .nil h6) fun v7 h8 =>
 tT (c 4 [v7] h8) fun v9 h10 =>
 tR (o_ext 0 (.c v9) .nil h10) fun v11 h12 =>
 tR (o_ext 1 (.c v9) .nil h12) fun v13 h14 =>
 tR (o_bslice 5 1 3 [(.int .u8 (.ofNat 0)),(.int .u8 (.ofNat 0)),(.int .u8 (.ofNat 0))] [.mk 0 1 (.c (.int .u8 (.ofNat 0))),.mk 1 1 (.c (.int .u8 (.ofNat 77))),.mk 2 1 (.c (.int .u8 (.ofNat 255)))] .nil h14) fun v15 h16 =>
 tT (c 5 [v15] h16) fun v17 h18 =>
 tT (c 6 [(pi 0),.nils] h18) fun v19 h20 =>
 tR (o_alloc 37 3 (.k1 (.mk (pi 0) .nils .nils .undef .undef .undef .undef .undef .undef .undef .undef .undef .undef .undef .undef .undef)) .nil h20) fun v21 h22 =>
 tR (o_stn 3 (.c v21) (.c v19) .nil h22) fun v23 h24 =>
 tR (o_bslice 5 1 2 [(.int .u8 (.ofNat 0)),(.int .u8 (.ofNat 0))] [.mk 0 1 (.c (.int .u8 (.ofNat 0))),.mk 1 1 (.c (.int .u8 (.ofNat 0)))] .nil h24) fun v25 h26 =>
 tT (c 7 [(pi 1),v25] h26) fun v27 h28 =>
 tR (o_alloc 37 3 (.k1 (.mk (pi 0) .nils .nils .undef .undef .undef .undef .undef .undef .undef .undef .undef .undef .undef .undef .undef)) .nil h28) fun v29 h30 =>
 tR (o_stn 3 (.c v29) (.c v27) .nil h30) fun v31 h32 =>
 x (T2 x0 x1 x2 x3 x4 v11 v13 v17 v21 v29) h32) (y2 r) (y4 r) (y6 r) (y8 r) (y10 r)
def k3_1 : KF := fun c i x r h => (fun (x0 x1 x2 : AV) =>
 tR (o_mkslice 5 [(.int .u8 (.ofNat 0))] (.c (pi 256)) (.c (pi 256)) .nil h) fun v3 h4 =>
 tR (cK .b2s v3 h4) fun v5 h6 =>
 tR (o_build [(pi 0),(pi 0),(pi 0),(pi 0),(.str []),(pi 0),(pi 0),(pi 0),(.str []),(.str []),.nils,.nils] [.mk 0 1 (.c (pi 2)),.mk 4 1 (.c v5)] .nil h6) fun v7 h8 =>
 tR (o_bslice 32 12 1 [(pi 0),(pi 0),(pi 0),(pi 0),(.str []),(pi 0),(pi 0),(pi 0),(.str []),(.str []),.nils,.nils] [.mk 0 12 (.c v7)] .nil h8) fun v9 h10 =>
 tT (c 4 [v9] h10) fun v11 h12 =>
 tR (o_ext 0 (.c v11) .nil h12) fun v13 h14 =>
 tR (o_ext 1 (.c v11) .nil h14) fun v15 h16 =>
 tR (o_build [(pi 0),(pi 0),(pi 0),(.str []),(.str []),.nils,.nils] [.mk 2 1 (.c (pi 2147483648))] .nil h16) fun v17 h18 =>
 tR (o_build [(pi 0),(pi 0),(pi 0),(pi 0),(.str []),(pi 0),(pi 0),(pi 0),(.str []),(.str []),.nils,.nils] [.mk 0 1 (.c (pi 1)),.mk 5 7 (.c v17)] .nil h18) fun v19 h20 =>
 tR (o_bslice 32 12 1 [(pi 0),(pi 0),(pi 0),(pi 0),(.str []),(pi 0),(pi 0),(pi 0),(.str []),(.str []),.nils,.nils] [.mk 0 12 (.c v19)] .nil h20) fun v21 h22 =>
 tT (c 4 [v21] h22) fun v23 h24 =>
 tR (o_ext 0 (.c v23) .nil h24) fun v25 h26 =>
 tR (o_ext 1 (.c v23) .nil h26) fun v27 h28 =>
 x (T1 x0 x1 x2 v15 v27) h28) (y2 r) (y4 r) (y6 r)
def k3_0 : KF := fun c i x r h => tR (o_mkslice 32 [(pi 0),(pi 0),(pi 0),(pi 0),(.str []),(pi 0),(pi 0),(pi 0),(.str []),(.str []),.nils,.nils] (.c (pi 2049)) (.c (pi 2049)) .nil h) fun v0 h1 =>
 tT (c 4 [v0] h1) fun v2 h3 =>
 tR (o_ext 0 (.c v2) .nil h3) fun v4 h5 =>
 tR (o_ext 1 (.c v2) .nil h5) fun v6 h7 =>
 tR (o_build [(pi 0),(pi 0),(pi 0),(pi 0),(.str []),(pi 0),(pi 0),(pi 0),(.str []),(.str []),.nils,.nils] [] .nil h7) fun v8 h9 =>
 tR (o_bslice 32 12 1 [(pi 0),(pi 0),(pi 0),(pi 0),(.str []),(pi 0),(pi 0),(pi 0),(.str []),(.str []),.nils,.nils] [.mk 0 12 (.c v8)] .nil h9) fun v10 h11 =>
 tT (c 4 [v10] h11) fun v12 h13 =>
 tR (o_ext 0 (.c v12) .nil h13) fun v14 h15 =>
 tR (o_ext 1 (.c v12) .nil h15) fun v16 h17 =>
 tR (o_build [(pi 0),(pi 0),(pi 0),(pi 0),(.str []),(pi 0),(pi 0),(pi 0),(.str []),(.str []),.nils,.nils] [.mk 0 1 (.c (pi 1)),.mk 3 1 (.c (pi 2147483648))] .nil h17) fun v18 h19 =>
 tR (o_bslice 32 12 1 [(pi 0),(pi 0),(pi 0),(pi 0),(.str []),(pi 0),(pi 0),(pi 0),(.str []),(.str []),.nils,.nils] [.mk 0 12 (.c v18)] .nil h19) fun v20 h21 =>
 tT (c 4 [v20] h21) fun v22 h23 =>
 tR (o_ext 0 (.c v22) .nil h23) fun v24 h25 =>
 tR (o_ext 1 (.c v22) .nil h25) fun v26 h27 =>
 x (T0 v6 v16 v26) h27
def x3 : AC := (.shal k3_0 (.shal k3_1 (.shal k3_2 (.shal k3_3 (.seq (.drw [q 0 (m d74 r2),
 q 0 (o d75 (.bin .eq r74 (.c (pi 4)))),
 q 0 (m d76 r75),
 q 0 (.g .h4 .hc true d77 (.op (.mv r4))),
 q 0 (.g .h4 .hc true d78 (.op (.bin .eq r77 a1))),
 q 0 (o d79 (.pick r76 r78 (.c (.bool false)))),
 q 0 (m d80 r79),
 q 0 (.g .h5 .h0 true d81 (.op (.mv r6))),
 q 0 (.g .h5 .h0 true d82 (.op (.bin .eq r81 a1))),
 q 0 (o d83 (.pick r80 r82 (.c (.bool false)))),
 q 0 (m d84 r83),
 q 0 (.g .h5 .h4 true d85 (.op (.mv r8))),
 q 0 (.g .h5 .h4 true d86 (.op (.bin .eq r85 a1))),
 q 0 (o d87 (.pick r84 r86 (.c (.bool false)))),
 q 0 (m d88 r87),
 q 0 (.g .h5 .h8 true d89 (.op (.mv r10))),
 q 0 (.g .h5 .h8 true d90 (.op (.bin .eq r89 a1))),
 q 0 (o d91 (.pick r88 r90 (.c (.bool false)))),
 q 0 (m d92 r91),
 q 0 (.g .h5 .hc true d93 (.op (.mv r12))),
 q 0 (.g .h5 .hc true d94 (.op (.bin .eq r93 a0))),
 q 0 (o d95 (.pick r92 r94 (.c (.bool false)))),
 q 0 (m d96 r95),
 q 0 (.g .h6 .h0 true d99 (.op (.build [(pi 0),(pi 0),(pi 0),(pi 0),(.str []),(pi 0),(pi 0),(pi 0),(.str []),(.str []),.nils,.nils] [.mk 0 1 (.c (pi 6)),.mk 3 1 (.c (ni 0)),.mk 2 1 a2]))),
 w (.g .h6 .h0 true d100 (.op (.bslice 32 12 1 [(pi 0),(pi 0),(pi 0),(pi 0),(.str []),(pi 0),(pi 0),(pi 0),(.str []),(.str []),.nils,.nils] [.mk 0 12 r99]))),
 w (.g .h6 .h0 true d101 (.call 10 [r100])),
 q 2 (.g .h6 .h0 true d97 (.op (.mv r11))),
 q 2 (.g .h6 .h0 true d98 (.op (.conv .b2s r97))),
 q 0 (.g .h6 .h0 true d102 (.op (.conv .b2s r101))),
 q 0 (.g .h6 .h0 true d103 (.op (.bin .seq r98 r102))),
 q 0 (o d104 (.pick r96 r103 (.c (.bool false)))),
 q 0 (m d105 r104),
 q 0 (.g .h6 .h9 true d106 (.op (.mv r13))),
 q 0 (.g .h6 .h9 true d107 (.op (.len r106))),
 q 0 (.g .h6 .h9 true d108 (.op (.bin .eq r107 a0))),
 q 0 (o d109 (.pick r105 r108 (.c (.bool false)))),
 q 0 (m d110 r109),
 q 0 (.g .h6 .he true d111 (.op (.fad 0 r14))),
 q 0 (.g .h6 .he true d112 (.op (.ld1 r111))),
 q 0 (.g .h6 .he true d113 (.op (.bin .eq r112 a1))),
 q 0 (o d114 (.pick r110 r113 (.c (.bool false)))),
 q 0 (m d115 r114),
 q 0 (.g .h7 .h3 true d116 (.op (.fad 0 r15))),
 q 0 (.g .h7 .h3 true d117 (.op (.ld1 r116))),
 q 0 (.g .h7 .h3 true d118 (.op (.bin .eq r117 a0))),
 q 0 (o d119 (.pick r115 r118 (.c (.bool false)))),
 q 0 (m d120 r119),
 q 0 (.g .h7 .h8 true d121 (.op (.mv r16))),
 w (.g .h7 .h8 true d122 (.call 11 [r121])),
 q 0 (.g .h7 .h8 true d123 (.op (.bin .seq r122 (.c (.str [99,97,108,108,32,50,10,98,117,115,121,32,45,55,10,100,111,110,101,32,48,32,50,54,32,49,32,118,10,100,111,110,101,32,48,32,48,32,48,32,32,91,49,32,45,50,93,42,51,32,91,34,97,32,98,34,93,42,45,50,10]))))),
 q 0 (o d124 (.pick r120 r123 (.c (.bool false)))),
 q 0 (m d125 r124),
 w (.g .h7 .hd true d126 (.call 12 [])),
 q 0 (o d127 (.pick r125 r126 (.c (.bool false)))),
 q 0 (m d0 r127)]) .ret)))))
def z3 : List Rs := [.t .h0 .h0]
def f3 : AF := .mk x3 z3
def k4_2 : KF := fun c i x r h => (fun (x0 x1 x2 x3 : AV) =>
 tR (b_lt x3 x2 h) fun v4 h5 =>
 ifR v4 (tR (ix 12 x1 x3 h5) fun v6 h7 =>
 tR (o_ldn 12 (.c v6) .nil h7) fun v8 h9 =>
 tR (o_alloc 32 12 (.k1 (.mk (pi 0) (pi 0) (pi 0) (pi 0) (.str []) (pi 0) (pi 0) (pi 0) (.str []) (.str []) .nils .nils .undef .undef .undef .undef)) .nil h9) fun v10 h11 =>
 tR (o_stn 12 (.c v10) (.c v8) .nil h11) fun v12 h13 =>
 tR (o_ldn 12 (.c v10) .nil h13) fun v14 h15 =>
 tT (c 13 [v14] h15) fun v16 h17 =>
 tR (u_not v16 h17) fun v18 h19 =>
 ifR v18 (.ret (T4 .nils (pi 1)) h19) (tR (b_add x3 (pi 1) h19) fun v20 h21 =>
 .nm (T6 x0 x1 x2 v20) h21)) (.ex 0 (T6 x0 x1 x2 x3) h5)) (y0 r) (y15 r) (y16 r) (y17 r)
def k4_1 : KF := fun c i x r h => (fun (x0 : AV) =>
 tR (len x0 h) fun v1 h2 =>
 x (T6 x0 x0 v1 (pi 0)) h2) (y0 r)
def k4_8 : KF := fun c i x r h => (fun (x0 x1 x2 x3 x4 x5 x6 x7 : AV) =>
 tR (b_lt x7 x6 h) fun v8 h9 =>
 ifR v8 (tR (ix 1 x5 x7 h9) fun v10 h11 =>
 tR (ld v10 h11) fun v12 h13 =>
 tR (nic v12 h13) fun v14 h15 =>
 tR (ld v14 h15) fun v16 h17 =>
 tT (c 17 [x0,v16] h17) fun v18 h19 =>
 tR (b_add x7 (pi 1) h19) fun v20 h21 =>
 .nm (T11 x0 x1 x2 x3 x4 x5 x6 v20) h21) (.ex 4 (T11 x0 x1 x2 x3 x4 x5 x6 x7) h9)) (y6 r) (y8 r) (y26 r) (y27 r) (y28 r) (y36 r) (y37 r) (y38 r)
def k4_7 : KF := fun c i x r h => (fun (x0 x1 x2 x3 x4 : AV) =>
 tT (c 16 [x1] h) fun v5 h6 =>
 tR (len v5 h6) fun v7 h8 =>
 x (T11 x0 x1 x2 x3 x4 v5 v7 (pi 0)) h8) (y6 r) (y8 r) (y26 r) (y27 r) (y28 r)
def k4_9 : KF := fun c i x r h => (fun (x0 x1 x2 x3 x4 : AV) =>
 tR (fa 4 x1 h) fun v5 h6 =>
 tR (ld v5 h6) fun v7 h8 =>
 tT (c 18 [x0,v7] h8) fun v9 h10 =>
 tR (fa 5 x1 h10) fun v11 h12 =>
 tR (o_ldn 7 (.c v11) .nil h12) fun v13 h14 =>
 tT (c 19 [v13] h14) fun v15 h16 =>
 tR (len v15 h16) fun v17 h18 =>
 tR (b_gt v17 (pi 65535) h18) fun v19 h20 =>
 ifR v19 (.ret (T4 .nils (pi 3)) h20) (tR (cK .b2s v15 h20) fun v21 h22 =>
 tT (c 18 [x0,v21] h22) fun v23 h24 =>
 .nm (T8 x0 x2 x3 x4) h24)) (y6 r) (y8 r) (y26 r) (y27 r) (y28 r)
def k4_6 : KF := fun c i x r h => (fun (x0 x1 x2 x3 : AV) =>
 tR (ix 12 x1 x3 h) fun v4 h5 =>
 tR (o_ldn 12 (.c v4) .nil h5) fun v6 h7 =>
 tR (o_alloc 32 12 (.k1 (.mk (pi 0) (pi 0) (pi 0) (pi 0) (.str []) (pi 0) (pi 0) (pi 0) (.str []) (.str []) .nils .nils .undef .undef .undef .undef)) .nil h7) fun v8 h9 =>
 tR (o_stn 12 (.c v8) (.c v6) .nil h9) fun v10 h11 =>
 tR (fa 0 v8 h11) fun v12 h13 =>
 tR (ld v12 h13) fun v14 h15 =>
 tT (c 15 [x0,v14] h15) fun v16 h17 =>
 x (T10 x0 v8 x1 x2 x3) h17) (y6 r) (y26 r) (y27 r) (y28 r)
def k4_10 : KF := fun c i x r h => (fun (x0 x1 x2 x3 : AV) =>
 tR (b_add x3 (pi 1) h) fun v4 h5 =>
 .nm (T8 x0 x1 x2 v4) h5) (y6 r) (y26 r) (y27 r) (y28 r)
def k4_5 : KF := fun c i x r h => (fun (x0 x1 x2 x3 : AV) =>
 tR (b_lt x3 x2 h) fun v4 h5 =>
 ifR v4 (x (T8 x0 x1 x2 x3) h5) (.ex 2 (T9 x0) h5)) (y6 r) (y26 r) (y27 r) (y28 r)
def k4_4 : KF := fun c i x r h => (fun (x0 x1 : AV) =>
 tR (len x0 h) fun v2 h3 =>
 x (T8 x1 x0 v2 (pi 0)) h3) (y0 r) (y6 r)
def k4_11 : KF := fun c i x r h => (fun (x0 : AV) =>
 tT (c 20 [x0] h) fun v1 h2 =>
 .ret (T4 v1 (pi 0)) h2) (y6 r)
def k4_3 : KF := fun c i x r h => (fun (x0 : AV) =>
 tT (c 14 [] h) fun v1 h2 =>
 x (T7 x0 v1) h2) (y0 r)
def k4_0 : KF := fun c i x r h => (fun (x0 : AV) =>
 tR (len x0 h) fun v1 h2 =>
 tR (b_gt v1 (pi 2048) h2) fun v3 h4 =>
 ifR v3 (.ret (T4 .nils (pi 4)) h4) (x (T5 x0) h4)) (y0 r)
def x4 : AC := (.shal k4_0 (.seq (.shal k4_1 (.block 0 (.loop (.shal k4_2 .skip)))) (.shal k4_3 (.seq (.shal k4_4 (.block 2 (.loop (.shal k4_5 (.seq (.block 3 (.shal k4_6 (.seq (.shal k4_7 (.block 4 (.loop (.shal k4_8 .skip)))) (.shal k4_9 .skip)))) (.shal k4_10 .skip)))))) (.shal k4_11 .skip)))))
def z4 : List Rs := [.t .h0 .h2,.t .h0 .h3]
def f4 : AF := .mk x4 z4
def k5_3 : KF := fun c i x r h => (fun (x0 x1 x2 x3 : AV) =>
 ifR x3 (.go 0 (T13 x0 x1 x2) h) (.nm (T13 x0 x1 x2) h)) (y3 r) (y4 r) (y5 r) (y26 r)
def k5_4 : KF := fun c i x r h => (fun (x0 x1 x2 : AV) =>
 tT (c 24 [x0,x2] h) fun v3 h4 =>
 tR (u_not v3 h4) fun v5 h6 =>
 ifR v5 (.ret (T14 x1) h6) (tR (o_ldn 12 (.c x2) .nil h6) fun v7 h8 =>
 tR (o_bslice 32 12 1 [(pi 0),(pi 0),(pi 0),(pi 0),(.str []),(pi 0),(pi 0),(pi 0),(.str []),(.str []),.nils,.nils] [.mk 0 12 (.c v7)] .nil h8) fun v9 h10 =>
 tR (appV 32 12 x1 v9 h10) fun v11 h12 =>
 .go 0 (T12 x0 v11) h12)) (y3 r) (y4 r) (y5 r)
def k5_2 : KF := fun c i x r h => (fun (x0 x1 : AV) =>
 tT (c 23 [x0] h) fun v2 h3 =>
 tR (o_build [(pi 0),(pi 0),(pi 0),(pi 0),(.str []),(pi 0),(pi 0),(pi 0),(.str []),(.str []),.nils,.nils] [.mk 0 1 (.c v2)] .nil h3) fun v4 h5 =>
 tR (o_alloc 32 12 (.k1 (.mk (pi 0) (pi 0) (pi 0) (pi 0) (.str []) (pi 0) (pi 0) (pi 0) (.str []) (.str []) .nils .nils .undef .undef .undef .undef)) .nil h5) fun v6 h7 =>
 tR (o_stn 12 (.c v6) (.c v4) .nil h7) fun v8 h9 =>
 x (T13 x0 x1 v6) h9) (y3 r) (y4 r)
def k5_5 : KF := fun c i x r h => (fun (x0 : AV) =>
 .ret (T14 x0) h) (y4 r)
def k5_1 : KF := fun c i x r h => (fun (x0 : AV) =>
 tT (c 21 [x0] h) fun v1 h2 =>
 x (T12 v1 .nils) h2) (y0 r)
def k5_0 : KF := fun c i x r h => (fun (x0 : AV) =>
 x (T5 x0) h) (y0 r)
def x5 : AC := (.shal k5_0 (.scope (.shal k5_1 (.seq (.label 0) (.seq (.seq (.ops [m d8 r3,
 .o d9 (.call 22 [r8]),
 o d10 (.bin .gt r9 a0),
 m d11 r10,
 .g .h0 .hb true d12 (.op (.mv r4)),
 .g .h0 .hb true d13 (.op (.len r12)),
 .g .h0 .hb true d14 (.op (.bin .lt r13 (.c (pi 2048)))),
 o d15 (.pick r11 r14 (.c (.bool false)))]) (.cond r15 (.shal k5_2 (.seq (.seq (.ops [o d19 (.fad 0 r5),
 o d20 (.ld1 r19),
 o d21 (.bin .lt r20 a1),
 m d22 r21,
 .g .h1 .h6 false d23 (.op (.fad 0 r5)),
 .g .h1 .h6 false d24 (.op (.ld1 r23)),
 .g .h1 .h6 false d25 (.op (.bin .gt r24 (.c (pi 9)))),
 o d26 (.pick r22 (.c (.bool true)) r25)]) (.shal k5_3 .skip)) (.shal k5_4 .skip))) .skip)) (.shal k5_5 .skip))))))
def z5 : List Rs := [.t .h0 .h2]
def f5 : AF := .mk x5 z5
def k6_3 : KF := fun c i x r h => (fun (x0 x1 x2 x3 x4 : AV) =>
 tR (b_add x4 (pi 1) h) fun v5 h6 =>
 .nm (T17 x0 x1 x2 x3 v5) h6) (y1 r) (y4 r) (y5 r) (y7 r) (y8 r)
def k6_2 : KF := fun c i x r h => (fun (x0 x1 x2 x3 x4 : AV) =>
 tR (len x0 h) fun v5 h6 =>
 tR (b_lt x4 v5 h6) fun v7 h8 =>
 (fun (k9 : AV → Hp → RS) => gd v7 true (k9 x4 h8) (k9 unitV h8)) fun v10 h11 =>
 (fun (k12 : AV → Hp → RS) => gd v7 true (tR (b_lt v10 (pi 2048) h11) fun v15 h16 =>
 k12 v15 h16) (k12 unitV h11)) fun v13 h14 =>
 tR (o_pick (.c v7) (.c v13) (.c (.bool false)) .nil h14) fun v17 h18 =>
 ifR v17 (x (T17 x0 x1 x2 x3 x4) h18) (.ex 0 (T18 x1 x2 x3) h18)) (y1 r) (y4 r) (y5 r) (y7 r) (y8 r)
def k6_1 : KF := fun c i x r h => (fun (x0 x1 x2 x3 : AV) =>
 x (T17 x0 x1 x2 x3 (pi 0)) h) (y1 r) (y4 r) (y5 r) (y7 r)
def k6_4 : KF := fun c i x r h => (fun (x0 x1 x2 : AV) =>
 tT (c 27 [x1] h) fun v3 h4 =>
 tR (fa 2 x2 h4) fun v5 h6 =>
 tR (sto v5 v3 h6) fun v7 h8 =>
 tR (o_ldn 3 (.c x2) .nil h8) fun v9 h10 =>
 tR (o_stn 3 (.c x0) (.c v9) .nil h10) fun v11 h12 =>
 .ret (T15 x0) h12) (y4 r) (y5 r) (y7 r)
def k6_0 : KF := fun c i x r h => (fun (x0 x1 : AV) =>
 tR (o_alloc 37 3 (.k1 (.mk (pi 0) .nils .nils .undef .undef .undef .undef .undef .undef .undef .undef .undef .undef .undef .undef .undef)) .nil h) fun v2 h3 =>
 tT (c 25 [x0] h3) fun v4 h5 =>
 tR (o_ext 0 (.c v4) .nil h5) fun v6 h7 =>
 tR (o_ext 1 (.c v4) .nil h7) fun v8 h9 =>
 tR (b_ne v8 (pi 0) h9) fun v10 h11 =>
 ifR v10 (tR (o_build [(pi 0),.nils,.nils] [.mk 0 1 (.c v8)] .nil h11) fun v12 h13 =>
 tR (o_stn 3 (.c v2) (.c v12) .nil h13) fun v14 h15 =>
 .ret (T15 v2) h15) (tR (o_alloc 37 3 (.k1 (.mk (pi 0) .nils .nils .undef .undef .undef .undef .undef .undef .undef .undef .undef .undef .undef .undef .undef)) .nil h11) fun v16 h17 =>
 x (T16 x1 v2 v6 v16) h17)) (y0 r) (y1 r)
def x6 : AC := (.shal k6_0 (.seq (.shal k6_1 (.block 0 (.loop (.shal k6_2 (.seq (.block 1 (.drw [q 0 (m d30 r5),
 q 0 (m d31 r1),
 q 0 (m d32 r8),
 q 0 (o d33 (.ixs 12 r31 r32)),
 q 0 (o d34 (.ldn 12 r33)),
 w (.o d35 (.call 26 [r30,r34])),
 q 1 (o d28 (.fad 1 r7)),
 q 1 (o d29 (.ld1 r28)),
 w (o d36 (.app 45 18 r29 r35)),
 q 0 (o d37 (.fad 1 r7)),
 w (o .no (.st1 r37 r36))])) (.shal k6_3 .skip)))))) (.shal k6_4 .skip)))
def z6 : List Rs := [.agg 3 .h0 .h4]
def f6 : AF := .mk x6 z6
def k7_0 : KF := fun c i x r h => (fun (x0 x1 : AV) =>
 tR (o_alloc 37 3 (.k1 (.mk (pi 0) .nils .nils .undef .undef .undef .undef .undef .undef .undef .undef .undef .undef .undef .undef .undef)) .nil h) fun v2 h3 =>
 tT (c 5 [x1] h3) fun v4 h5 =>
 tT (c 6 [x0,v4] h5) fun v6 h7 =>
 tR (o_stn 3 (.c v2) (.c v6) .nil h7) fun v8 h9 =>
 .ret (T15 v2) h9) (y0 r) (y1 r)
def x7 : AC := (.shal k7_0 .skip)
def z7 : List Rs := [.agg 3 .h0 .h4]
def f7 : AF := .mk x7 z7
def k8_2 : KF := fun c i x r h => (fun (x0 x1 x2 : AV) =>
 tR (len x0 h) fun v3 h4 =>
 tR (b_lt x2 v3 h4) fun v5 h6 =>
 ifR v5 (tR (ix 1 x0 x2 h6) fun v7 h8 =>
 tR (ld v7 h8) fun v9 h10 =>
 tT (c 28 [v9] h10) fun v11 h12 =>
 tR (o_bslice 53 3 1 [(pi 0),(pi 0),(.str [])] [.mk 0 3 (.c v11)] .nil h12) fun v13 h14 =>
 tR (appV 53 3 x1 v13 h14) fun v15 h16 =>
 tR (b_add x2 (pi 1) h16) fun v17 h18 =>
 .nm (T20 x0 v15 v17) h18) (.ex 0 (T20 x0 x1 x2) h6)) (y0 r) (y3 r) (y4 r)
def k8_1 : KF := fun c i x r h => (fun (x0 x1 : AV) =>
 x (T20 x0 x1 (pi 0)) h) (y0 r) (y3 r)
def k8_3 : KF := fun c i x r h => (fun (x0 : AV) =>
 .ret (T14 x0) h) (y3 r)
def k8_0 : KF := fun c i x r h => (fun (x0 : AV) =>
 x (T19 x0 .nils) h) (y0 r)
def x8 : AC := (.shal k8_0 (.seq (.shal k8_1 (.block 0 (.loop (.shal k8_2 .skip)))) (.shal k8_3 .skip)))
def z8 : List Rs := [.t .h0 .h2]
def f8 : AF := .mk x8 z8
def k9_0 : KF := fun c i x r h => (fun (x0 : AV) =>
 tR (o_alloc 53 3 (.k1 (.mk (pi 0) (pi 0) (.str []) .undef .undef .undef .undef .undef .undef .undef .undef .undef .undef .undef .undef .undef)) .nil h) fun v1 h2 =>
 tR (o_build [(pi 0),(pi 0),(.str [])] [.mk 0 1 (.c (pi 2)),.mk 2 1 (.c x0)] .nil h2) fun v3 h4 =>
 tR (o_stn 3 (.c v1) (.c v3) .nil h4) fun v5 h6 =>
 .ret (T14 v1) h6) (y0 r)
def x9 : AC := (.shal k9_0 .skip)
def z9 : List Rs := [.agg 3 .h0 .h2]
def f9 : AF := .mk x9 z9
def k10_3 : KF := fun c i x r h => (fun (x0 x1 x2 : AV) =>
 tR (ix 12 x0 x2 h) fun v3 h4 =>
 tR (o_ldn 12 (.c v3) .nil h4) fun v5 h6 =>
 tR (o_alloc 32 12 (.k1 (.mk (pi 0) (pi 0) (pi 0) (pi 0) (.str []) (pi 0) (pi 0) (pi 0) (.str []) (.str []) .nils .nils .undef .undef .undef .undef)) .nil h6) fun v7 h8 =>
 tR (o_stn 12 (.c v7) (.c v5) .nil h8) fun v9 h10 =>
 tR (fa 0 v7 h10) fun v11 h12 =>
 tR (ld v11 h12) fun v13 h14 =>
 tT (c 29 [x1,v13] h14) fun v15 h16 =>
 x (T22 x0 v15 x2 v7) h16) (y0 r) (y3 r) (y4 r)
def k10_4 : KF := fun c i x r h => (fun (x0 x1 x2 : AV) =>
 tR (b_add x2 (pi 1) h) fun v3 h4 =>
 .nm (T20 x0 x1 v3) h4) (y0 r) (y3 r) (y4 r)
def k10_2 : KF := fun c i x r h => (fun (x0 x1 x2 : AV) =>
 tR (len x0 h) fun v3 h4 =>
 tR (b_lt x2 v3 h4) fun v5 h6 =>
 ifR v5 (x (T20 x0 x1 x2) h6) (.ex 0 (T21 x1) h6)) (y0 r) (y3 r) (y4 r)
def k10_1 : KF := fun c i x r h => (fun (x0 x1 : AV) =>
 x (T20 x0 x1 (pi 0)) h) (y0 r) (y3 r)
def k10_5 : KF := fun c i x r h => (fun (x0 : AV) =>
 .ret (T14 x0) h) (y3 r)
def k10_0 : KF := fun c i x r h => (fun (x0 : AV) =>
 x (T19 x0 .nils) h) (y0 r)
def x10 : AC := (.shal k10_0 (.seq (.shal k10_1 (.block 0 (.loop (.shal k10_2 (.seq (.block 1 (.shal k10_3 (.seq (.drw [q 0 (m d20 r3),
 q 0 (o d21 (.fad 1 r5)),
 q 0 (o d22 (.ld1 r21)),
 w (.o d23 (.call 30 [r20,r22])),
 q 1 (o d24 (.fad 2 r5)),
 q 1 (o d25 (.ld1 r24)),
 w (.o d26 (.call 30 [r23,r25])),
 q 2 (o d27 (.fad 3 r5)),
 q 2 (o d28 (.ld1 r27)),
 w (.o d29 (.call 30 [r26,r28])),
 q 0 (m d3 r29)]) (.drw [q 0 (m d30 r3),
 q 0 (o d31 (.fad 4 r5)),
 q 0 (o d32 (.ld1 r31)),
 w (.o d33 (.call 31 [r30,r32])),
 q 1 (o d34 (.fad 5 r5)),
 q 1 (o d35 (.ldn 7 r34)),
 w (.o d36 (.call 19 [r35])),
 q 0 (o d37 (.conv .b2s r36)),
 w (.o d38 (.call 31 [r33,r37])),
 q 0 (m d3 r38)])))) (.shal k10_4 .skip)))))) (.shal k10_5 .skip)))
def z10 : List Rs := [.t .h0 .h2]
def f10 : AF := .mk x10 z10
def k11_4 : KF := fun c i x r h => (fun (x0 x1 x2 x3 : AV) =>
 tR (b_add x3 (pi 1) h) fun v4 h5 =>
 .nm (T23 x0 x1 x2 v4) h5) (y3 r) (y6 r) (y7 r) (y8 r)
def k11_3 : KF := fun c i x r h => (fun (x0 x1 x2 x3 : AV) =>
 tR (ix 18 x1 x3 h) fun v4 h5 =>
 tR (o_ldn 18 (.c v4) .nil h5) fun v6 h7 =>
 tR (o_alloc 45 18 (.k2 (.mk (.mk (pi 0) (pi 0) (pi 0) (pi 0) (pi 0) (pi 0) (.str []) (pi 0) (pi 0) (pi 0) (.str []) (.str []) .nils .nils (pi 0) (pi 0)) (.mk (.str []) .nils .undef .undef .undef .undef .undef .undef .undef .undef .undef .undef .undef .undef .undef .undef) .nil .nil .nil .nil .nil .nil .nil .nil .nil .nil .nil .nil .nil .nil)) .nil h7) fun v8 h9 =>
 tR (o_stn 18 (.c v8) (.c v6) .nil h9) fun v10 h11 =>
 tR (fa 0 v8 h11) fun v12 h13 =>
 tR (ld v12 h13) fun v14 h15 =>
 tR (b_eq v14 (pi 1) h15) fun v16 h17 =>
 ifR v16 (tT (c 32 [x0,(.str [99,97,108,108,32])] h17) fun v18 h19 =>
 tR (fa 1 v8 h19) fun v20 h21 =>
 tR (ld v20 h21) fun v22 h23 =>
 tT (c 33 [v22] h23) fun v24 h25 =>
 tT (c 32 [x0,v24] h25) fun v26 h27 =>
 tR (fa 0 v8 h27) fun v28 h29 =>
 tR (ld v28 h29) fun v30 h31 =>
 tR (b_eq v30 (pi 2) h31) fun v32 h33 =>
 ifR v32 (tR (o_ldn 18 (.c v8) .nil h33) fun v34 h35 =>
 tT (c 34 [x0,v34] h35) fun v36 h37 =>
 tT (c 32 [x0,(.str [10])] h37) fun v38 h39 =>
 x (T23 x0 x1 x2 x3) h39) (tT (c 32 [x0,(.str [10])] h33) fun v40 h41 =>
 x (T23 x0 x1 x2 x3) h41)) (tR (b_eq v14 (pi 2) h17) fun v42 h43 =>
 ifR v42 (tT (c 32 [x0,(.str [100,111,110,101,32])] h43) fun v44 h45 =>
 tR (fa 1 v8 h45) fun v46 h47 =>
 tR (ld v46 h47) fun v48 h49 =>
 tT (c 33 [v48] h49) fun v50 h51 =>
 tT (c 32 [x0,v50] h51) fun v52 h53 =>
 tR (fa 0 v8 h53) fun v54 h55 =>
 tR (ld v54 h55) fun v56 h57 =>
 tR (b_eq v56 (pi 2) h57) fun v58 h59 =>
 ifR v58 (tR (o_ldn 18 (.c v8) .nil h59) fun v60 h61 =>
 tT (c 34 [x0,v60] h61) fun v62 h63 =>
 tT (c 32 [x0,(.str [10])] h63) fun v64 h65 =>
 x (T23 x0 x1 x2 x3) h65) (tT (c 32 [x0,(.str [10])] h59) fun v66 h67 =>
 x (T23 x0 x1 x2 x3) h67)) (tR (b_eq v14 (pi 3) h43) fun v68 h69 =>
 ifR v68 (tT (c 32 [x0,(.str [98,117,115,121,32])] h69) fun v70 h71 =>
 tR (fa 1 v8 h71) fun v72 h73 =>
 tR (ld v72 h73) fun v74 h75 =>
 tT (c 33 [v74] h75) fun v76 h77 =>
 tT (c 32 [x0,v76] h77) fun v78 h79 =>
 tR (fa 0 v8 h79) fun v80 h81 =>
 tR (ld v80 h81) fun v82 h83 =>
 tR (b_eq v82 (pi 2) h83) fun v84 h85 =>
 ifR v84 (tR (o_ldn 18 (.c v8) .nil h85) fun v86 h87 =>
 tT (c 34 [x0,v86] h87) fun v88 h89 =>
 tT (c 32 [x0,(.str [10])] h89) fun v90 h91 =>
 x (T23 x0 x1 x2 x3) h91) (tT (c 32 [x0,(.str [10])] h85) fun v92 h93 =>
 x (T23 x0 x1 x2 x3) h93)) (x (T23 x0 x1 x2 x3) h69)))) (y3 r) (y6 r) (y7 r) (y8 r)
def k11_2 : KF := fun c i x r h => (fun (x0 x1 x2 x3 : AV) =>
 tR (b_lt x3 x2 h) fun v4 h5 =>
 ifR v4 (x (T23 x0 x1 x2 x3) h5) (.ex 0 (T21 x0) h5)) (y3 r) (y6 r) (y7 r) (y8 r)
def k11_1 : KF := fun c i x r h => (fun (x0 x1 : AV) =>
 tR (len x0 h) fun v2 h3 =>
 x (T23 x1 x0 v2 (pi 0)) h3) (y0 r) (y3 r)
def k11_5 : KF := fun c i x r h => (fun (x0 : AV) =>
 tT (c 35 [x0] h) fun v1 h2 =>
 .ret (T14 v1) h2) (y3 r)
def k11_0 : KF := fun c i x r h => (fun (x0 : AV) =>
 tR (o_alloc 86 2 (.k1 (.mk .nilp .nils .undef .undef .undef .undef .undef .undef .undef .undef .undef .undef .undef .undef .undef .undef)) .nil h) fun v1 h2 =>
 x (T19 x0 v1) h2) (y0 r)
def x11 : AC := (.shal k11_0 (.seq (.shal k11_1 (.block 0 (.loop (.shal k11_2 (.shal k11_3 (.shal k11_4 .skip)))))) (.shal k11_5 .skip)))
def z11 : List Rs := [.t .h0 .h2]
def f11 : AF := .mk x11 z11
def k12_0 : KF := fun c i x r h => tT (c 6 [(pi 3),.nils] h) fun v0 h1 =>
 tR (o_alloc 37 3 (.k1 (.mk (pi 0) .nils .nils .undef .undef .undef .undef .undef .undef .undef .undef .undef .undef .undef .undef .undef)) .nil h1) fun v2 h3 =>
 tR (o_stn 3 (.c v2) (.c v0) .nil h3) fun v4 h5 =>
 x (T24 v2) h5
def x12 : AC := (.shal k12_0 (.seq (.ops [o d3 (.fad 0 r1),
 o d4 (.ld1 r3),
 o d5 (.bin .eq r4 a0),
 m d6 r5,
 .g .h0 .h6 true d7 (.op (.fad 1 r1)),
 .g .h0 .h6 true d8 (.op (.ld1 r7)),
 .g .h0 .h6 true d9 (.op (.len r8)),
 .g .h0 .h6 true d10 (.op (.bin .eq r9 a0)),
 o d11 (.pick r6 r10 (.c (.bool false))),
 m d12 r11,
 .g .h0 .hc true d13 (.op (.fad 2 r1)),
 .g .h0 .hc true d14 (.op (.ld1 r13)),
 .g .h0 .hc true d15 (.op (.len r14)),
 .g .h0 .hc true d16 (.op (.bin .eq r15 a0)),
 o d17 (.pick r12 r16 (.c (.bool false))),
 m d18 r17,
 .g .h1 .h2 true d19 (.op (.build [(pi 0),(pi 0),(pi 0),(pi 0),(pi 0),(pi 0),(.str []),(pi 0),(pi 0),(pi 0),(.str []),(.str []),.nils,.nils,(pi 0),(pi 0),(.str []),.nils] [.mk 0 1 a2,.mk 1 1 (.c (pi 3))])),
 .g .h1 .h2 true d20 (.op (.bslice 45 18 1 [(pi 0),(pi 0),(pi 0),(pi 0),(pi 0),(pi 0),(.str []),(pi 0),(pi 0),(pi 0),(.str []),(.str []),.nils,.nils,(pi 0),(pi 0),(.str []),.nils] [.mk 0 18 r19])),
 .g .h1 .h2 true d21 (.call 11 [r20]),
 .g .h1 .h2 true d22 (.op (.bin .seq r21 (.c (.str [100,111,110,101,32,51,32,48,32,48,32,10])))),
 o d23 (.pick r18 r22 (.c (.bool false))),
 m d0 r23]) .ret))
def z12 : List Rs := [.t .h0 .h0]
def f12 : AF := .mk x12 z12
def k13_4 : KF := fun c i x r h => (fun (x0 x1 x2 x3 x4 : AV) =>
 ifR x4 (.ret (T14 (.bool false)) h) (.nm (T25 x0 x1 x2 x3) h)) (y1 r) (y5 r) (y6 r) (y7 r) (y20 r)
def k13_3 : KF := fun c i x r h => (fun (x0 x1 x2 x3 : AV) =>
 tR (ix 1 x1 x3 h) fun v4 h5 =>
 tR (ld v4 h5) fun v6 h7 =>
 x (T26 x0 v6 x1 x2 x3) h7) (y1 r) (y5 r) (y6 r) (y7 r)
def k13_5 : KF := fun c i x r h => (fun (x0 x1 x2 x3 : AV) =>
 tR (b_add x3 (pi 1) h) fun v4 h5 =>
 .nm (T25 x0 x1 x2 v4) h5) (y1 r) (y5 r) (y6 r) (y7 r)
def k13_2 : KF := fun c i x r h => (fun (x0 x1 x2 x3 : AV) =>
 tR (b_lt x3 x2 h) fun v4 h5 =>
 ifR v4 (x (T25 x0 x1 x2 x3) h5) (.ex 0 (T24 x0) h5)) (y1 r) (y5 r) (y6 r) (y7 r)
def k13_1 : KF := fun c i x r h => (fun (x0 : AV) =>
 tT (c 16 [x0] h) fun v1 h2 =>
 tR (len v1 h2) fun v3 h4 =>
 x (T25 x0 v1 v3 (pi 0)) h4) (y1 r)
def k13_0 : KF := fun c i x r h => (fun (x0 : AV) =>
 tR (o_box 32 (.c x0) .nil h) fun v1 h2 =>
 x (T24 v1) h2) (y0 r)
def x13 : AC := (.shal k13_0 (.seq (.shal k13_1 (.block 0 (.loop (.shal k13_2 (.seq (.block 1 (.shal k13_3 (.seq (.ops [m d11 r4,
 o d12 (.nilc r11),
 o d13 (.ld1 r12),
 o d14 (.bin .lt r13 (.c (ni 2147483647))),
 m d15 r14,
 .g .h0 .hf false d16 (.op (.mv r4)),
 .g .h0 .hf false d17 (.op (.nilc r16)),
 .g .h0 .hf false d18 (.op (.ld1 r17)),
 .g .h0 .hf false d19 (.op (.bin .gt r18 (.c (pi 2147483647)))),
 o d20 (.pick r15 (.c (.bool true)) r19)]) (.shal k13_4 .skip)))) (.shal k13_5 .skip)))))) (.seq (.ops [o d22 (.fad 0 r1),
 o d23 (.ld1 r22),
 o d24 (.bin .ge r23 a1),
 m d25 r24,
 .g .h1 .h9 true d26 (.op (.fad 0 r1)),
 .g .h1 .h9 true d27 (.op (.ld1 r26)),
 .g .h1 .h9 true d28 (.op (.bin .le r27 (.c (pi 9)))),
 o d29 (.pick r25 r28 (.c (.bool false))),
 m d30 r29,
 .g .h1 .he true d31 (.op (.fad 4 r1)),
 .g .h1 .he true d32 (.op (.ld1 r31)),
 .g .h1 .he true d33 (.op (.lent r32)),
 .g .h1 .he true d34 (.op (.bin .le r33 (.c (pi 255)))),
 o d35 (.pick r30 r34 (.c (.bool false))),
 m d36 r35,
 .g .h2 .h4 true d37 (.op (.fad 5 r1)),
 .g .h2 .h4 true d38 (.op (.ldn 7 r37)),
 .g .h2 .h4 true d39 (.call 36 [r38]),
 o d40 (.pick r36 r39 (.c (.bool false))),
 m d2 r40]) .ret)))
def z13 : List Rs := [.t .h0 .h2]
def f13 : AF := .mk x13 z13
def k14_0 : KF := fun c i x r h => tR (o_build [.nils] [] .nil h) fun v0 h1 =>
 tR (o_box 96 (.c v0) .nil h1) fun v2 h3 =>
 .ret (T5 v2) h3
def x14 : AC := (.shal k14_0 .skip)
def z14 : List Rs := [.t .h0 .h0]
def f14 : AF := .mk x14 z14
def k15_0 : KF := fun c i x r h => (fun (x0 x1 : AV) =>
 tR (cK (.toInt .u64) x1 h) fun v2 h3 =>
 tT (c 37 [x0,v2,(pi 1)] h3) fun v4 h5 =>
 .nm T27 h5) (y0 r) (y1 r)
def x15 : AC := (.shal k15_0 .skip)
def z15 : List Rs := []
def f15 : AF := .mk x15 z15
def k16_0 : KF := fun c i x r h => (fun (x0 : AV) =>
 tQ (nic x0 h) fun v1 =>
 tQ (fa 1 v1 h) fun v2 =>
 tQ (nic x0 h) fun v3 =>
 tQ (fa 2 v3 h) fun v4 =>
 tQ (nic x0 h) fun v5 =>
 tQ (fa 3 v5 h) fun v6 =>
 tX (RV.toT (o_bslice 65 1 3 [.nilp,.nilp,.nilp] [.mk 0 1 (.c v2),.mk 1 1 (.c v4),.mk 2 1 (.c v6)] .nil h)) fun v7 h8 =>
 .ret (T14 v7) h8) (y0 r)
def x16 : AC := (.shal k16_0 .skip)
def z16 : List Rs := [.t .h0 .h2]
def f16 : AF := .mk x16 z16
def k17_0 : KF := fun c i x r h => (fun (x0 x1 : AV) =>
 tR (cK (.toInt .u64) x1 h) fun v2 h3 =>
 tT (c 37 [x0,v2,(pi 8)] h3) fun v4 h5 =>
 .nm T27 h5) (y0 r) (y1 r)
def x17 : AC := (.shal k17_0 .skip)
def z17 : List Rs := []
def f17 : AF := .mk x17 z17
def k18_0 : KF := fun c i x r h => (fun (x0 x1 : AV) =>
 tR (lent x1 h) fun v2 h3 =>
 tT (c 38 [x0,v2] h3) fun v4 h5 =>
 tR (nic x0 h5) fun v6 h7 =>
 tR (fa 0 v6 h7) fun v8 h9 =>
 tR (ld v8 h9) fun v10 h11 =>
 tR (o_apps 5 (.c v10) (.c x1) .nil h11) fun v12 h13 =>
 tR (nic x0 h13) fun v14 h15 =>
 tR (fa 0 v14 h15) fun v16 h17 =>
 tR (sto v16 v12 h17) fun v18 h19 =>
 .nm T27 h19) (y0 r) (y1 r)
def x18 : AC := (.shal k18_0 .skip)
def z18 : List Rs := []
def f18 : AF := .mk x18 z18
def k19_3 : KF := fun c i x r h => (fun (x0 x1 x2 x3 x4 : AV) =>
 tR (b_lt x4 x3 h) fun v5 h6 =>
 ifR v5 (tR (ix 2 x2 x4 h6) fun v7 h8 =>
 tR (o_ldn 2 (.c v7) .nil h8) fun v9 h10 =>
 tR (o_alloc 100 2 (.k1 (.mk (.str []) (pi 0) .undef .undef .undef .undef .undef .undef .undef .undef .undef .undef .undef .undef .undef .undef)) .nil h10) fun v11 h12 =>
 tR (o_stn 2 (.c v11) (.c v9) .nil h12) fun v13 h14 =>
 tR (fa 0 v11 h14) fun v15 h16 =>
 tR (ld v15 h16) fun v17 h18 =>
 tT (c 18 [x1,v17] h18) fun v19 h20 =>
 tR (fa 1 v11 h20) fun v21 h22 =>
 tR (ld v21 h22) fun v23 h24 =>
 tT (c 17 [x1,v23] h24) fun v25 h26 =>
 tR (b_add x4 (pi 1) h26) fun v27 h28 =>
 .nm (T29 x0 x1 x2 x3 v27) h28) (.ex 0 (T29 x0 x1 x2 x3 x4) h6)) (y1 r) (y3 r) (y41 r) (y42 r) (y43 r)
def k19_2 : KF := fun c i x r h => (fun (x0 x1 : AV) =>
 tR (fa 5 x0 h) fun v2 h3 =>
 tR (ld v2 h3) fun v4 h5 =>
 tR (len v4 h5) fun v6 h7 =>
 x (T29 x0 x1 v4 v6 (pi 0)) h7) (y1 r) (y3 r)
def k19_9 : KF := fun c i x r h => (fun (x0 x1 x2 x3 x4 x5 x6 x7 : AV) =>
 tR (b_lt x7 x6 h) fun v8 h9 =>
 ifR v8 (tR (ix 3 x5 x7 h9) fun v10 h11 =>
 tR (o_ldn 3 (.c v10) .nil h11) fun v12 h13 =>
 tR (o_alloc 53 3 (.k1 (.mk (pi 0) (pi 0) (.str []) .undef .undef .undef .undef .undef .undef .undef .undef .undef .undef .undef .undef .undef)) .nil h13) fun v14 h15 =>
 tR (o_stn 3 (.c v14) (.c v12) .nil h15) fun v16 h17 =>
 tR (fa 0 v14 h17) fun v18 h19 =>
 tR (ld v18 h19) fun v20 h21 =>
 tT (c 17 [x0,v20] h21) fun v22 h23 =>
 tR (fa 1 v14 h23) fun v24 h25 =>
 tR (ld v24 h25) fun v26 h27 =>
 tT (c 17 [x0,v26] h27) fun v28 h29 =>
 tR (fa 2 v14 h29) fun v30 h31 =>
 tR (ld v30 h31) fun v32 h33 =>
 tT (c 18 [x0,v32] h33) fun v34 h35 =>
 tR (b_add x7 (pi 1) h35) fun v36 h37 =>
 .nm (T32 x0 x1 x2 x3 x4 x5 x6 v36) h37) (.ex 4 (T32 x0 x1 x2 x3 x4 x5 x6 x7) h9)) (y3 r) (y7 r) (y62 r) (y63 r) (y64 r) (y78 r) (y79 r) (y80 r)
def k19_8 : KF := fun c i x r h => (fun (x0 x1 x2 x3 x4 : AV) =>
 tR (fa 1 x1 h) fun v5 h6 =>
 tR (ld v5 h6) fun v7 h8 =>
 tR (len v7 h8) fun v9 h10 =>
 x (T32 x0 x1 x2 x3 x4 v7 v9 (pi 0)) h10) (y3 r) (y7 r) (y62 r) (y63 r) (y64 r)
def k19_10 : KF := fun c i x r h => (fun (x0 x1 x2 x3 x4 : AV) =>
 tR (fa 2 x1 h) fun v5 h6 =>
 tR (ld v5 h6) fun v7 h8 =>
 ifR v7 (tT (c 15 [x0,(pi 1)] h8) fun v9 h10 =>
 .nm (T30 x0 x2 x3 x4) h10) (tT (c 15 [x0,(pi 0)] h8) fun v11 h12 =>
 .nm (T30 x0 x2 x3 x4) h12)) (y3 r) (y7 r) (y62 r) (y63 r) (y64 r)
def k19_7 : KF := fun c i x r h => (fun (x0 x1 x2 x3 : AV) =>
 tR (ix 3 x1 x3 h) fun v4 h5 =>
 tR (o_ldn 3 (.c v4) .nil h5) fun v6 h7 =>
 tR (o_alloc 102 3 (.k1 (.mk (.str []) .nils (.bool false) .undef .undef .undef .undef .undef .undef .undef .undef .undef .undef .undef .undef .undef)) .nil h7) fun v8 h9 =>
 tR (o_stn 3 (.c v8) (.c v6) .nil h9) fun v10 h11 =>
 tR (fa 0 v8 h11) fun v12 h13 =>
 tR (ld v12 h13) fun v14 h15 =>
 tT (c 18 [x0,v14] h15) fun v16 h17 =>
 tR (fa 1 v8 h17) fun v18 h19 =>
 tR (ld v18 h19) fun v20 h21 =>
 tR (len v20 h21) fun v22 h23 =>
 tT (c 15 [x0,v22] h23) fun v24 h25 =>
 x (T31 x0 v8 x1 x2 x3) h25) (y3 r) (y62 r) (y63 r) (y64 r)
def k19_11 : KF := fun c i x r h => (fun (x0 x1 x2 x3 : AV) =>
 tR (b_add x3 (pi 1) h) fun v4 h5 =>
 .nm (T30 x0 x1 x2 v4) h5) (y3 r) (y62 r) (y63 r) (y64 r)
def k19_6 : KF := fun c i x r h => (fun (x0 x1 x2 x3 : AV) =>
 tR (b_lt x3 x2 h) fun v4 h5 =>
 ifR v4 (x (T30 x0 x1 x2 x3) h5) (.ex 2 (T21 x0) h5)) (y3 r) (y62 r) (y63 r) (y64 r)
def k19_5 : KF := fun c i x r h => (fun (x0 x1 : AV) =>
 tR (fa 6 x0 h) fun v2 h3 =>
 tR (ld v2 h3) fun v4 h5 =>
 tR (len v4 h5) fun v6 h7 =>
 x (T30 x1 v4 v6 (pi 0)) h7) (y1 r) (y3 r)
def k19_12 : KF := fun c i x r h => (fun (x0 : AV) =>
 tT (c 20 [x0] h) fun v1 h2 =>
 .ret (T14 v1) h2) (y3 r)
def k19_4 : KF := fun c i x r h => (fun (x0 x1 : AV) =>
 tR (fa 6 x0 h) fun v2 h3 =>
 tR (ld v2 h3) fun v4 h5 =>
 tR (len v4 h5) fun v6 h7 =>
 tT (c 15 [x1,v6] h7) fun v8 h9 =>
 x (T28 x0 x1) h9) (y1 r) (y3 r)
def k19_1 : KF := fun c i x r h => (fun (x0 x1 : AV) =>
 tR (fa 3 x0 h) fun v2 h3 =>
 tR (ld v2 h3) fun v4 h5 =>
 tT (c 18 [x1,v4] h5) fun v6 h7 =>
 tR (fa 4 x0 h7) fun v8 h9 =>
 tR (ld v8 h9) fun v10 h11 =>
 tT (c 18 [x1,v10] h11) fun v12 h13 =>
 tR (fa 5 x0 h13) fun v14 h15 =>
 tR (ld v14 h15) fun v16 h17 =>
 tR (len v16 h17) fun v18 h19 =>
 tT (c 15 [x1,v18] h19) fun v20 h21 =>
 x (T28 x0 x1) h21) (y1 r) (y3 r)
def k19_0 : KF := fun c i x r h => (fun (x0 : AV) =>
 tR (o_box 30 (.c x0) .nil h) fun v1 h2 =>
 tR (o_ldn 7 (.c v1) .nil h2) fun v3 h4 =>
 tT (c 36 [v3] h4) fun v5 h6 =>
 tR (u_not v5 h6) fun v7 h8 =>
 ifR v7 (.ret (T14 .nils) h8) (tT (c 14 [] h8) fun v9 h10 =>
 tR (fa 0 v1 h10) fun v11 h12 =>
 tR (ld v11 h12) fun v13 h14 =>
 tT (c 17 [v9,v13] h14) fun v15 h16 =>
 tR (fa 1 v1 h16) fun v17 h18 =>
 tR (ld v17 h18) fun v19 h20 =>
 tT (c 17 [v9,v19] h20) fun v21 h22 =>
 tR (fa 2 v1 h22) fun v23 h24 =>
 tR (ld v23 h24) fun v25 h26 =>
 tT (c 17 [v9,v25] h26) fun v27 h28 =>
 x (T28 v1 v9) h28)) (y0 r)
def x19 : AC := (.shal k19_0 (.shal k19_1 (.seq (.shal k19_2 (.block 0 (.loop (.shal k19_3 .skip)))) (.shal k19_4 (.seq (.shal k19_5 (.block 2 (.loop (.shal k19_6 (.seq (.block 3 (.shal k19_7 (.seq (.shal k19_8 (.block 4 (.loop (.shal k19_9 .skip)))) (.shal k19_10 .skip)))) (.shal k19_11 .skip)))))) (.shal k19_12 .skip))))))
def z19 : List Rs := [.t .h0 .h2]
def f19 : AF := .mk x19 z19
def k20_0 : KF := fun c i x r h => (fun (x0 : AV) =>
 tR (nic x0 h) fun v1 h2 =>
 tR (fa 0 v1 h2) fun v3 h4 =>
 tR (ld v3 h4) fun v5 h6 =>
 tT (c 39 [v5] h6) fun v7 h8 =>
 .ret (T14 v7) h8) (y0 r)
def x20 : AC := (.shal k20_0 .skip)
def z20 : List Rs := [.t .h0 .h2]
def f20 : AF := .mk x20 z20
def k21_0 : KF := fun c i x r h => (fun (x0 : AV) =>
 tT (c 39 [x0] h) fun v1 h2 =>
 tR (o_build [.nils,(pi 0),(pi 0),(pi 0)] [.mk 0 1 (.c v1)] .nil h2) fun v3 h4 =>
 tR (o_box 105 (.c v3) .nil h4) fun v5 h6 =>
 .ret (T14 v5) h6) (y0 r)
def x21 : AC := (.shal k21_0 .skip)
def z21 : List Rs := [.t .h0 .h2]
def f21 : AF := .mk x21 z21
def k22_0 : KF := fun c i x r h => (fun (x0 : AV) =>
 tR (nic x0 h) fun v1 h2 =>
 tR (fa 2 v1 h2) fun v3 h4 =>
 tR (ld v3 h4) fun v5 h6 =>
 tR (b_ne v5 (pi 0) h6) fun v7 h8 =>
 ifR v7 (.ret (T14 (pi 0)) h8) (tQ (nic x0 h8) fun v9 =>
 tQ (fa 0 v9 h8) fun v10 =>
 tQ (ld v10 h8) fun v11 =>
 tQ (len v11 h8) fun v12 =>
 tQ (nic x0 h8) fun v13 =>
 tQ (fa 1 v13 h8) fun v14 =>
 tQ (ld v14 h8) fun v15 =>
 tQ (b_sub v12 v15 h8) fun v16 =>
 .ret (T14 v16) h8)) (y0 r)
def x22 : AC := (.shal k22_0 .skip)
def z22 : List Rs := [.t .h0 .h2]
def f22 : AF := .mk x22 z22
def k23_0 : KF := fun c i x r h => (fun (x0 : AV) =>
 tT (c 40 [x0,(pi 1)] h) fun v1 h2 =>
 tR (cK (.toInt .i64) v1 h2) fun v3 h4 =>
 .ret (T14 v3) h4) (y0 r)
def x23 : AC := (.shal k23_0 .skip)
def z23 : List Rs := [.t .h0 .h2]
def f23 : AF := .mk x23 z23
def k25_3 : KF := fun c i x r h => (fun (x0 x1 x2 : AV) =>
 tR (b_add x2 (pi 1) h) fun v3 h4 =>
 .nm (T33 x0 x1 v3) h4) (y6 r) (y21 r) (y22 r)
def k25_2 : KF := fun c i x r h => (fun (x0 x1 x2 : AV) =>
 tR (b_lt x2 x1 h) fun v3 h4 =>
 ifR v3 (x (T33 x0 x1 x2) h4) (.ex 0 (T9 x0) h4)) (y6 r) (y21 r) (y22 r)
def k25_1 : KF := fun c i x r h => (fun (x0 x1 : AV) =>
 x (T33 x1 x0 (pi 0)) h) (y0 r) (y6 r)
def k25_4 : KF := fun c i x r h => (fun (x0 : AV) =>
 .ret (T4 x0 (pi 0)) h) (y6 r)
def k25_0 : KF := fun c i x r h => (fun (x0 : AV) =>
 tT (c 45 [x0] h) fun v1 h2 =>
 tR (o_ext 0 (.c v1) .nil h2) fun v3 h4 =>
 tR (o_ext 1 (.c v1) .nil h4) fun v5 h6 =>
 tR (b_ne v5 (pi 0) h6) fun v7 h8 =>
 ifR v7 (.ret (T4 .nilp v5) h8) (tR (o_mkslice 3 [(pi 0)] (.c x0) (.c x0) .nil h8) fun v9 h10 =>
 tR (o_build [.nilp,(pi 0),.nils,.nils,(.bool false),(.bool false),(pi 0),(pi 0),(pi 0),(pi 0),(pi 0),(.str []),(pi 0),(pi 0),(pi 0),(.str []),(.str []),.nils,.nils,(.str []),(pi 0),(pi 0),(.bool false),(.bool false),(pi 0),(pi 0),(pi 0),(pi 0),(pi 0),(.str []),(pi 0),(pi 0),(pi 0),(.str []),(.str []),.nils,.nils,(.str []),(pi 0),(pi 0),(.bool false),(.bool false),(pi 0),(pi 0),(pi 0),(pi 0),(pi 0),(.str []),(pi 0),(pi 0),(pi 0),(.str []),(.str []),.nils,.nils,(.str []),(pi 0),(pi 0),(.bool false),(.bool false),(pi 0),(pi 0),(pi 0),(pi 0),(pi 0),(.str []),(pi 0),(pi 0),(pi 0),(.str []),(.str []),.nils,.nils,(.str []),(pi 0),(pi 0),(.bool false),(.bool false),(pi 0),(pi 0),(pi 0),(pi 0),(pi 0),(.str []),(pi 0),(pi 0),(pi 0),(.str []),(.str []),.nils,.nils,(.str []),(pi 0),(pi 0),(.bool false),(.bool false),(pi 0),(pi 0),(pi 0),(pi 0),(pi 0),(.str []),(pi 0),(pi 0),(pi 0),(.str []),(.str []),.nils,.nils,(.str []),(pi 0),(pi 0),(.bool false),(.bool false),(pi 0),(pi 0),(pi 0),(pi 0),(pi 0),(.str []),(pi 0),(pi 0),(pi 0),(.str []),(.str []),.nils,.nils,(.str []),(pi 0),(pi 0),(.bool false),(.bool false),(pi 0),(pi 0),(pi 0),(pi 0),(pi 0),(.str []),(pi 0),(pi 0),(pi 0),(.str []),(.str []),.nils,.nils,(.str []),(pi 0),(pi 0),(.bool false),(.bool false),(pi 0),(pi 0),(pi 0),(pi 0),(pi 0),(.str []),(pi 0),(pi 0),(pi 0),(.str []),(.str []),.nils,.nils,(.str []),(pi 0),(pi 0),(.bool false),(.bool false),(pi 0),(pi 0),(pi 0),(pi 0),(pi 0),(.str []),(pi 0),(pi 0),(pi 0),(.str []),(.str []),.nils,.nils,(.str []),(pi 0),(pi 0),(.bool false),(.bool false),(pi 0),(pi 0),(pi 0),(pi 0),(pi 0),(.str []),(pi 0),(pi 0),(pi 0),(.str []),(.str []),.nils,.nils,(.str []),(pi 0),(pi 0),(.bool false),(.bool false),(pi 0),(pi 0),(pi 0),(pi 0),(pi 0),(.str []),(pi 0),(pi 0),(pi 0),(.str []),(.str []),.nils,.nils,(.str []),(pi 0),(pi 0),(.bool false),(.bool false),(pi 0),(pi 0),(pi 0),(pi 0),(pi 0),(.str []),(pi 0),(pi 0),(pi 0),(.str []),(.str []),.nils,.nils,(.str []),(pi 0),(pi 0),(.bool false),(.bool false),(pi 0),(pi 0),(pi 0),(pi 0),(pi 0),(.str []),(pi 0),(pi 0),(pi 0),(.str []),(.str []),.nils,.nils,(.str []),(pi 0),(pi 0),(.bool false),(.bool false),(pi 0),(pi 0),(pi 0),(pi 0),(pi 0),(.str []),(pi 0),(pi 0),(pi 0),(.str []),(.str []),.nils,.nils,(.str []),(pi 0),(pi 0),(.bool false),(.bool false),(pi 0),(pi 0),(pi 0),(pi 0),(pi 0),(.str []),(pi 0),(pi 0),(pi 0),(.str []),(.str []),.nils,.nils,(.str []),(pi 0),(pi 0),(pi 0),.nils] [.mk 0 1 (.c v3),.mk 1 1 (.c x0),.mk 3 1 (.c v9)] .nil h10) fun v11 h12 =>
 tR (o_box 118 (.c v11) .nil h12) fun v13 h14 =>
 x (T7 x0 v13) h14)) (y0 r)
def x25 : AC := (.shal k25_0 (.seq (.shal k25_1 (.block 0 (.loop (.shal k25_2 (.seq (.block 1 (.drw [w (.o d29 (.call 46 [])),
 w (o d30 (.bslice 119 1 1 [.nilp] [.mk 0 1 r29])),
 q 2 (m d25 r6),
 q 2 (o d26 (.nilc r25)),
 q 2 (o d27 (.fad 2 r26)),
 q 2 (o d28 (.ld1 r27)),
 w (o d31 (.app 119 1 r28 r30)),
 q 3 (m d24 r6),
 q 0 (o d32 (.nilc r24)),
 q 0 (o d33 (.fad 2 r32)),
 w (o .no (.st1 r33 r31))])) (.shal k25_3 .skip)))))) (.shal k25_4 .skip)))
def z25 : List Rs := [.t .h0 .h2,.t .h0 .h3]
def f25 : AF := .mk x25 z25
def k27_2 : KF := fun c i x r h => (fun (x0 x1 x2 : AV) =>
 tR (b_lt x2 (pi 16) h) fun v3 h4 =>
 ifR v3 (tR (o_idxa 16 18 true (.c x1) (.c x2) .nil h4) fun v5 h6 =>
 tR (o_alloc 115 18 (.k2 (.mk (.mk (.bool false) (.bool false) (pi 0) (pi 0) (pi 0) (pi 0) (pi 0) (.str []) (pi 0) (pi 0) (pi 0) (.str []) (.str []) .nils .nils (.str [])) (.mk (pi 0) (pi 0) .undef .undef .undef .undef .undef .undef .undef .undef .undef .undef .undef .undef .undef .undef) .nil .nil .nil .nil .nil .nil .nil .nil .nil .nil .nil .nil .nil .nil)) .nil h6) fun v7 h8 =>
 tR (o_stn 18 (.c v7) (.c v5) .nil h8) fun v9 h10 =>
 tR (fa 0 v7 h10) fun v11 h12 =>
 tR (ld v11 h12) fun v13 h14 =>
 ifR v13 (tR (o_bslice 3 1 1 [(pi 0)] [.mk 0 1 (.c x2)] .nil h14) fun v15 h16 =>
 tR (appV 3 1 x0 v15 h16) fun v17 h18 =>
 tR (b_add x2 (pi 1) h18) fun v19 h20 =>
 .nm (T34 v17 x1 v19) h20) (tR (b_add x2 (pi 1) h14) fun v21 h22 =>
 .nm (T34 x0 x1 v21) h22)) (.ex 0 (T34 x0 x1 x2) h4)) (y3 r) (y9 r) (y10 r)
def k27_1 : KF := fun c i x r h => (fun (x0 x1 : AV) =>
 tR (nic x0 h) fun v2 h3 =>
 tR (fa 4 v2 h3) fun v4 h5 =>
 tR (o_ldn 288 (.c v4) .nil h5) fun v6 h7 =>
 x (T34 x1 v6 (pi 0)) h7) (y0 r) (y3 r)
def k27_3 : KF := fun c i x r h => (fun (x0 : AV) =>
 .ret (T14 x0) h) (y3 r)
def k27_0 : KF := fun c i x r h => (fun (x0 : AV) =>
 x (T19 x0 .nils) h) (y0 r)
def x27 : AC := (.shal k27_0 (.seq (.shal k27_1 (.block 0 (.loop (.shal k27_2 .skip)))) (.shal k27_3 .skip)))
def z27 : List Rs := [.t .h0 .h2]
def f27 : AF := .mk x27 z27
def k28_0 : KF := fun c i x r h => (fun (x0 : AV) =>
 tR (o_alloc 53 3 (.k1 (.mk (pi 0) (pi 0) (.str []) .undef .undef .undef .undef .undef .undef .undef .undef .undef .undef .undef .undef .undef)) .nil h) fun v1 h2 =>
 tR (o_build [(pi 0),(pi 0),(.str [])] [.mk 0 1 (.c (pi 1)),.mk 1 1 (.c x0)] .nil h2) fun v3 h4 =>
 tR (o_stn 3 (.c v1) (.c v3) .nil h4) fun v5 h6 =>
 .ret (T14 v1) h6) (y0 r)
def x28 : AC := (.shal k28_0 .skip)
def z28 : List Rs := [.agg 3 .h0 .h2]
def f28 : AF := .mk x28 z28
def k29_0 : KF := fun c i x r h => (fun (x0 x1 : AV) =>
 tR (o_bslice 5 1 0 [] [] .nil h) fun v2 h3 =>
 tR (appV 5 1 v2 x0 h3) fun v4 h5 =>
 tR (cK (.toInt .u8) x1 h5) fun v6 h7 =>
 tR (o_bslice 5 1 1 [(.int .u8 (.ofNat 0))] [.mk 0 1 (.c v6)] .nil h7) fun v8 h9 =>
 tR (appV 5 1 v4 v8 h9) fun v10 h11 =>
 .ret (T15 v10) h11) (y0 r) (y1 r)
def x29 : AC := (.shal k29_0 .skip)
def z29 : List Rs := [.t .h0 .h4]
def f29 : AF := .mk x29 z29
def k30_2 : KF := fun c i x r h => (fun (x0 x1 x2 : AV) =>
 tR (b_lt x2 (pi 8) h) fun v3 h4 =>
 ifR v3 (tR (b_mul (pi 8) x2 h4) fun v5 h6 =>
 tR (cK (.toInt .u64) v5 h6) fun v7 h8 =>
 tR (bK .shr x0 v7 h8) fun v9 h10 =>
 tR (cK (.toInt .u8) v9 h10) fun v11 h12 =>
 tR (o_bslice 5 1 1 [(.int .u8 (.ofNat 0))] [.mk 0 1 (.c v11)] .nil h12) fun v13 h14 =>
 tR (appV 5 1 x1 v13 h14) fun v15 h16 =>
 tR (b_add x2 (pi 1) h16) fun v17 h18 =>
 .nm (T36 x0 v15 v17) h18) (.ex 0 (T36 x0 x1 x2) h4)) (y1 r) (y5 r) (y6 r)
def k30_1 : KF := fun c i x r h => (fun (x0 x1 : AV) =>
 x (T36 x0 x1 (pi 0)) h) (y1 r) (y5 r)
def k30_3 : KF := fun c i x r h => (fun (x0 : AV) =>
 .ret (T15 x0) h) (y5 r)
def k30_0 : KF := fun c i x r h => (fun (x0 x1 : AV) =>
 tR (o_bslice 5 1 0 [] [] .nil h) fun v2 h3 =>
 tR (appV 5 1 v2 x0 h3) fun v4 h5 =>
 x (T35 x1 v4) h5) (y0 r) (y1 r)
def x30 : AC := (.shal k30_0 (.seq (.shal k30_1 (.block 0 (.loop (.shal k30_2 .skip)))) (.shal k30_3 .skip)))
def z30 : List Rs := [.t .h0 .h4]
def f30 : AF := .mk x30 z30
def k31_0 : KF := fun c i x r h => (fun (x0 x1 : AV) =>
 tR (lent x1 h) fun v2 h3 =>
 tT (c 58 [x0,v2] h3) fun v4 h5 =>
 tR (o_apps 5 (.c v4) (.c x1) .nil h5) fun v6 h7 =>
 .ret (T15 v6) h7) (y0 r) (y1 r)
def x31 : AC := (.shal k31_0 .skip)
def z31 : List Rs := [.t .h0 .h4]
def f31 : AF := .mk x31 z31
def k32_0 : KF := fun c i x r h => (fun (x0 x1 : AV) =>
 tT (c 59 [x0] h) fun v2 h3 =>
 tR (nic x0 h3) fun v4 h5 =>
 tR (fa 1 v4 h5) fun v6 h7 =>
 tR (ld v6 h7) fun v8 h9 =>
 tR (o_apps 5 (.c v8) (.c x1) .nil h9) fun v10 h11 =>
 tR (nic x0 h11) fun v12 h13 =>
 tR (fa 1 v12 h13) fun v14 h15 =>
 tR (sto v14 v10 h15) fun v16 h17 =>
 tR (lent x1 h17) fun v18 h19 =>
 .ret (T37 v18 .nili) h19) (y0 r) (y1 r)
def x32 : AC := (.shal k32_0 .skip)
def z32 : List Rs := [.t .h0 .h4,.t .h0 .h5]
def f32 : AF := .mk x32 z32
def k33_0 : KF := fun c i x r h => (fun (x0 : AV) =>
 tT (c 60 [x0] h) fun v1 h2 =>
 .ret (T14 v1) h2) (y0 r)
def x33 : AC := (.shal k33_0 .skip)
def z33 : List Rs := [.t .h0 .h2]
def f33 : AF := .mk x33 z33
def k34_5 : KF := fun c i x r h => (fun (x0 x1 x2 x3 x4 x5 x6 x7 x8 : AV) =>
 tR (b_lt x8 x7 h) fun v9 h10 =>
 ifR v9 (tR (ix 3 x6 x8 h10) fun v11 h12 =>
 tR (o_ldn 3 (.c v11) .nil h12) fun v13 h14 =>
 tR (o_alloc 53 3 (.k1 (.mk (pi 0) (pi 0) (.str []) .undef .undef .undef .undef .undef .undef .undef .undef .undef .undef .undef .undef .undef)) .nil h14) fun v15 h16 =>
 tR (o_stn 3 (.c v15) (.c v13) .nil h16) fun v17 h18 =>
 tR (o_ldn 3 (.c v15) .nil h18) fun v19 h20 =>
 tT (c 61 [v19] h20) fun v21 h22 =>
 tR (o_bslice 9 1 1 [(.str [])] [.mk 0 1 (.c v21)] .nil h22) fun v23 h24 =>
 tR (appV 9 1 x2 v23 h24) fun v25 h26 =>
 tR (b_add x8 (pi 1) h26) fun v27 h28 =>
 .nm (T40 x0 x1 v25 x3 x4 x5 x6 x7 v27) h28) (.ex 2 (T40 x0 x1 x2 x3 x4 x5 x6 x7 x8) h10)) (y0 r) (y5 r) (y6 r) (y28 r) (y29 r) (y30 r) (y35 r) (y36 r) (y37 r)
def k34_4 : KF := fun c i x r h => (fun (x0 x1 x2 x3 x4 x5 : AV) =>
 tR (fa 0 x1 h) fun v6 h7 =>
 tR (ld v6 h7) fun v8 h9 =>
 tR (len v8 h9) fun v10 h11 =>
 x (T40 x0 x1 x2 x3 x4 x5 v8 v10 (pi 0)) h11) (y0 r) (y5 r) (y6 r) (y28 r) (y29 r) (y30 r)
def k34_3 : KF := fun c i x r h => (fun (x0 x1 x2 x3 : AV) =>
 tR (ix 2 x1 x3 h) fun v4 h5 =>
 tR (o_ldn 2 (.c v4) .nil h5) fun v6 h7 =>
 tR (o_alloc 51 2 (.k1 (.mk .nils (.cplx .f64 0 0) .undef .undef .undef .undef .undef .undef .undef .undef .undef .undef .undef .undef .undef .undef)) .nil h7) fun v8 h9 =>
 tR (o_stn 2 (.c v8) (.c v6) .nil h9) fun v10 h11 =>
 x (T39 x0 v8 .nils x1 x2 x3) h11) (y0 r) (y28 r) (y29 r) (y30 r)
def k34_6 : KF := fun c i x r h => (fun (x0 x1 x2 x3 : AV) =>
 tR (b_add x3 (pi 1) h) fun v4 h5 =>
 .nm (T38 x0 x1 x2 v4) h5) (y0 r) (y28 r) (y29 r) (y30 r)
def k34_2 : KF := fun c i x r h => (fun (x0 x1 x2 x3 : AV) =>
 tR (b_lt x3 x2 h) fun v4 h5 =>
 ifR v4 (x (T38 x0 x1 x2 x3) h5) (.ex 0 T27 h5)) (y0 r) (y28 r) (y29 r) (y30 r)
def k34_1 : KF := fun c i x r h => (fun (x0 x1 : AV) =>
 tR (fa 17 x1 h) fun v2 h3 =>
 tR (ld v2 h3) fun v4 h5 =>
 tR (len v4 h5) fun v6 h7 =>
 x (T38 x0 v4 v6 (pi 0)) h7) (y0 r) (y3 r)
def k34_0 : KF := fun c i x r h => (fun (x0 x1 : AV) =>
 tR (o_box 45 (.c x1) .nil h) fun v2 h3 =>
 x (T19 x0 v2) h3) (y0 r) (y1 r)
def x34 : AC := (.shal k34_0 (.seq (.drw [q 0 (o d10 (.fad 14 r3)),
 q 0 (o d11 (.fad 0 r10)),
 q 0 (o d12 (.ld1 r11)),
 w (.o d13 (.call 33 [r12])),
 q 1 (o d16 (.fad 14 r3)),
 q 1 (o d17 (.fad 1 r16)),
 q 1 (o d18 (.ld1 r17)),
 w (.o d19 (.call 33 [r18])),
 q 2 (m d9 r0),
 q 1 (o d14 (.bin .cat (.c (.str [32])) r13)),
 q 1 (o d15 (.bin .cat r14 (.c (.str [32])))),
 q 0 (o d20 (.bin .cat r15 r19)),
 q 0 (o d21 (.bin .cat r20 (.c (.str [32])))),
 q 2 (o d22 (.fad 14 r3)),
 q 2 (o d23 (.fad 2 r22)),
 q 2 (o d24 (.ld1 r23)),
 q 0 (o d25 (.bin .cat r21 r24)),
 w (.o d26 (.call 32 [r9,r25]))]) (.shal k34_1 (.block 0 (.loop (.shal k34_2 (.seq (.block 1 (.shal k34_3 (.seq (.shal k34_4 (.block 2 (.loop (.shal k34_5 .skip)))) (.drw [q 0 (m d48 r6),
 w (.o d49 (.call 62 [r48,(.c (.str [32]))])),
 q 1 (o d52 (.fad 1 r5)),
 q 1 (o d53 (.ld1 r52)),
 w (.o d54 (.call 64 [r53])),
 w (.o d55 (.call 63 [r54,(.c (pi 10))])),
 q 3 (m d47 r0),
 q 2 (o d50 (.bin .cat (.c (.str [32,91])) r49)),
 q 2 (o d51 (.bin .cat r50 (.c (.str [93,42])))),
 q 0 (o d56 (.bin .cat r51 r55)),
 w (.o d57 (.call 32 [r47,r56]))])))) (.shal k34_6 .skip))))))))
def z34 : List Rs := []
def f34 : AF := .mk x34 z34
def k35_0 : KF := fun c i x r h => (fun (x0 : AV) =>
 tQ (nic x0 h) fun v1 =>
 tQ (fa 1 v1 h) fun v2 =>
 tQ (ld v2 h) fun v3 =>
 tQ (o_ussd (.c v3) .nil h) fun v4 =>
 tQ (nic x0 h) fun v5 =>
 tQ (fa 1 v5 h) fun v6 =>
 tQ (ld v6 h) fun v7 =>
 tQ (len v7 h) fun v8 =>
 tX (RV.toT (o_ustr 5 (.c v4) (.c v8) .nil h)) fun v9 h10 =>
 .ret (T14 v9) h10) (y0 r)
def x35 : AC := (.shal k35_0 .skip)
def z35 : List Rs := [.t .h0 .h2]
def f35 : AF := .mk x35 z35
def k36_1 : KF := fun c i x r h => (fun (x0 x1 : AV) =>
 ifR x1 (.ret (T14 (.bool false)) h) (.nm (T24 x0) h)) (y1 r) (y36 r)
def k36_5 : KF := fun c i x r h => (fun (x0 x1 x2 x3 x4 : AV) =>
 ifR x4 (.ret (T14 (.bool false)) h) (.nm (T41 x0 x1 x2 x3) h)) (y1 r) (y38 r) (y39 r) (y40 r) (y55 r)
def k36_4 : KF := fun c i x r h => (fun (x0 x1 x2 x3 : AV) =>
 tR (ix 2 x1 x3 h) fun v4 h5 =>
 tR (o_ldn 2 (.c v4) .nil h5) fun v6 h7 =>
 tR (o_alloc 100 2 (.k1 (.mk (.str []) (pi 0) .undef .undef .undef .undef .undef .undef .undef .undef .undef .undef .undef .undef .undef .undef)) .nil h7) fun v8 h9 =>
 tR (o_stn 2 (.c v8) (.c v6) .nil h9) fun v10 h11 =>
 x (T42 x0 v8 x1 x2 x3) h11) (y1 r) (y38 r) (y39 r) (y40 r)
def k36_6 : KF := fun c i x r h => (fun (x0 x1 x2 x3 : AV) =>
 tR (b_add x3 (pi 1) h) fun v4 h5 =>
 .nm (T41 x0 x1 x2 v4) h5) (y1 r) (y38 r) (y39 r) (y40 r)
def k36_3 : KF := fun c i x r h => (fun (x0 x1 x2 x3 : AV) =>
 tR (b_lt x3 x2 h) fun v4 h5 =>
 ifR v4 (x (T41 x0 x1 x2 x3) h5) (.ex 0 (T24 x0) h5)) (y1 r) (y38 r) (y39 r) (y40 r)
def k36_2 : KF := fun c i x r h => (fun (x0 : AV) =>
 tR (fa 5 x0 h) fun v1 h2 =>
 tR (ld v1 h2) fun v3 h4 =>
 tR (len v3 h4) fun v5 h6 =>
 x (T41 x0 v3 v5 (pi 0)) h6) (y1 r)
def k36_10 : KF := fun c i x r h => (fun (x0 x1 x2 x3 : AV) =>
 ifR x3 (.ret (T14 (.bool false)) h) (.nm (T43 x0 x1 x2) h)) (y58 r) (y59 r) (y60 r) (y74 r)
def k36_9 : KF := fun c i x r h => (fun (x0 x1 x2 : AV) =>
 tR (ix 3 x0 x2 h) fun v3 h4 =>
 tR (o_ldn 3 (.c v3) .nil h4) fun v5 h6 =>
 tR (o_alloc 102 3 (.k1 (.mk (.str []) .nils (.bool false) .undef .undef .undef .undef .undef .undef .undef .undef .undef .undef .undef .undef .undef)) .nil h6) fun v7 h8 =>
 tR (o_stn 3 (.c v7) (.c v5) .nil h8) fun v9 h10 =>
 x (T44 v7 x0 x1 x2) h10) (y58 r) (y59 r) (y60 r)
def k36_11 : KF := fun c i x r h => (fun (x0 x1 x2 : AV) =>
 tR (b_add x2 (pi 1) h) fun v3 h4 =>
 .nm (T43 x0 x1 v3) h4) (y58 r) (y59 r) (y60 r)
def k36_8 : KF := fun c i x r h => (fun (x0 x1 x2 : AV) =>
 tR (b_lt x2 x1 h) fun v3 h4 =>
 ifR v3 (x (T43 x0 x1 x2) h4) (.ex 2 T27 h4)) (y58 r) (y59 r) (y60 r)
def k36_7 : KF := fun c i x r h => (fun (x0 : AV) =>
 tR (fa 6 x0 h) fun v1 h2 =>
 tR (ld v1 h2) fun v3 h4 =>
 tR (len v3 h4) fun v5 h6 =>
 x (T43 v3 v5 (pi 0)) h6) (y1 r)
def k36_12 : KF := fun c i x r h => .ret (T14 (.bool true)) h
def k36_0 : KF := fun c i x r h => (fun (x0 : AV) =>
 tR (o_box 30 (.c x0) .nil h) fun v1 h2 =>
 x (T24 v1) h2) (y0 r)
def x36 : AC := (.shal k36_0 (.seq (.seq (.ops [o d7 (.fad 0 r1),
 o d8 (.ld1 r7),
 o d9 (.fad 1 r1),
 o d10 (.ld1 r9),
 o d11 (.fad 2 r1),
 o d12 (.ld1 r11),
 o d13 (.bslice 3 1 3 [(pi 0),(pi 0),(pi 0)] [.mk 0 1 r8,.mk 1 1 r10,.mk 2 1 r12]),
 .o d14 (.call 65 [r13]),
 o d15 (.un .not r14),
 m d16 r15,
 .g .h1 .h0 false d17 (.op (.fad 3 r1)),
 .g .h1 .h0 false d18 (.op (.ld1 r17)),
 .g .h1 .h0 false d19 (.op (.fad 4 r1)),
 .g .h1 .h0 false d20 (.op (.ld1 r19)),
 .g .h1 .h0 false d21 (.op (.bslice 9 1 2 [(.str []),(.str [])] [.mk 0 1 r18,.mk 1 1 r20])),
 .g .h1 .h0 false d22 (.call 66 [r21]),
 .g .h1 .h0 false d23 (.op (.un .not r22)),
 o d24 (.pick r16 (.c (.bool true)) r23),
 m d25 r24,
 .g .h1 .h9 false d26 (.op (.fad 5 r1)),
 .g .h1 .h9 false d27 (.op (.ld1 r26)),
 .g .h1 .h9 false d28 (.op (.len r27)),
 .g .h1 .h9 false d29 (.op (.bin .gt r28 (.c (pi 255)))),
 o d30 (.pick r25 (.c (.bool true)) r29),
 m d31 r30,
 .g .h1 .hf false d32 (.op (.fad 6 r1)),
 .g .h1 .hf false d33 (.op (.ld1 r32)),
 .g .h1 .hf false d34 (.op (.len r33)),
 .g .h1 .hf false d35 (.op (.bin .gt r34 (.c (pi 255)))),
 o d36 (.pick r31 (.c (.bool true)) r35)]) (.shal k36_1 .skip)) (.seq (.shal k36_2 (.block 0 (.loop (.shal k36_3 (.seq (.block 1 (.shal k36_4 (.seq (.ops [o d44 (.fad 1 r4),
 o d45 (.ld1 r44),
 o d46 (.bslice 3 1 1 [(pi 0)] [.mk 0 1 r45]),
 .o d47 (.call 65 [r46]),
 o d48 (.un .not r47),
 m d49 r48,
 .g .h3 .h1 false d50 (.op (.fad 0 r4)),
 .g .h3 .h1 false d51 (.op (.ld1 r50)),
 .g .h3 .h1 false d52 (.op (.bslice 9 1 1 [(.str [])] [.mk 0 1 r51])),
 .g .h3 .h1 false d53 (.call 66 [r52]),
 .g .h3 .h1 false d54 (.op (.un .not r53)),
 o d55 (.pick r49 (.c (.bool true)) r54)]) (.shal k36_5 .skip)))) (.shal k36_6 .skip)))))) (.seq (.shal k36_7 (.block 2 (.loop (.shal k36_8 (.seq (.block 3 (.shal k36_9 (.seq (.ops [o d64 (.fad 0 r6),
 o d65 (.ld1 r64),
 o d66 (.bslice 9 1 1 [(.str [])] [.mk 0 1 r65]),
 .o d67 (.call 66 [r66]),
 o d68 (.un .not r67),
 m d69 r68,
 .g .h4 .h5 false d70 (.op (.fad 1 r6)),
 .g .h4 .h5 false d71 (.op (.ld1 r70)),
 .g .h4 .h5 false d72 (.call 67 [r71]),
 .g .h4 .h5 false d73 (.op (.un .not r72)),
 o d74 (.pick r69 (.c (.bool true)) r73)]) (.shal k36_10 .skip)))) (.shal k36_11 .skip)))))) (.shal k36_12 .skip)))))
def z36 : List Rs := [.t .h0 .h2]
def f36 : AF := .mk x36 z36
def k37_1 : KF := fun c i x r h => (fun (x0 x1 x2 : AV) =>
 tR (b_eq x2 (pi 0) h) fun v3 h4 =>
 ifR v3 (.ret T27 h4) (tR (nic x0 h4) fun v5 h6 =>
 tR (fa 0 v5 h6) fun v7 h8 =>
 tR (ld v7 h8) fun v9 h10 =>
 tR (cK (.toInt .u8) x1 h10) fun v11 h12 =>
 tR (o_bslice 5 1 1 [(.int .u8 (.ofNat 0))] [.mk 0 1 (.c v11)] .nil h12) fun v13 h14 =>
 tR (appV 5 1 v9 v13 h14) fun v15 h16 =>
 tR (nic x0 h16) fun v17 h18 =>
 tR (fa 0 v17 h18) fun v19 h20 =>
 tR (sto v19 v15 h20) fun v21 h22 =>
 tR (bK .shr x1 (.int .u64 (.ofNat 8)) h22) fun v23 h24 =>
 tR (b_sub x2 (pi 1) h24) fun v25 h26 =>
 .go 0 (T45 x0 v23 v25) h26)) (y0 r) (y1 r) (y6 r)
def k37_0 : KF := fun c i x r h => (fun (x0 x1 x2 : AV) =>
 x (T45 x0 x1 x2) h) (y0 r) (y1 r) (y2 r)
def x37 : AC := (.scope (.shal k37_0 (.seq (.label 0) (.shal k37_1 .skip))))
def z37 : List Rs := []
def f37 : AF := .mk x37 z37
def k38_0 : KF := fun c i x r h => (fun (x0 x1 : AV) =>
 tR (cK (.toInt .u64) x1 h) fun v2 h3 =>
 tT (c 37 [x0,v2,(pi 2)] h3) fun v4 h5 =>
 .nm T27 h5) (y0 r) (y1 r)
def x38 : AC := (.shal k38_0 .skip)
def z38 : List Rs := []
def f38 : AF := .mk x38 z38
def k39_0 : KF := fun c i x r h => (fun (x0 : AV) =>
 tR (bK (.isnil .s) x0 .nils h) fun v1 h2 =>
 ifR v1 (.ret (T14 .nils) h2) (tR (o_bslice 5 1 0 [] [] .nil h2) fun v3 h4 =>
 tR (appV 5 1 v3 x0 h4) fun v5 h6 =>
 .ret (T14 v5) h6)) (y0 r)
def x39 : AC := (.shal k39_0 .skip)
def z39 : List Rs := [.t .h0 .h2]
def f39 : AF := .mk x39 z39
def k40_2 : KF := fun c i x r h => (fun (x0 x1 x2 : AV) =>
 tR (b_gt x2 (pi 0) h) fun v3 h4 =>
 ifR v3 (tR (b_sub x2 (pi 1) h4) fun v5 h6 =>
 tR (bK .shl x0 (.int .u64 (.ofNat 8)) h6) fun v7 h8 =>
 tR (ix 1 x1 v5 h8) fun v9 h10 =>
 tR (ld v9 h10) fun v11 h12 =>
 tR (cK (.toInt .u64) v11 h12) fun v13 h14 =>
 tR (b_or v7 v13 h14) fun v15 h16 =>
 .go 0 (T48 u v15 x1 v5) h16) (.ret (T15 x0) h4)) (y5 r) (y6 r) (y7 r)
def k40_1 : KF := fun c i x r h => (fun (x0 x1 : AV) =>
 tT (c 68 [x0,x1] h) fun v2 h3 =>
 tR (len v2 h3) fun v4 h5 =>
 x (T47 (.int .u64 (.ofNat 0)) v2 v4) h5) (y0 r) (y1 r)
def k40_0 : KF := fun c i x r h => (fun (x0 x1 : AV) =>
 x (T46 x0 x1) h) (y0 r) (y1 r)
def x40 : AC := (.shal k40_0 (.scope (.shal k40_1 (.seq (.label 0) (.shal k40_2 .skip)))))
def z40 : List Rs := [.t .h0 .h4]
def f40 : AF := .mk x40 z40
def k45_1 : KF := fun c i x r h => (fun (x0 : AV) =>
 tR (o_build [(pi 0),(.str []),.nils,(pi 0),(.str []),.nils,(pi 0),(.str []),.nils,(pi 0),(.str []),.nils,(pi 0),(.str []),.nils,.nils] [] .nil h) fun v1 h2 =>
 tR (o_box 151 (.c v1) .nil h2) fun v3 h4 =>
 tR (o_build [.nilp,.nilp] [.mk 1 1 (.c v3)] .nil h4) fun v5 h6 =>
 tR (o_box 154 (.c v5) .nil h6) fun v7 h8 =>
 tR (nic v7 h8) fun v9 h10 =>
 tR (fa 1 v9 h10) fun v11 h12 =>
 tR (ld v11 h12) fun v13 h14 =>
 tT (c 74 [x0,(.iface 146 v13)] h14) fun v15 h16 =>
 tR (nic v7 h16) fun v17 h18 =>
 tR (fa 0 v17 h18) fun v19 h20 =>
 tR (sto v19 v15 h20) fun v21 h22 =>
 .ret (T4 v7 (pi 0)) h22) (y0 r)
def k45_0 : KF := fun c i x r h => (fun (x0 : AV) =>
 tR (b_lt x0 (pi 1) h) fun v1 h2 =>
 (fun (k3 : AV → Hp → RS) => gd v1 false (k3 x0 h2) (k3 unitV h2)) fun v4 h5 =>
 (fun (k6 : AV → Hp → RS) => gd v1 false (tR (b_gt v4 (pi 5) h5) fun v9 h10 =>
 k6 v9 h10) (k6 unitV h5)) fun v7 h8 =>
 tR (o_pick (.c v1) (.c (.bool true)) (.c v7) .nil h8) fun v11 h12 =>
 ifR v11 (.ret (T4 .nilp (pi 1)) h12) (x (T5 x0) h12)) (y0 r)
def x45 : AC := (.shal k45_0 (.shal k45_1 .skip))
def z45 : List Rs := [.t .h0 .h2,.t .h0 .h3]
def f45 : AF := .mk x45 z45
def k46_0 : KF := fun c i x r h => tT (c 75 [] h) fun v0 h1 =>
 tR (o_build [.nilp,(pi 0)] [.mk 0 1 (.c v0)] .nil h1) fun v2 h3 =>
 tR (o_box 159 (.c v2) .nil h3) fun v4 h5 =>
 .ret (T5 v4) h5
def x46 : AC := (.shal k46_0 .skip)
def z46 : List Rs := [.t .h0 .h0]
def f46 : AF := .mk x46 z46
def k58_0 : KF := fun c i x r h => (fun (x0 x1 : AV) =>
 tR (o_bslice 5 1 0 [] [] .nil h) fun v2 h3 =>
 tR (appV 5 1 v2 x0 h3) fun v4 h5 =>
 tR (cK (.toInt .u8) x1 h5) fun v6 h7 =>
 tR (bK .shr x1 (.int .u64 (.ofNat 8)) h7) fun v8 h9 =>
 tR (cK (.toInt .u8) v8 h9) fun v10 h11 =>
 tR (o_bslice 5 1 2 [(.int .u8 (.ofNat 0)),(.int .u8 (.ofNat 0))] [.mk 0 1 (.c v6),.mk 1 1 (.c v10)] .nil h11) fun v12 h13 =>
 tR (appV 5 1 v4 v12 h13) fun v14 h15 =>
 .ret (T15 v14) h15) (y0 r) (y1 r)
def x58 : AC := (.shal k58_0 .skip)
def z58 : List Rs := [.t .h0 .h4]
def f58 : AF := .mk x58 z58
def k59_1 : KF := fun c i x r h => (fun (x0 : AV) =>
 tR (cK .uto x0 h) fun v1 h2 =>
 tT (c 93 [v1] h2) fun v3 h4 =>
 tR (cK (.ufrom 86 2) v3 h4) fun v5 h6 =>
 tR (nic x0 h6) fun v7 h8 =>
 tR (fa 0 v7 h8) fun v9 h10 =>
 tR (sto v9 v5 h10) fun v11 h12 =>
 .nm T27 h12) (y0 r)
def k59_2 : KF := fun c i x r h => (fun (x0 : AV) =>
 tR (nic x0 h) fun v1 h2 =>
 tR (fa 0 v1 h2) fun v3 h4 =>
 tR (ld v3 h4) fun v5 h6 =>
 tR (bK .pne v5 x0 h6) fun v7 h8 =>
 x (T49 v7) h8) (y0 r)
def k59_0 : KF := fun c i x r h => (fun (x0 : AV) =>
 tR (nic x0 h) fun v1 h2 =>
 tR (fa 0 v1 h2) fun v3 h4 =>
 tR (ld v3 h4) fun v5 h6 =>
 tR (bK .peq v5 .nilp h6) fun v7 h8 =>
 x (T7 x0 v7) h8) (y0 r)
def x59 : AC := (.shal k59_0 (.cond r6 (.shal k59_1 .skip) (.shal k59_2 (.cond r19 (.bad 403) .skip))))
def z59 : List Rs := []
def f59 : AF := .mk x59 z59
def k60_0 : KF := fun c i x r h => (fun (x0 : AV) =>
 tT (c 94 [x0,(pi 10)] h) fun v1 h2 =>
 .ret (T14 v1) h2) (y0 r)
def x60 : AC := (.shal k60_0 .skip)
def z60 : List Rs := [.t .h0 .h2]
def f60 : AF := .mk x60 z60
def k61_3 : KF := fun c i x r h => (fun (x0 : AV) =>
 tR (fa 1 x0 h) fun v1 h2 =>
 tR (ld v1 h2) fun v3 h4 =>
 tT (c 63 [v3,(pi 10)] h4) fun v5 h6 =>
 .ret (T14 v5) h6) (y1 r)
def k61_9 : KF := fun c i x r h => (fun (x0 x1 x2 x3 x4 : AV) =>
 tR (o_bslice 5 1 1 [(.int .u8 (.ofNat 0))] [.mk 0 1 (.c x2)] .nil h) fun v5 h6 =>
 tR (appV 5 1 x1 v5 h6) fun v7 h8 =>
 .nm (T53 x0 v7 x3 x4) h8) (y1 r) (y3 r) (y5 r) (y21 r) (y22 r)
def k61_8 : KF := fun c i x r h => (fun (x0 x1 x2 x3 : AV) =>
 tR (fa 2 x0 h) fun v4 h5 =>
 tR (ld v4 h5) fun v6 h7 =>
 tR (o_idxs (.c v6) (.c x3) .nil h7) fun v8 h9 =>
 x (T54 x0 x1 v8 x2 x3) h9) (y1 r) (y3 r) (y21 r) (y22 r)
def k61_10 : KF := fun c i x r h => (fun (x0 x1 x2 x3 : AV) =>
 tR (b_add x3 (pi 1) h) fun v4 h5 =>
 .nm (T53 x0 x1 x2 v4) h5) (y1 r) (y3 r) (y21 r) (y22 r)
def k61_7 : KF := fun c i x r h => (fun (x0 x1 x2 x3 : AV) =>
 tR (b_lt x3 x2 h) fun v4 h5 =>
 ifR v4 (x (T53 x0 x1 x2 x3) h5) (.ex 1 (T21 x1) h5)) (y1 r) (y3 r) (y21 r) (y22 r)
def k61_6 : KF := fun c i x r h => (fun (x0 x1 : AV) =>
 tR (fa 2 x0 h) fun v2 h3 =>
 tR (ld v2 h3) fun v4 h5 =>
 tR (lent v4 h5) fun v6 h7 =>
 x (T53 x0 x1 v6 (pi 0)) h7) (y1 r) (y3 r)
def k61_11 : KF := fun c i x r h => (fun (x0 : AV) =>
 tR (o_bslice 5 1 1 [(.int .u8 (.ofNat 0))] [.mk 0 1 (.c (.int .u8 (.ofNat 34)))] .nil h) fun v1 h2 =>
 tR (appV 5 1 x0 v1 h2) fun v3 h4 =>
 tR (cK .b2s v3 h4) fun v5 h6 =>
 .ret (T14 v5) h6) (y3 r)
def k61_5 : KF := fun c i x r h => (fun (x0 : AV) =>
 tR (o_bslice 5 1 1 [(.int .u8 (.ofNat 0))] [.mk 0 1 (.c (.int .u8 (.ofNat 34)))] .nil h) fun v1 h2 =>
 x (T28 x0 v1) h2) (y1 r)
def k61_4 : KF := fun c i x r h => (fun (x0 x1 : AV) =>
 tR (b_eq x1 (pi 2) h) fun v2 h3 =>
 x (T52 x0 v2) h3) (y1 r) (y10 r)
def k61_2 : KF := fun c i x r h => (fun (x0 x1 : AV) =>
 tR (b_eq x1 (pi 1) h) fun v2 h3 =>
 x (T51 x0 x1 v2) h3) (y1 r) (y10 r)
def k61_1 : KF := fun c i x r h => (fun (x0 : AV) =>
 tR (fa 0 x0 h) fun v1 h2 =>
 tR (ld v1 h2) fun v3 h4 =>
 x (T50 x0 v3) h4) (y1 r)
def k61_12 : KF := fun c i x r h => .ret (T14 (.str [63])) h
def k61_0 : KF := fun c i x r h => (fun (x0 : AV) =>
 tR (o_box 53 (.c x0) .nil h) fun v1 h2 =>
 tR (o_ldn 3 (.c v1) .nil h2) fun v3 h4 =>
 tT (c 95 [v3] h4) fun v5 h6 =>
 tR (u_not v5 h6) fun v7 h8 =>
 ifR v7 (.ret (T14 (.str [63])) h8) (x (T24 v1) h8)) (y0 r)
def x61 : AC := (.shal k61_0 (.seq (.shal k61_1 (.block 0 (.shal k61_2 (.cond r11 (.shal k61_3 .skip) (.shal k61_4 (.cond r16 (.shal k61_5 (.seq (.shal k61_6 (.block 1 (.loop (.shal k61_7 (.seq (.block 2 (.shal k61_8 (.seq (.ops [m d29 r5,
 o d30 (.bin .ge r29 (.c (.int .u8 (.ofNat 32)))),
 m d31 r30,
 .g .h1 .hf true d32 (.op (.mv r5)),
 .g .h1 .hf true d33 (.op (.bin .le r32 (.c (.int .u8 (.ofNat 126))))),
 o d34 (.pick r31 r33 (.c (.bool false))),
 m d35 r34,
 .g .h2 .h3 true d36 (.op (.mv r5)),
 .g .h2 .h3 true d37 (.op (.bin .ne r36 (.c (.int .u8 (.ofNat 34))))),
 o d38 (.pick r35 r37 (.c (.bool false))),
 m d39 r38,
 .g .h2 .h7 true d40 (.op (.mv r5)),
 .g .h2 .h7 true d41 (.op (.bin .ne r40 (.c (.int .u8 (.ofNat 92))))),
 o d42 (.pick r39 r41 (.c (.bool false)))]) (.cond r42 (.shal k61_9 .skip) (.drw [q 0 (m d48 r5),
 q 0 (o d49 (.bin .shr r48 (.c (.int .u64 (.ofNat 4))))),
 q 0 (o d50 (.idxs (.c (.str [48,49,50,51,52,53,54,55,56,57,97,98,99,100,101,102])) r49)),
 q 0 (m d51 r5),
 q 0 (o d52 (.bin .and r51 (.c (.int .u8 (.ofNat 15))))),
 q 0 (o d53 (.idxs (.c (.str [48,49,50,51,52,53,54,55,56,57,97,98,99,100,101,102])) r52)),
 w (o d54 (.bslice 5 1 3 [(.int .u8 (.ofNat 0)),(.int .u8 (.ofNat 0)),(.int .u8 (.ofNat 0))] [.mk 0 1 (.c (.int .u8 (.ofNat 92))),.mk 1 1 r50,.mk 2 1 r53])),
 q 1 (m d47 r3),
 w (o d55 (.app 5 1 r47 r54)),
 q 0 (m d3 r55)]))))) (.shal k61_10 .skip)))))) (.shal k61_11 .skip))) .skip)))))) (.shal k61_12 .skip)))
def z61 : List Rs := [.t .h0 .h2]
def f61 : AF := .mk x61 z61
def k62_2 : KF := fun c i x r h => (fun (x0 x1 x2 : AV) =>
 tR (lent x1 h) fun v3 h4 =>
 tR (len x0 h4) fun v5 h6 =>
 tR (b_sub v5 (pi 1) h6) fun v7 h8 =>
 tR (b_quo (pi 9223372036854775807) v7 h8) fun v9 h10 =>
 tR (b_ge v3 v9 h10) fun v11 h12 =>
 x (T57 x0 x1 x2 v11) h12) (y0 r) (y1 r) (y5 r)
def k62_3 : KF := fun c i x r h => (fun (x0 x1 x2 : AV) =>
 tR (lent x1 h) fun v3 h4 =>
 tR (len x0 h4) fun v5 h6 =>
 tR (b_sub v5 (pi 1) h6) fun v7 h8 =>
 tR (b_mul v3 v7 h8) fun v9 h10 =>
 tR (b_add x2 v9 h10) fun v11 h12 =>
 .nm (T55 x0 x1 v11) h12) (y0 r) (y1 r) (y5 r)
def k62_1 : KF := fun c i x r h => (fun (x0 x1 x2 : AV) =>
 tR (lent x1 h) fun v3 h4 =>
 tR (b_gt v3 (pi 0) h4) fun v5 h6 =>
 x (T56 x0 x1 x2 v5) h6) (y0 r) (y1 r) (y5 r)
def k62_7 : KF := fun c i x r h => (fun (x0 x1 x2 x3 x4 x5 x6 : AV) =>
 tR (lent x3 h) fun v7 h8 =>
 tR (b_sub (pi 9223372036854775807) x2 h8) fun v9 h10 =>
 tR (b_gt v7 v9 h10) fun v11 h12 =>
 x (T60 x0 x1 x2 x3 x4 x5 x6 v11) h12) (y0 r) (y1 r) (y5 r) (y7 r) (y39 r) (y40 r) (y41 r)
def k62_8 : KF := fun c i x r h => (fun (x0 x1 x2 x3 x4 x5 x6 : AV) =>
 tR (lent x3 h) fun v7 h8 =>
 tR (b_add x2 v7 h8) fun v9 h10 =>
 .nm (T58 x0 x1 v9 x4 x5 x6) h10) (y0 r) (y1 r) (y5 r) (y7 r) (y39 r) (y40 r) (y41 r)
def k62_6 : KF := fun c i x r h => (fun (x0 x1 x2 x3 x4 x5 : AV) =>
 tR (ix 1 x3 x5 h) fun v6 h7 =>
 tR (ld v6 h7) fun v8 h9 =>
 x (T59 x0 x1 x2 v8 x3 x4 x5) h9) (y0 r) (y1 r) (y5 r) (y39 r) (y40 r) (y41 r)
def k62_9 : KF := fun c i x r h => (fun (x0 x1 x2 x3 x4 x5 : AV) =>
 tR (b_add x5 (pi 1) h) fun v6 h7 =>
 .nm (T58 x0 x1 x2 x3 x4 v6) h7) (y0 r) (y1 r) (y5 r) (y39 r) (y40 r) (y41 r)
def k62_5 : KF := fun c i x r h => (fun (x0 x1 x2 x3 x4 x5 : AV) =>
 tR (b_lt x5 x4 h) fun v6 h7 =>
 ifR v6 (x (T58 x0 x1 x2 x3 x4 x5) h7) (.ex 1 (T55 x0 x1 x2) h7)) (y0 r) (y1 r) (y5 r) (y39 r) (y40 r) (y41 r)
def k62_4 : KF := fun c i x r h => (fun (x0 x1 x2 : AV) =>
 tR (len x0 h) fun v3 h4 =>
 x (T58 x0 x1 x2 x0 v3 (pi 0)) h4) (y0 r) (y1 r) (y5 r)
def k62_12 : KF := fun c i x r h => (fun (x0 x1 x2 x3 x4 : AV) =>
 tR (b_lt x4 x3 h) fun v5 h6 =>
 ifR v5 (tR (ix 1 x2 x4 h6) fun v7 h8 =>
 tR (ld v7 h8) fun v9 h10 =>
 tT (c 32 [x1,x0] h10) fun v11 h12 =>
 tT (c 32 [x1,v9] h12) fun v13 h14 =>
 tR (b_add x4 (pi 1) h14) fun v15 h16 =>
 .nm (T62 x0 x1 x2 x3 v15) h16) (.ex 3 (T62 x0 x1 x2 x3 x4) h6)) (y1 r) (y8 r) (y63 r) (y64 r) (y65 r)
def k62_11 : KF := fun c i x r h => (fun (x0 x1 x2 : AV) =>
 tR (o_slc 1 (.c x0) (.some (.c (pi 1))) .none .none .nil h) fun v3 h4 =>
 tR (len v3 h4) fun v5 h6 =>
 x (T62 x1 x2 v3 v5 (pi 0)) h6) (y0 r) (y1 r) (y8 r)
def k62_13 : KF := fun c i x r h => (fun (x0 : AV) =>
 tT (c 35 [x0] h) fun v1 h2 =>
 .ret (T15 v1) h2) (y8 r)
def k62_10 : KF := fun c i x r h => (fun (x0 x1 x2 : AV) =>
 tR (o_alloc 86 2 (.k1 (.mk .nilp .nils .undef .undef .undef .undef .undef .undef .undef .undef .undef .undef .undef .undef .undef .undef)) .nil h) fun v3 h4 =>
 tT (c 96 [v3,x2] h4) fun v5 h6 =>
 tR (ix 1 x0 (pi 0) h6) fun v7 h8 =>
 tR (ld v7 h8) fun v9 h10 =>
 tT (c 32 [v3,v9] h10) fun v11 h12 =>
 x (T61 x0 x1 v3) h12) (y0 r) (y1 r) (y5 r)
def k62_0 : KF := fun c i x r h => (fun (x0 x1 : AV) =>
 tR (len x0 h) fun v2 h3 =>
 tR (b_eq v2 (pi 0) h3) fun v4 h5 =>
 ifR v4 (.ret (T15 (.str [])) h5) (tR (b_eq v2 (pi 1) h5) fun v6 h7 =>
 ifR v6 (tR (ix 1 x0 (pi 0) h7) fun v8 h9 =>
 tR (ld v8 h9) fun v10 h11 =>
 .ret (T15 v10) h11) (x (T55 x0 x1 (pi 0)) h7))) (y0 r) (y1 r)
def x62 : AC := (.shal k62_0 (.seq (.shal k62_1 (.cond r22 (.seq (.shal k62_2 (.cond r29 (.ops [o d30 (.mki 9 (.c (.str [115,116,114,105,110,103,115,58,32,74,111,105,110,32,111,117,116,112,117,116,32,108,101,110,103,116,104,32,111,118,101,114,102,108,111,119]))),
 o .no (.bad 400)]) .skip)) (.shal k62_3 .skip)) .skip)) (.seq (.shal k62_4 (.block 1 (.loop (.shal k62_5 (.seq (.block 2 (.shal k62_6 (.seq (.shal k62_7 (.cond r49 (.ops [o d50 (.mki 9 (.c (.str [115,116,114,105,110,103,115,58,32,74,111,105,110,32,111,117,116,112,117,116,32,108,101,110,103,116,104,32,111,118,101,114,102,108,111,119]))),
 o .no (.bad 400)]) .skip)) (.shal k62_8 .skip)))) (.shal k62_9 .skip)))))) (.shal k62_10 (.seq (.shal k62_11 (.block 3 (.loop (.shal k62_12 .skip)))) (.shal k62_13 .skip))))))
def z62 : List Rs := [.t .h0 .h4]
def f62 : AF := .mk x62 z62
def k63_0 : KF := fun c i x r h => (fun (x0 x1 : AV) =>
 tT (c 94 [x0,x1] h) fun v2 h3 =>
 .ret (T15 v2) h3) (y0 r) (y1 r)
def x63 : AC := (.shal k63_0 .skip)
def z63 : List Rs := [.t .h0 .h4]
def f63 : AF := .mk x63 z63
def k64_0 : KF := fun c i x r h => (fun (x0 : AV) =>
 tT (c 97 [x0] h) fun v1 h2 =>
 tR (o_ext 0 (.c v1) .nil h2) fun v3 h4 =>
 tR (o_ext 1 (.c v1) .nil h4) fun v5 h6 =>
 tR (o_ext 2 (.c v1) .nil h6) fun v7 h8 =>
 tR (b_sub v3 v5 h8) fun v9 h10 =>
 .ret (T14 v9) h10) (y0 r)
def x64 : AC := (.shal k64_0 .skip)
def z64 : List Rs := [.t .h0 .h2]
def f64 : AF := .mk x64 z64
def k65_3 : KF := fun c i x r h => (fun (x0 x1 x2 : AV) =>
 tR (b_add x2 (pi 1) h) fun v3 h4 =>
 .nm (T47 x0 x1 v3) h4) (y5 r) (y6 r) (y7 r)
def k65_2 : KF := fun c i x r h => (fun (x0 x1 x2 : AV) =>
 tR (b_lt x2 x1 h) fun v3 h4 =>
 ifR v3 (tR (ix 1 x0 x2 h4) fun v5 h6 =>
 tR (ld v5 h6) fun v7 h8 =>
 tR (b_lt v7 (ni 2147483647) h8) fun v9 h10 =>
 (fun (k11 : AV → Hp → RS) => gd v9 false (k11 v7 h10) (k11 unitV h10)) fun v12 h13 =>
 (fun (k14 : AV → Hp → RS) => gd v9 false (tR (b_gt v12 (pi 2147483647) h13) fun v17 h18 =>
 k14 v17 h18) (k14 unitV h13)) fun v15 h16 =>
 tR (o_pick (.c v9) (.c (.bool true)) (.c v15) .nil h16) fun v19 h20 =>
 ifR v19 (.ret (T14 (.bool false)) h20) (x (T47 x0 x1 x2) h20)) (.ex 0 T27 h4)) (y5 r) (y6 r) (y7 r)
def k65_1 : KF := fun c i x r h => (fun (x0 : AV) =>
 tR (len x0 h) fun v1 h2 =>
 x (T47 x0 v1 (pi 0)) h2) (y0 r)
def k65_4 : KF := fun c i x r h => .ret (T14 (.bool true)) h
def k65_0 : KF := fun c i x r h => (fun (x0 : AV) =>
 x (T5 x0) h) (y0 r)
def x65 : AC := (.shal k65_0 (.seq (.shal k65_1 (.block 0 (.loop (.shal k65_2 (.shal k65_3 .skip))))) (.shal k65_4 .skip)))
def z65 : List Rs := [.t .h0 .h2]
def f65 : AF := .mk x65 z65
def k66_2 : KF := fun c i x r h => (fun (x0 x1 x2 : AV) =>
 tR (b_lt x2 x1 h) fun v3 h4 =>
 ifR v3 (tR (ix 1 x0 x2 h4) fun v5 h6 =>
 tR (ld v5 h6) fun v7 h8 =>
 tR (lent v7 h8) fun v9 h10 =>
 tR (b_gt v9 (pi 65535) h10) fun v11 h12 =>
 ifR v11 (.ret (T14 (.bool false)) h12) (tR (b_add x2 (pi 1) h12) fun v13 h14 =>
 .nm (T47 x0 x1 v13) h14)) (.ex 0 (T47 x0 x1 x2) h4)) (y5 r) (y6 r) (y7 r)
def k66_1 : KF := fun c i x r h => (fun (x0 : AV) =>
 tR (len x0 h) fun v1 h2 =>
 x (T47 x0 v1 (pi 0)) h2) (y0 r)
def k66_3 : KF := fun c i x r h => .ret (T14 (.bool true)) h
def k66_0 : KF := fun c i x r h => (fun (x0 : AV) =>
 x (T5 x0) h) (y0 r)
def x66 : AC := (.shal k66_0 (.seq (.shal k66_1 (.block 0 (.loop (.shal k66_2 .skip)))) (.shal k66_3 .skip)))
def z66 : List Rs := [.t .h0 .h2]
def f66 : AF := .mk x66 z66
def k68_3 : KF := fun c i x r h => (fun (x0 x1 : AV) =>
 tQ (nic x0 h) fun v2 =>
 tQ (fa 0 v2 h) fun v3 =>
 tQ (ld v3 h) fun v4 =>
 tQ (nic x0 h) fun v5 =>
 tQ (fa 1 v5 h) fun v6 =>
 tQ (ld v6 h) fun v7 =>
 tQ (b_sub v7 x1 h) fun v8 =>
 tQ (nic x0 h) fun v9 =>
 tQ (fa 1 v9 h) fun v10 =>
 tQ (ld v10 h) fun v11 =>
 tQ (o_slc 1 (.c v4) (.some (.c v8)) (.some (.c v11)) .none .nil h) fun v12 =>
 .ret (T15 v12) h) (y0 r) (y1 r)
def k68_2 : KF := fun c i x r h => (fun (x0 x1 : AV) =>
 tR (nic x0 h) fun v2 h3 =>
 tR (fa 1 v2 h3) fun v4 h5 =>
 tR (ld v4 h5) fun v6 h7 =>
 tR (b_add v6 x1 h7) fun v8 h9 =>
 tR (nic x0 h9) fun v10 h11 =>
 tR (fa 1 v10 h11) fun v12 h13 =>
 tR (sto v12 v8 h13) fun v14 h15 =>
 x (T46 x0 x1) h15) (y0 r) (y1 r)
def k68_1 : KF := fun c i x r h => (fun (x0 x1 : AV) =>
 tQ (nic x0 h) fun v2 =>
 tQ (fa 0 v2 h) fun v3 =>
 tQ (ld v3 h) fun v4 =>
 tQ (len v4 h) fun v5 =>
 tQ (nic x0 h) fun v6 =>
 tQ (fa 1 v6 h) fun v7 =>
 tQ (ld v7 h) fun v8 =>
 tQ (b_sub v5 v8 h) fun v9 =>
 tQ (b_gt x1 v9 h) fun v10 =>
 ifR v10 (tR (nic x0 h) fun v11 h12 =>
 tR (fa 0 v11 h12) fun v13 h14 =>
 tR (ld v13 h14) fun v15 h16 =>
 tR (len v15 h16) fun v17 h18 =>
 tT (c 70 [x0,(pi 10),v17] h18) fun v19 h20 =>
 .ret (T15 .nils) h20) (x (T46 x0 x1) h)) (y0 r) (y1 r)
def k68_0 : KF := fun c i x r h => (fun (x0 x1 : AV) =>
 tR (nic x0 h) fun v2 h3 =>
 tR (fa 2 v2 h3) fun v4 h5 =>
 tR (ld v4 h5) fun v6 h7 =>
 tR (b_ne v6 (pi 0) h7) fun v8 h9 =>
 ifR v8 (.ret (T15 .nils) h9) (x (T46 x0 x1) h9)) (y0 r) (y1 r)
def x68 : AC := (.shal k68_0 (.shal k68_1 (.shal k68_2 (.shal k68_3 .skip))))
def z68 : List Rs := [.t .h0 .h4]
def f68 : AF := .mk x68 z68
def k74_3 : KF := fun c i x r h => (fun (x0 x1 x2 : AV) =>
 x (T66 x0 x2 x1 x2) h) (y5 r) (y12 r) (y13 r)
def k74_4 : KF := fun c i x r h => (fun (x0 x1 x2 : AV) =>
 tR (b_add x2 (pi 1) h) fun v3 h4 =>
 .nm (T64 x0 x1 v3) h4) (y5 r) (y12 r) (y13 r)
def k74_2 : KF := fun c i x r h => (fun (x0 x1 x2 : AV) =>
 tR (b_lt x2 x1 h) fun v3 h4 =>
 ifR v3 (x (T64 x0 x1 x2) h4) (.ex 0 (T65 x0) h4)) (y5 r) (y12 r) (y13 r)
def k74_1 : KF := fun c i x r h => (fun (x0 x1 : AV) =>
 x (T64 x1 x0 (pi 0)) h) (y0 r) (y5 r)
def k74_6 : KF := fun c i x r h => (fun (x0 x1 x2 x3 : AV) =>
 tR (b_lt x3 x2 h) fun v4 h5 =>
 ifR v4 (tR (ix 1 x1 x3 h5) fun v6 h7 =>
 tR (ld v6 h7) fun v8 h9 =>
 tT (c 99 [v8,(.bool false)] h9) fun v10 h11 =>
 tR (b_add x3 (pi 1) h11) fun v12 h13 =>
 .nm (T67 x0 x1 x2 v12) h13) (.ex 2 (T67 x0 x1 x2 x3) h5)) (y5 r) (y34 r) (y35 r) (y36 r)
def k74_5 : KF := fun c i x r h => (fun (x0 : AV) =>
 tR (nic x0 h) fun v1 h2 =>
 tR (fa 1 v1 h2) fun v3 h4 =>
 tR (ld v3 h4) fun v5 h6 =>
 tR (len v5 h6) fun v7 h8 =>
 x (T67 x0 v5 v7 (pi 0)) h8) (y5 r)
def k74_7 : KF := fun c i x r h => (fun (x0 : AV) =>
 .ret (T15 x0) h) (y5 r)
def k74_0 : KF := fun c i x r h => (fun (x0 x1 : AV) =>
 tR (o_build [.nils,.nils,.nili] [.mk 2 1 (.c x1)] .nil h) fun v2 h3 =>
 tR (o_box 180 (.c v2) .nil h3) fun v4 h5 =>
 x (T63 x0 v4) h5) (y0 r) (y1 r)
def x74 : AC := (.shal k74_0 (.seq (.shal k74_1 (.block 0 (.loop (.shal k74_2 (.seq (.block 1 (.shal k74_3 (.drw [w (.o d23 (.call 98 [])),
 q 1 (m d21 r5),
 q 1 (m d22 r6),
 q 0 (o d24 (.build [.nilp,(pi 0),.nilp,(pi 0),(.bool false),(pi 0),(pi 0),.nilp,.nilp,.nilp,(pi 0),.nilm,(pi 0),(pi 0),(pi 0),.nilm,(.str []),.nils,(pi 0),(pi 0),.nilm,(pi 0),(pi 0),(pi 0),(.bool false)] [.mk 0 1 r21,.mk 1 1 r22,.mk 2 1 r23])),
 w (o d25 (.box 194 r24)),
 w (o d26 (.bslice 181 1 1 [.nilp] [.mk 0 1 r25])),
 q 3 (m d17 r5),
 q 3 (o d18 (.nilc r17)),
 q 3 (o d19 (.fad 1 r18)),
 q 3 (o d20 (.ld1 r19)),
 w (o d27 (.app 181 1 r20 r26)),
 q 4 (m d16 r5),
 q 0 (o d28 (.nilc r16)),
 q 0 (o d29 (.fad 1 r28)),
 w (o .no (.st1 r29 r27))]))) (.shal k74_4 .skip)))))) (.seq (.shal k74_5 (.block 2 (.loop (.shal k74_6 .skip)))) (.shal k74_7 .skip))))
def z74 : List Rs := [.t .h0 .h4]
def f74 : AF := .mk x74 z74
def k75_0 : KF := fun c i x r h => tT (c 100 [] h) fun v0 h1 =>
 tR (o_mkmap .nil h1) fun v2 h3 =>
 tT (c 101 [] h3) fun v4 h5 =>
 tR (o_build [.nilp,.nils,.nilm,.nilp] [.mk 0 1 (.c v0),.mk 2 1 (.c v2),.mk 3 1 (.c v4)] .nil h5) fun v6 h7 =>
 tR (o_box 203 (.c v6) .nil h7) fun v8 h9 =>
 .ret (T5 v8) h9
def x75 : AC := (.shal k75_0 .skip)
def z75 : List Rs := [.t .h0 .h0]
def f75 : AF := .mk x75 z75
def k94_4 : KF := fun c i x r h => (fun (x0 x1 x2 x3 : AV) =>
 tR (b_add (pi 1) x3 h) fun v4 h5 =>
 tR (o_slca 24 1 (.c x1) (.some (.c (pi 1))) (.some (.c v4)) .none .nil h5) fun v6 h7 =>
 tT (c 127 [v6,x2] h7) fun v8 h9 =>
 tR (b_lt x0 (pi 0) h9) fun v10 h11 =>
 ifR v10 (tR (o_ixa 24 1 (.c x1) (.c (pi 0)) .nil h11) fun v12 h13 =>
 tR (sto v12 (.int .u8 (.ofNat 45)) h13) fun v14 h15 =>
 tR (b_add (pi 1) x3 h15) fun v16 h17 =>
 tR (o_slca 24 1 (.c x1) .none (.some (.c v16)) .none .nil h17) fun v18 h19 =>
 tR (cK .b2s v18 h19) fun v20 h21 =>
 .ret (T15 v20) h21) (tR (b_add (pi 1) x3 h11) fun v22 h23 =>
 tR (o_slca 24 1 (.c x1) (.some (.c (pi 1))) (.some (.c v22)) .none .nil h23) fun v24 h25 =>
 tR (cK .b2s v24 h25) fun v26 h27 =>
 .ret (T15 v26) h27)) (y0 r) (y5 r) (y6 r) (y7 r)
def k94_3 : KF := fun c i x r h => (fun (x0 : AV) =>
 tR (o_alloc 231 24 (.k2 (.mk (.mk (.int .u8 (.ofNat 0)) (.int .u8 (.ofNat 0)) (.int .u8 (.ofNat 0)) (.int .u8 (.ofNat 0)) (.int .u8 (.ofNat 0)) (.int .u8 (.ofNat 0)) (.int .u8 (.ofNat 0)) (.int .u8 (.ofNat 0)) (.int .u8 (.ofNat 0)) (.int .u8 (.ofNat 0)) (.int .u8 (.ofNat 0)) (.int .u8 (.ofNat 0)) (.int .u8 (.ofNat 0)) (.int .u8 (.ofNat 0)) (.int .u8 (.ofNat 0)) (.int .u8 (.ofNat 0))) (.mk (.int .u8 (.ofNat 0)) (.int .u8 (.ofNat 0)) (.int .u8 (.ofNat 0)) (.int .u8 (.ofNat 0)) (.int .u8 (.ofNat 0)) (.int .u8 (.ofNat 0)) (.int .u8 (.ofNat 0)) (.int .u8 (.ofNat 0)) .undef .undef .undef .undef .undef .undef .undef .undef) .nil .nil .nil .nil .nil .nil .nil .nil .nil .nil .nil .nil .nil .nil)) .nil h) fun v1 h2 =>
 tR (cK (.toInt .u64) x0 h2) fun v3 h4 =>
 tR (b_lt x0 (pi 0) h4) fun v5 h6 =>
 ifR v5 (tR (u_neg v3 h6) fun v7 h8 =>
 tT (c 126 [v7] h8) fun v9 h10 =>
 x (T69 x0 v1 v7 v9) h10) (tT (c 126 [v3] h6) fun v11 h12 =>
 x (T69 x0 v1 v3 v11) h12)) (y0 r)
def k94_2 : KF := fun c i x r h => (fun (x0 : AV) =>
 tR (b_le (pi 0) x0 h) fun v1 h2 =>
 (fun (k3 : AV → Hp → RS) => gd v1 true (k3 x0 h2) (k3 unitV h2)) fun v4 h5 =>
 (fun (k6 : AV → Hp → RS) => gd v1 true (tR (b_lt v4 (pi 100) h5) fun v9 h10 =>
 k6 v9 h10) (k6 unitV h5)) fun v7 h8 =>
 tR (o_pick (.c v1) (.c v7) (.c (.bool false)) .nil h8) fun v11 h12 =>
 ifR v11 (tT (c 125 [x0] h12) fun v13 h14 =>
 .ret (T15 v13) h14) (x (T5 x0) h12)) (y0 r)
def k94_1 : KF := fun c i x r h => (fun (x0 x1 : AV) =>
 tR (b_eq x1 (pi 10) h) fun v2 h3 =>
 x (T68 x0 x1 v2) h3) (y0 r) (y1 r)
def k94_5 : KF := fun c i x r h => (fun (x0 x1 : AV) =>
 tR (cK (.toInt .u64) x0 h) fun v2 h3 =>
 tR (b_lt x0 (pi 0) h3) fun v4 h5 =>
 tT (c 128 [.nils,v2,x1,v4,(.bool false)] h5) fun v6 h7 =>
 tR (o_ext 0 (.c v6) .nil h7) fun v8 h9 =>
 tR (o_ext 1 (.c v6) .nil h9) fun v10 h11 =>
 .ret (T15 v10) h11) (y0 r) (y1 r)
def k94_0 : KF := fun c i x r h => (fun (x0 x1 : AV) =>
 x (T46 x0 x1) h) (y0 r) (y1 r)
def x94 : AC := (.shal k94_0 (.seq (.shal k94_1 (.cond r11 (.shal k94_2 (.shal k94_3 (.shal k94_4 .skip))) .skip)) (.shal k94_5 .skip)))
def z94 : List Rs := [.t .h0 .h4]
def f94 : AF := .mk x94 z94
def k95_3 : KF := fun c i x r h => (fun (x0 : AV) =>
 tR (fa 2 x0 h) fun v1 h2 =>
 tR (ld v1 h2) fun v3 h4 =>
 tR (b_seq v3 (.str []) h4) fun v5 h6 =>
 .ret (T14 v5) h6) (y1 r)
def k95_4 : KF := fun c i x r h => (fun (x0 x1 : AV) =>
 tR (b_eq x1 (pi 2) h) fun v2 h3 =>
 x (T50 x0 v2) h3) (y1 r) (y4 r)
def k95_2 : KF := fun c i x r h => (fun (x0 x1 : AV) =>
 tR (b_eq x1 (pi 1) h) fun v2 h3 =>
 x (T71 x0 x1 v2) h3) (y1 r) (y4 r)
def k95_1 : KF := fun c i x r h => (fun (x0 : AV) =>
 tR (fa 0 x0 h) fun v1 h2 =>
 tR (ld v1 h2) fun v3 h4 =>
 x (T70 x0 v3) h4) (y1 r)
def k95_5 : KF := fun c i x r h => .ret (T14 (.bool false)) h
def k95_0 : KF := fun c i x r h => (fun (x0 : AV) =>
 tR (o_box 53 (.c x0) .nil h) fun v1 h2 =>
 x (T24 v1) h2) (y0 r)
def x95 : AC := (.shal k95_0 (.seq (.shal k95_1 (.block 0 (.shal k95_2 (.cond r5 (.shal k95_3 .skip) (.shal k95_4 (.cond r10 (.seq (.ops [o d12 (.fad 1 r1),
 o d13 (.ld1 r12),
 o d14 (.bin .eq r13 a0),
 m d15 r14,
 .g .h0 .hf true d16 (.op (.fad 2 r1)),
 .g .h0 .hf true d17 (.op (.ld1 r16)),
 .g .h0 .hf true d18 (.op (.lent r17)),
 .g .h0 .hf true d19 (.op (.bin .le r18 (.c (pi 40)))),
 o d20 (.pick r15 r19 (.c (.bool false))),
 m d2 r20]) .ret) .skip)))))) (.shal k95_5 .skip)))
def z95 : List Rs := [.t .h0 .h2]
def f95 : AF := .mk x95 z95
def k96_1 : KF := fun c i x r h => (fun (x0 x1 : AV) =>
 tR (b_lt x1 (pi 0) h) fun v2 h3 =>
 x (T72 x0 x1 v2) h3) (y0 r) (y1 r)
def k96_2 : KF := fun c i x r h => (fun (x0 x1 : AV) =>
 tQ (nic x0 h) fun v2 =>
 tQ (fa 1 v2 h) fun v3 =>
 tQ (ld v3 h) fun v4 =>
 tQ (o_cap (.c v4) .nil h) fun v5 =>
 tQ (nic x0 h) fun v6 =>
 tQ (fa 1 v6 h) fun v7 =>
 tQ (ld v7 h) fun v8 =>
 tQ (len v8 h) fun v9 =>
 tQ (b_sub v5 v9 h) fun v10 =>
 tQ (b_lt v10 x1 h) fun v11 =>
 ifR v11 (tT (c 129 [x0,x1] h) fun v12 h13 =>
 .nm T27 h13) (.nm T27 h)) (y0 r) (y1 r)
def k96_0 : KF := fun c i x r h => (fun (x0 x1 : AV) =>
 tT (c 59 [x0] h) fun v2 h3 =>
 x (T46 x0 x1) h3) (y0 r) (y1 r)
def x96 : AC := (.shal k96_0 (.seq (.shal k96_1 (.cond r7 (.ops [o d8 (.mki 9 (.c (.str [115,116,114,105,110,103,115,46,66,117,105,108,100,101,114,46,71,114,111,119,58,32,110,101,103,97,116,105,118,101,32,99,111,117,110,116]))),
 o .no (.bad 400)]) .skip)) (.shal k96_2 .skip)))
def z96 : List Rs := []
def f96 : AF := .mk x96 z96
def k97_0 : KF := fun c i x r h => (fun (x0 : AV) =>
 tT (c 130 [x0] h) fun v1 h2 =>
 tR (u_not v1 h2) fun v3 h4 =>
 ifR v3 (.ret (T73 (pi 0) (pi 0) (.bool false)) h4) (tR (o_real false (.c x0) .nil h4) fun v5 h6 =>
 tR (cK (.f2i .i64) v5 h6) fun v7 h8 =>
 tR (o_real true (.c x0) .nil h8) fun v9 h10 =>
 tR (cK (.f2i .i64) v9 h10) fun v11 h12 =>
 .ret (T73 v7 v11 (.bool true)) h12)) (y0 r)
def x97 : AC := (.shal k97_0 .skip)
def z97 : List Rs := [.t .h0 .h2,.t .h0 .h3,.t .h0 .h4]
def f97 : AF := .mk x97 z97
def k98_0 : KF := fun c i x r h => tR (o_build [.nils,(pi 0)] [] .nil h) fun v0 h1 =>
 tR (o_box 239 (.c v0) .nil h1) fun v2 h3 =>
 .ret (T5 v2) h3
def x98 : AC := (.shal k98_0 .skip)
def z98 : List Rs := [.t .h0 .h0]
def f98 : AF := .mk x98 z98
def k99_6 : KF := fun c i x r h => (fun (x0 x1 x2 x3 : AV) =>
 tR (b_lt x3 x2 h) fun v4 h5 =>
 ifR v4 (tR (ix 1 x1 x3 h5) fun v6 h7 =>
 tR (ld v6 h7) fun v8 h9 =>
 tT (c 21 [v8] h9) fun v10 h11 =>
 tT (c 137 [x0,v10] h11) fun v12 h13 =>
 tR (b_add x3 (pi 1) h13) fun v14 h15 =>
 .nm (T75 x0 x1 x2 v14) h15) (.ex 0 (T75 x0 x1 x2 x3) h5)) (y0 r) (y81 r) (y82 r) (y83 r)
def k99_5 : KF := fun c i x r h => (fun (x0 x1 : AV) =>
 tR (len x1 h) fun v2 h3 =>
 x (T75 x0 x1 v2 (pi 0)) h3) (y0 r) (y4 r)
def k99_9 : KF := fun c i x r h => (fun (x0 : AV) =>
 tT (c 139 [x0] h) fun v1 h2 =>
 .nm T27 h2) (y0 r)
def k99_8 : KF := fun c i x r h => (fun (x0 : AV) =>
 tQ (nic x0 h) fun v1 =>
 tQ (fa 0 v1 h) fun v2 =>
 tQ (ld v2 h) fun v3 =>
 tQ (nic v3 h) fun v4 =>
 tQ (fa 2 v4 h) fun v5 =>
 tQ (ld v5 h) fun v6 =>
 tQ (nic x0 h) fun v7 =>
 tQ (fa 1 v7 h) fun v8 =>
 tQ (ld v8 h) fun v9 =>
 tQ (nic x0 h) fun v10 =>
 tQ (fa 13 v10 h) fun v11 =>
 tQ (fa 1 v11 h) fun v12 =>
 tQ (ld v12 h) fun v13 =>
 tQ (nic x0 h) fun v14 =>
 tQ (fa 13 v14 h) fun v15 =>
 tQ (fa 3 v15 h) fun v16 =>
 tQ (ld v16 h) fun v17 =>
 tQ (nic v6 h) fun v18 =>
 tX (i 0 v6 [v9,v13,v17] h) fun v19 h20 =>
 x (T5 x0) h20) (y0 r)
def k99_7 : KF := fun c i x r h => (fun (x0 : AV) =>
 tR (nic x0 h) fun v1 h2 =>
 tR (fa 6 v1 h2) fun v3 h4 =>
 tR (ld v3 h4) fun v5 h6 =>
 tR (b_add v5 (pi 1) h6) fun v7 h8 =>
 tR (nic x0 h8) fun v9 h10 =>
 tR (fa 6 v9 h10) fun v11 h12 =>
 tR (sto v11 v7 h12) fun v13 h14 =>
 tT (c 138 [x0] h14) fun v15 h16 =>
 x (T5 x0) h16) (y0 r)
def k99_4 : KF := fun c i x r h => (fun (x0 : AV) =>
 tR (nic x0 h) fun v1 h2 =>
 tR (fa 2 v1 h2) fun v3 h4 =>
 tR (ld v3 h4) fun v5 h6 =>
 tT (c 136 [v5] h6) fun v7 h8 =>
 tT (c 135 [v7] h8) fun v9 h10 =>
 tR (o_ext 0 (.c v9) .nil h10) fun v11 h12 =>
 tR (o_ext 1 (.c v9) .nil h12) fun v13 h14 =>
 x (T74 x0 v11) h14) (y0 r)
def k99_3 : KF := fun c i x r h => (fun (x0 x1 : AV) =>
 tR (nic x0 h) fun v2 h3 =>
 tR (fa 3 v2 h3) fun v4 h5 =>
 tR (ld v4 h5) fun v6 h7 =>
 tR (nic x0 h7) fun v8 h9 =>
 tR (fa 19 v8 h9) fun v10 h11 =>
 tR (sto v10 (pi 0) h11) fun v12 h13 =>
 tR (nic x0 h13) fun v14 h15 =>
 tR (fa 22 v14 h15) fun v16 h17 =>
 tR (sto v16 (pi 0) h17) fun v18 h19 =>
 tR (nic x0 h19) fun v20 h21 =>
 tR (fa 23 v20 h21) fun v22 h23 =>
 tR (sto v22 v6 h23) fun v24 h25 =>
 tR (nic x0 h25) fun v26 h27 =>
 tR (fa 24 v26 h27) fun v28 h29 =>
 tR (sto v28 x1 h29) fun v30 h31 =>
 x (T5 x0) h31) (y0 r) (y1 r)
def k99_2 : KF := fun c i x r h => (fun (x0 x1 : AV) =>
 tR (o_build [(pi 0),(pi 0),.nilm,(.str [])] [] .nil h) fun v2 h3 =>
 tR (nic x0 h3) fun v4 h5 =>
 tR (fa 13 v4 h5) fun v6 h7 =>
 tR (o_stn 4 (.c v6) (.c v2) .nil h7) fun v8 h9 =>
 x (T46 x0 x1) h9) (y0 r) (y1 r)
def k99_1 : KF := fun c i x r h => (fun (x0 x1 : AV) =>
 tR (o_mkmap .nil h) fun v2 h3 =>
 tR (nic x0 h3) fun v4 h5 =>
 tR (fa 11 v4 h5) fun v6 h7 =>
 tR (sto v6 v2 h7) fun v8 h9 =>
 tR (nic x0 h9) fun v10 h11 =>
 tR (fa 17 v10 h11) fun v12 h13 =>
 tR (sto v12 .nils h13) fun v14 h15 =>
 tR (nic x0 h15) fun v16 h17 =>
 tR (fa 18 v16 h17) fun v18 h19 =>
 tR (sto v18 (pi 0) h19) fun v20 h21 =>
 tR (nic x0 h21) fun v22 h23 =>
 tR (fa 6 v22 h23) fun v24 h25 =>
 tR (sto v24 (pi 0) h25) fun v26 h27 =>
 tR (nic x0 h27) fun v28 h29 =>
 tR (fa 10 v28 h29) fun v30 h31 =>
 tR (sto v30 (pi 0) h31) fun v32 h33 =>
 tR (nic x0 h33) fun v34 h35 =>
 tR (fa 12 v34 h35) fun v36 h37 =>
 tR (sto v36 (pi 0) h37) fun v38 h39 =>
 x (T46 x0 x1) h39) (y0 r) (y1 r)
def k99_0 : KF := fun c i x r h => (fun (x0 x1 : AV) =>
 tR (nic x0 h) fun v2 h3 =>
 tR (fa 4 v2 h3) fun v4 h5 =>
 tR (sto v4 (.bool true) h5) fun v6 h7 =>
 x (T46 x0 x1) h7) (y0 r) (y1 r)
def x99 : AC := (.shal k99_0 (.seq (.drw [w (.o d14 (.call 131 [])),
 w (.o d15 (.call 132 [])),
 q 2 (m d20 r0),
 q 2 (o d21 (.nilc r20)),
 q 2 (o d22 (.fad 0 r21)),
 q 2 (o d23 (.ld1 r22)),
 w (.o d24 (.call 134 [r23])),
 q 3 (m d16 r0),
 q 3 (o d17 (.nilc r16)),
 q 3 (o d18 (.fad 1 r17)),
 q 3 (o d19 (.ld1 r18)),
 w (.o d25 (.call 133 [r19,r24])),
 q 4 (m d11 r0),
 q 0 (o d26 (.nilc r11)),
 q 0 (o d27 (.fad 7 r26)),
 w (o .no (.st1 r27 r14)),
 q 5 (m d12 r0),
 q 0 (o d28 (.nilc r12)),
 q 0 (o d29 (.fad 9 r28)),
 w (o .no (.st1 r29 r15)),
 q 6 (m d13 r0),
 q 0 (o d30 (.nilc r13)),
 q 0 (o d31 (.fad 8 r30)),
 w (o .no (.st1 r31 r25))]) (.shal k99_1 (.shal k99_2 (.shal k99_3 (.shal k99_4 (.seq (.shal k99_5 (.block 0 (.loop (.shal k99_6 .skip)))) (.shal k99_7 (.shal k99_8 (.shal k99_9 .skip))))))))))
def z99 : List Rs := []
def f99 : AF := .mk x99 z99
def k100_0 : KF := fun c i x r h => tR (o_build [.nils,.nils] [] .nil h) fun v0 h1 =>
 tR (o_box 250 (.c v0) .nil h1) fun v2 h3 =>
 .ret (T5 v2) h3
def x100 : AC := (.shal k100_0 .skip)
def z100 : List Rs := [.t .h0 .h0]
def f100 : AF := .mk x100 z100
def k101_0 : KF := fun c i x r h => tR (o_build [(pi 0),(pi 0),(pi 0),(.str []),(pi 0),(pi 0),(pi 0),(.str []),(pi 0),(pi 0),(pi 0),(.str []),(pi 0),(pi 0),(pi 0),(.str []),(pi 0),(pi 0),(pi 0),(.str []),(pi 0),(pi 0),(pi 0),(.str []),(pi 0),(pi 0),(pi 0),(.str []),(pi 0),(pi 0),(pi 0),(.str []),(pi 0),(pi 0),(pi 0),(.str []),(pi 0),(pi 0),(pi 0),(.str []),(pi 0),(pi 0),(pi 0),(.str []),(pi 0),(pi 0),(pi 0),(.str []),(pi 0),(pi 0),(pi 0),(.str []),(pi 0),(pi 0),(pi 0),(.str []),(pi 0),(pi 0),(pi 0),(.str []),(pi 0),(pi 0),(pi 0),(.str [])] [] .nil h) fun v0 h1 =>
 tR (o_box 255 (.c v0) .nil h1) fun v2 h3 =>
 .ret (T5 v2) h3
def x101 : AC := (.shal k101_0 .skip)
def z101 : List Rs := [.t .h0 .h0]
def f101 : AF := .mk x101 z101
def k125_0 : KF := fun c i x r h => (fun (x0 : AV) =>
 tR (b_lt x0 (pi 10) h) fun v1 h2 =>
 ifR v1 (tR (b_add x0 (pi 1) h2) fun v3 h4 =>
 tR (o_slcs (.c (.str [48,49,50,51,52,53,54,55,56,57,97,98,99,100,101,102,103,104,105,106,107,108,109,110,111,112,113,114,115,116,117,118,119,120,121,122])) (.some (.c x0)) (.some (.c v3)) .nil h4) fun v5 h6 =>
 .ret (T14 v5) h6) (tR (b_mul x0 (pi 2) h2) fun v7 h8 =>
 tR (b_mul x0 (pi 2) h8) fun v9 h10 =>
 tR (b_add v9 (pi 2) h10) fun v11 h12 =>
 tR (o_slcs (.c (.str [48,48,48,49,48,50,48,51,48,52,48,53,48,54,48,55,48,56,48,57,49,48,49,49,49,50,49,51,49,52,49,53,49,54,49,55,49,56,49,57,50,48,50,49,50,50,50,51,50,52,50,53,50,54,50,55,50,56,50,57,51,48,51,49,51,50,51,51,51,52,51,53,51,54,51,55,51,56,51,57,52,48,52,49,52,50,52,51,52,52,52,53,52,54,52,55,52,56,52,57,53,48,53,49,53,50,53,51,53,52,53,53,53,54,53,55,53,56,53,57,54,48,54,49,54,50,54,51,54,52,54,53,54,54,54,55,54,56,54,57,55,48,55,49,55,50,55,51,55,52,55,53,55,54,55,55,55,56,55,57,56,48,56,49,56,50,56,51,56,52,56,53,56,54,56,55,56,56,56,57,57,48,57,49,57,50,57,51,57,52,57,53,57,54,57,55,57,56,57,57])) (.some (.c v7)) (.some (.c v11)) .nil h12) fun v13 h14 =>
 .ret (T14 v13) h14)) (y0 r)
def x125 : AC := (.shal k125_0 .skip)
def z125 : List Rs := [.t .h0 .h2]
def f125 : AF := .mk x125 z125
def k126_0 : KF := fun c i x r h => (fun (x0 : AV) =>
 tT (c 171 [x0] h) fun v1 h2 =>
 tT (c 170 [v1] h2) fun v3 h4 =>
 tR (o_ixa 20 1 (.c (.ptr (.mk .h0 .h0 .h0 .h0) 0)) (.c v3) .nil h4) fun v5 h6 =>
 tR (ld v5 h6) fun v7 h8 =>
 tR (b_ge x0 v7 h8) fun v9 h10 =>
 tT (c 172 [v9] h10) fun v11 h12 =>
 tR (b_add v3 v11 h12) fun v13 h14 =>
 .ret (T14 v13) h14) (y0 r)
def x126 : AC := (.shal k126_0 .skip)
def z126 : List Rs := [.t .h0 .h2]
def f126 : AF := .mk x126 z126
def k127_4 : KF := fun c i x r h => (fun (x0 x1 x2 : AV) =>
 tR (b_sub x2 (pi 8) h) fun v3 h4 =>
 .nm (T76 x0 x1 v3) h4) (y0 r) (y1 r) (y4 r)
def k127_3 : KF := fun c i x r h => (fun (x0 x1 x2 x3 x4 x5 : AV) =>
 tR (b_quo x3 (.int .u32 (.ofNat 100)) h) fun v6 h7 =>
 tR (b_mul v6 (.int .u32 (.ofNat 2)) h7) fun v8 h9 =>
 tR (b_rem x3 (.int .u32 (.ofNat 100)) h9) fun v10 h11 =>
 tR (b_mul v10 (.int .u32 (.ofNat 2)) h11) fun v12 h13 =>
 x (T78 x0 x1 x2 x4 x5 v8 v12) h13) (y0 r) (y1 r) (y4 r) (y6 r) (y8 r) (y9 r)
def k127_2 : KF := fun c i x r h => (fun (x0 x1 x2 : AV) =>
 tR (b_rem x1 (.int .u64 (.ofNat 100000000)) h) fun v3 h4 =>
 tR (cK (.toInt .u32) v3 h4) fun v5 h6 =>
 tR (b_quo x1 (.int .u64 (.ofNat 100000000)) h6) fun v7 h8 =>
 tR (b_quo v5 (.int .u32 (.ofNat 10000)) h8) fun v9 h10 =>
 tR (b_rem v5 (.int .u32 (.ofNat 10000)) h10) fun v11 h12 =>
 tR (b_quo v11 (.int .u32 (.ofNat 100)) h12) fun v13 h14 =>
 tR (b_mul v13 (.int .u32 (.ofNat 2)) h14) fun v15 h16 =>
 tR (b_rem v11 (.int .u32 (.ofNat 100)) h16) fun v17 h18 =>
 tR (b_mul v17 (.int .u32 (.ofNat 2)) h18) fun v19 h20 =>
 x (T77 x0 v7 x2 v9 v15 v19) h20) (y0 r) (y1 r) (y4 r)
def k127_1 : KF := fun c i x r h => (fun (x0 x1 x2 : AV) =>
 tR (b_ge x2 (pi 8) h) fun v3 h4 =>
 ifR v3 (x (T76 x0 x1 x2) h4) (.ex 0 (T76 x0 x1 x2) h4)) (y0 r) (y1 r) (y4 r)
def k127_6 : KF := fun c i x r h => (fun (x0 x1 x2 : AV) =>
 tR (b_ge x1 (pi 4) h) fun v3 h4 =>
 x (T80 x0 x1 x2 v3) h4) (y0 r) (y4 r) (y12 r)
def k127_7 : KF := fun c i x r h => (fun (x0 x1 x2 : AV) =>
 tR (b_ge x1 (pi 2) h) fun v3 h4 =>
 x (T81 x0 x1 x2 v3) h4) (y0 r) (y4 r) (y12 r)
def k127_8 : KF := fun c i x r h => (fun (x0 x1 x2 : AV) =>
 tR (b_gt x1 (pi 0) h) fun v3 h4 =>
 ifR v3 (tR (b_add (.int .u32 (.ofNat 48)) x2 h4) fun v5 h6 =>
 tR (cK (.toInt .u8) v5 h6) fun v7 h8 =>
 tR (ix 1 x0 (pi 0) h8) fun v9 h10 =>
 tR (sto v9 v7 h10) fun v11 h12 =>
 .nm T27 h12) (.nm T27 h4)) (y0 r) (y4 r) (y12 r)
def k127_5 : KF := fun c i x r h => (fun (x0 x1 x2 : AV) =>
 tR (cK (.toInt .u32) x1 h) fun v3 h4 =>
 x (T79 x0 x2 v3) h4) (y0 r) (y1 r) (y4 r)
def k127_0 : KF := fun c i x r h => (fun (x0 x1 : AV) =>
 tR (len x0 h) fun v2 h3 =>
 x (T76 x0 x1 v2) h3) (y0 r) (y1 r)
def x127 : AC := (.shal k127_0 (.seq (.block 0 (.loop (.shal k127_1 (.block 1 (.shal k127_2 (.shal k127_3 (.seq (.drw [q 0 (m d42 r0),
 q 0 (m d43 r4),
 q 0 (o d44 (.bin .sub r43 a1)),
 q 0 (m d48 r9),
 q 0 (o d49 (.bin .add r48 (.c (.int .u32 (.ofNat 1))))),
 q 0 (o d50 (.idxs (.c (.str [48,48,48,49,48,50,48,51,48,52,48,53,48,54,48,55,48,56,48,57,49,48,49,49,49,50,49,51,49,52,49,53,49,54,49,55,49,56,49,57,50,48,50,49,50,50,50,51,50,52,50,53,50,54,50,55,50,56,50,57,51,48,51,49,51,50,51,51,51,52,51,53,51,54,51,55,51,56,51,57,52,48,52,49,52,50,52,51,52,52,52,53,52,54,52,55,52,56,52,57,53,48,53,49,53,50,53,51,53,52,53,53,53,54,53,55,53,56,53,57,54,48,54,49,54,50,54,51,54,52,54,53,54,54,54,55,54,56,54,57,55,48,55,49,55,50,55,51,55,52,55,53,55,54,55,55,55,56,55,57,56,48,56,49,56,50,56,51,56,52,56,53,56,54,56,55,56,56,56,57,57,48,57,49,57,50,57,51,57,52,57,53,57,54,57,55,57,56,57,57])) r49)),
 q 0 (o d53 (.ixs 1 r42 r44)),
 w (o .no (.st1 r53 r50)),
 q 1 (m d45 r0),
 q 1 (m d46 r4),
 q 1 (o d47 (.bin .sub r46 a2)),
 q 1 (m d51 r9),
 q 1 (o d52 (.idxs (.c (.str [48,48,48,49,48,50,48,51,48,52,48,53,48,54,48,55,48,56,48,57,49,48,49,49,49,50,49,51,49,52,49,53,49,54,49,55,49,56,49,57,50,48,50,49,50,50,50,51,50,52,50,53,50,54,50,55,50,56,50,57,51,48,51,49,51,50,51,51,51,52,51,53,51,54,51,55,51,56,51,57,52,48,52,49,52,50,52,51,52,52,52,53,52,54,52,55,52,56,52,57,53,48,53,49,53,50,53,51,53,52,53,53,53,54,53,55,53,56,53,57,54,48,54,49,54,50,54,51,54,52,54,53,54,54,54,55,54,56,54,57,55,48,55,49,55,50,55,51,55,52,55,53,55,54,55,55,55,56,55,57,56,48,56,49,56,50,56,51,56,52,56,53,56,54,56,55,56,56,56,57,57,48,57,49,57,50,57,51,57,52,57,53,57,54,57,55,57,56,57,57])) r51)),
 q 0 (o d54 (.ixs 1 r45 r47)),
 w (o .no (.st1 r54 r52))]) (.seq (.drw [q 0 (m d55 r0),
 q 0 (m d56 r4),
 q 0 (o d57 (.bin .sub r56 (.c (pi 3)))),
 q 0 (m d61 r8),
 q 0 (o d62 (.bin .add r61 (.c (.int .u32 (.ofNat 1))))),
 q 0 (o d63 (.idxs (.c (.str [48,48,48,49,48,50,48,51,48,52,48,53,48,54,48,55,48,56,48,57,49,48,49,49,49,50,49,51,49,52,49,53,49,54,49,55,49,56,49,57,50,48,50,49,50,50,50,51,50,52,50,53,50,54,50,55,50,56,50,57,51,48,51,49,51,50,51,51,51,52,51,53,51,54,51,55,51,56,51,57,52,48,52,49,52,50,52,51,52,52,52,53,52,54,52,55,52,56,52,57,53,48,53,49,53,50,53,51,53,52,53,53,53,54,53,55,53,56,53,57,54,48,54,49,54,50,54,51,54,52,54,53,54,54,54,55,54,56,54,57,55,48,55,49,55,50,55,51,55,52,55,53,55,54,55,55,55,56,55,57,56,48,56,49,56,50,56,51,56,52,56,53,56,54,56,55,56,56,56,57,57,48,57,49,57,50,57,51,57,52,57,53,57,54,57,55,57,56,57,57])) r62)),
 q 0 (o d66 (.ixs 1 r55 r57)),
 w (o .no (.st1 r66 r63)),
 q 1 (m d58 r0),
 q 1 (m d59 r4),
 q 1 (o d60 (.bin .sub r59 (.c (pi 4)))),
 q 1 (m d64 r8),
 q 1 (o d65 (.idxs (.c (.str [48,48,48,49,48,50,48,51,48,52,48,53,48,54,48,55,48,56,48,57,49,48,49,49,49,50,49,51,49,52,49,53,49,54,49,55,49,56,49,57,50,48,50,49,50,50,50,51,50,52,50,53,50,54,50,55,50,56,50,57,51,48,51,49,51,50,51,51,51,52,51,53,51,54,51,55,51,56,51,57,52,48,52,49,52,50,52,51,52,52,52,53,52,54,52,55,52,56,52,57,53,48,53,49,53,50,53,51,53,52,53,53,53,54,53,55,53,56,53,57,54,48,54,49,54,50,54,51,54,52,54,53,54,54,54,55,54,56,54,57,55,48,55,49,55,50,55,51,55,52,55,53,55,54,55,55,55,56,55,57,56,48,56,49,56,50,56,51,56,52,56,53,56,54,56,55,56,56,56,57,57,48,57,49,57,50,57,51,57,52,57,53,57,54,57,55,57,56,57,57])) r64)),
 q 0 (o d67 (.ixs 1 r58 r60)),
 w (o .no (.st1 r67 r65))]) (.seq (.drw [q 0 (m d68 r0),
 q 0 (m d69 r4),
 q 0 (o d70 (.bin .sub r69 (.c (pi 5)))),
 q 0 (m d74 r11),
 q 0 (o d75 (.bin .add r74 (.c (.int .u32 (.ofNat 1))))),
 q 0 (o d76 (.idxs (.c (.str [48,48,48,49,48,50,48,51,48,52,48,53,48,54,48,55,48,56,48,57,49,48,49,49,49,50,49,51,49,52,49,53,49,54,49,55,49,56,49,57,50,48,50,49,50,50,50,51,50,52,50,53,50,54,50,55,50,56,50,57,51,48,51,49,51,50,51,51,51,52,51,53,51,54,51,55,51,56,51,57,52,48,52,49,52,50,52,51,52,52,52,53,52,54,52,55,52,56,52,57,53,48,53,49,53,50,53,51,53,52,53,53,53,54,53,55,53,56,53,57,54,48,54,49,54,50,54,51,54,52,54,53,54,54,54,55,54,56,54,57,55,48,55,49,55,50,55,51,55,52,55,53,55,54,55,55,55,56,55,57,56,48,56,49,56,50,56,51,56,52,56,53,56,54,56,55,56,56,56,57,57,48,57,49,57,50,57,51,57,52,57,53,57,54,57,55,57,56,57,57])) r75)),
 q 0 (o d79 (.ixs 1 r68 r70)),
 w (o .no (.st1 r79 r76)),
 q 1 (m d71 r0),
 q 1 (m d72 r4),
 q 1 (o d73 (.bin .sub r72 (.c (pi 6)))),
 q 1 (m d77 r11),
 q 1 (o d78 (.idxs (.c (.str [48,48,48,49,48,50,48,51,48,52,48,53,48,54,48,55,48,56,48,57,49,48,49,49,49,50,49,51,49,52,49,53,49,54,49,55,49,56,49,57,50,48,50,49,50,50,50,51,50,52,50,53,50,54,50,55,50,56,50,57,51,48,51,49,51,50,51,51,51,52,51,53,51,54,51,55,51,56,51,57,52,48,52,49,52,50,52,51,52,52,52,53,52,54,52,55,52,56,52,57,53,48,53,49,53,50,53,51,53,52,53,53,53,54,53,55,53,56,53,57,54,48,54,49,54,50,54,51,54,52,54,53,54,54,54,55,54,56,54,57,55,48,55,49,55,50,55,51,55,52,55,53,55,54,55,55,55,56,55,57,56,48,56,49,56,50,56,51,56,52,56,53,56,54,56,55,56,56,56,57,57,48,57,49,57,50,57,51,57,52,57,53,57,54,57,55,57,56,57,57])) r77)),
 q 0 (o d80 (.ixs 1 r71 r73)),
 w (o .no (.st1 r80 r78))]) (.seq (.drw [q 0 (m d81 r0),
 q 0 (m d82 r4),
 q 0 (o d83 (.bin .sub r82 (.c (pi 7)))),
 q 0 (m d87 r10),
 q 0 (o d88 (.bin .add r87 (.c (.int .u32 (.ofNat 1))))),
 q 0 (o d89 (.idxs (.c (.str [48,48,48,49,48,50,48,51,48,52,48,53,48,54,48,55,48,56,48,57,49,48,49,49,49,50,49,51,49,52,49,53,49,54,49,55,49,56,49,57,50,48,50,49,50,50,50,51,50,52,50,53,50,54,50,55,50,56,50,57,51,48,51,49,51,50,51,51,51,52,51,53,51,54,51,55,51,56,51,57,52,48,52,49,52,50,52,51,52,52,52,53,52,54,52,55,52,56,52,57,53,48,53,49,53,50,53,51,53,52,53,53,53,54,53,55,53,56,53,57,54,48,54,49,54,50,54,51,54,52,54,53,54,54,54,55,54,56,54,57,55,48,55,49,55,50,55,51,55,52,55,53,55,54,55,55,55,56,55,57,56,48,56,49,56,50,56,51,56,52,56,53,56,54,56,55,56,56,56,57,57,48,57,49,57,50,57,51,57,52,57,53,57,54,57,55,57,56,57,57])) r88)),
 q 0 (o d92 (.ixs 1 r81 r83)),
 w (o .no (.st1 r92 r89)),
 q 1 (m d84 r0),
 q 1 (m d85 r4),
 q 1 (o d86 (.bin .sub r85 (.c (pi 8)))),
 q 1 (m d90 r10),
 q 1 (o d91 (.idxs (.c (.str [48,48,48,49,48,50,48,51,48,52,48,53,48,54,48,55,48,56,48,57,49,48,49,49,49,50,49,51,49,52,49,53,49,54,49,55,49,56,49,57,50,48,50,49,50,50,50,51,50,52,50,53,50,54,50,55,50,56,50,57,51,48,51,49,51,50,51,51,51,52,51,53,51,54,51,55,51,56,51,57,52,48,52,49,52,50,52,51,52,52,52,53,52,54,52,55,52,56,52,57,53,48,53,49,53,50,53,51,53,52,53,53,53,54,53,55,53,56,53,57,54,48,54,49,54,50,54,51,54,52,54,53,54,54,54,55,54,56,54,57,55,48,55,49,55,50,55,51,55,52,55,53,55,54,55,55,55,56,55,57,56,48,56,49,56,50,56,51,56,52,56,53,56,54,56,55,56,56,56,57,57,48,57,49,57,50,57,51,57,52,57,53,57,54,57,55,57,56,57,57])) r90)),
 q 0 (o d93 (.ixs 1 r84 r86)),
 w (o .no (.st1 r93 r91))]) (.shal k127_4 .skip))))))))))) (.shal k127_5 (.seq (.shal k127_6 (.cond r99 (.bad 0) .skip)) (.seq (.shal k127_7 (.cond r139 (.bad 0) .skip)) (.shal k127_8 .skip))))))
def z127 : List Rs := []
def f127 : AF := .mk x127 z127
def k129_0 : KF := fun c i x r h => (fun (x0 x1 : AV) =>
 tR (nic x0 h) fun v2 h3 =>
 tR (fa 1 v2 h3) fun v4 h5 =>
 tR (ld v4 h5) fun v6 h7 =>
 tR (cpyV 1 x1 v6 h7) fun v8 h9 =>
 tR (nic x0 h9) fun v10 h11 =>
 tR (fa 1 v10 h11) fun v12 h13 =>
 tR (sto v12 x1 h13) fun v14 h15 =>
 .nm T27 h15) (y0 r) (y4 r)
def x129 : AC := (.seq (.drw [q 0 (m d5 r0),
 q 0 (o d6 (.nilc r5)),
 q 0 (o d7 (.fad 1 r6)),
 q 0 (o d8 (.ld1 r7)),
 q 0 (o d9 (.cap r8)),
 q 0 (o d10 (.bin .mul a2 r9)),
 q 0 (m d11 r1),
 q 0 (o d12 (.bin .add r10 r11)),
 w (.o d13 (.call 175 [r12])),
 q 1 (m d14 r0),
 q 1 (o d15 (.nilc r14)),
 q 1 (o d16 (.fad 1 r15)),
 q 1 (o d17 (.ld1 r16)),
 q 1 (o d18 (.len r17)),
 q 0 (o d19 (.slc 1 r13 .none (.some r18) .none)),
 q 0 (m d4 r19)]) (.shal k129_0 .skip))
def z129 : List Rs := []
def f129 : AF := .mk x129 z129
def k130_0 : KF := fun c i x r h => (fun (x0 : AV) =>
 x (T5 x0) h) (y0 r)
def x130 : AC := (.shal k130_0 (.seq (.ops [m d3 r0,
 o d4 (.real false r3),
 .o d5 (.call 176 [r4]),
 m d6 r5,
 .g .h0 .h6 true d7 (.op (.mv r0)),
 .g .h0 .h6 true d8 (.op (.real true r7)),
 .g .h0 .h6 true d9 (.call 176 [r8]),
 o d10 (.pick r6 r9 (.c (.bool false))),
 m d2 r10]) .ret))
def z130 : List Rs := [.t .h0 .h2]
def f130 : AF := .mk x130 z130
def k131_0 : KF := fun c i x r h => tR (o_mkmap .nil h) fun v0 h1 =>
 tR (o_build [(pi 0),(pi 0),.nilm,(pi 0)] [.mk 2 1 (.c v0)] .nil h1) fun v2 h3 =>
 tR (o_box 300 (.c v2) .nil h3) fun v4 h5 =>
 .ret (T5 v4) h5
def x131 : AC := (.shal k131_0 .skip)
def z131 : List Rs := [.t .h0 .h0]
def f131 : AF := .mk x131 z131
def k132_0 : KF := fun c i x r h => tR (o_mkmap .nil h) fun v0 h1 =>
 tR (o_build [.nilm,(pi 0)] [.mk 0 1 (.c v0)] .nil h1) fun v2 h3 =>
 tR (o_box 303 (.c v2) .nil h3) fun v4 h5 =>
 .ret (T5 v4) h5
def x132 : AC := (.shal k132_0 .skip)
def z132 : List Rs := [.t .h0 .h0]
def f132 : AF := .mk x132 z132
def k133_0 : KF := fun c i x r h => (fun (x0 x1 : AV) =>
 tR (o_build [(pi 0),(pi 0),(pi 0),(pi 0),(pi 0),(pi 0),.nilm,.nilm,.nilm] [.mk 0 1 (.c x0),.mk 1 1 (.c x1)] .nil h) fun v2 h3 =>
 tR (o_box 306 (.c v2) .nil h3) fun v4 h5 =>
 .ret (T15 v4) h5) (y0 r) (y1 r)
def x133 : AC := (.shal k133_0 .skip)
def z133 : List Rs := [.t .h0 .h4]
def f133 : AF := .mk x133 z133
def k134_0 : KF := fun c i x r h => (fun (x0 : AV) =>
 tR (nic x0 h) fun v1 h2 =>
 tR (fa 1 v1 h2) fun v3 h4 =>
 tR (ld v3 h4) fun v5 h6 =>
 tR (len v5 h6) fun v7 h8 =>
 .ret (T14 v7) h8) (y0 r)
def x134 : AC := (.shal k134_0 .skip)
def z134 : List Rs := [.t .h0 .h2]
def f134 : AF := .mk x134 z134
def k135_3 : KF := fun c i x r h => (fun (x0 x1 x2 x3 x4 : AV) =>
 ifR x4 (.ex 0 (T83 x0 x1 x2 x3) h) (.nm (T83 x0 x1 x2 x3) h)) (y0 r) (y4 r) (y5 r) (y6 r) (y35 r)
def k135_5 : KF := fun c i x r h => (fun (x0 x1 x2 x3 : AV) =>
 tR (b_add (pi 8) x3 h) fun v4 h5 =>
 tR (b_add x2 v4 h5) fun v6 h7 =>
 .nm (T82 x0 x1 v6) h7) (y0 r) (y4 r) (y5 r) (y6 r)
def k135_4 : KF := fun c i x r h => (fun (x0 x1 x2 x3 : AV) =>
 tR (b_add x2 (pi 8) h) fun v4 h5 =>
 tR (b_add x2 (pi 8) h5) fun v6 h7 =>
 tR (b_add v6 x3 h7) fun v8 h9 =>
 tR (o_slc 1 (.c x0) (.some (.c v4)) (.some (.c v8)) .none .nil h9) fun v10 h11 =>
 tT (c 177 [v10] h11) fun v12 h13 =>
 tR (o_ext 0 (.c v12) .nil h13) fun v14 h15 =>
 tR (o_ext 1 (.c v12) .nil h15) fun v16 h17 =>
 tR (u_not v16 h17) fun v18 h19 =>
 ifR v18 (.ex 0 (T37 x1 x2) h19) (tR (o_bslice 22 1 1 [.nils] [.mk 0 1 (.c v14)] .nil h19) fun v20 h21 =>
 tR (appV 22 1 x1 v20 h21) fun v22 h23 =>
 x (T83 x0 v22 x2 x3) h23)) (y0 r) (y4 r) (y5 r) (y6 r)
def k135_2 : KF := fun c i x r h => (fun (x0 x1 x2 : AV) =>
 tR (b_add x2 (pi 8) h) fun v3 h4 =>
 tR (o_slc 1 (.c x0) (.some (.c x2)) (.some (.c v3)) .none .nil h4) fun v5 h6 =>
 tT (c 21 [v5] h6) fun v7 h8 =>
 tT (c 41 [v7] h8) fun v9 h10 =>
 x (T83 x0 x1 x2 v9) h10) (y0 r) (y4 r) (y5 r)
def k135_1 : KF := fun c i x r h => (fun (x0 x1 x2 : AV) =>
 tR (len x0 h) fun v3 h4 =>
 tR (b_sub v3 x2 h4) fun v5 h6 =>
 tR (b_ge v5 (pi 8) h6) fun v7 h8 =>
 ifR v7 (x (T82 x0 x1 x2) h8) (.ex 0 (T37 x1 x2) h8)) (y0 r) (y4 r) (y5 r)
def k135_6 : KF := fun c i x r h => (fun (x0 x1 : AV) =>
 .ret (T4 x0 x1) h) (y4 r) (y5 r)
def k135_0 : KF := fun c i x r h => (fun (x0 : AV) =>
 x (T82 x0 .nils (pi 0)) h) (y0 r)
def x135 : AC := (.shal k135_0 (.seq (.block 0 (.loop (.shal k135_1 (.block 1 (.shal k135_2 (.seq (.seq (.ops [m d21 r6,
 o d22 (.bin .lt r21 a0),
 m d23 r22,
 .g .h1 .h7 false d24 (.op (.mv r6)),
 .g .h1 .h7 false d25 (.op (.bin .gt r24 (.c (pi 1048576)))),
 o d26 (.pick r23 (.c (.bool true)) r25),
 m d27 r26,
 .g .h1 .hb false d28 (.op (.mv r6)),
 .g .h1 .hb false d29 (.op (.mv r0)),
 .g .h1 .hb false d30 (.op (.len r29)),
 .g .h1 .hb false d31 (.op (.mv r5)),
 .g .h1 .hb false d32 (.op (.bin .sub r30 r31)),
 .g .h1 .hb false d33 (.op (.bin .sub r32 (.c (pi 8)))),
 .g .h1 .hb false d34 (.op (.bin .gt r28 r33)),
 o d35 (.pick r27 (.c (.bool true)) r34)]) (.shal k135_3 .skip)) (.shal k135_4 (.shal k135_5 .skip)))))))) (.shal k135_6 .skip)))
def z135 : List Rs := [.t .h0 .h2,.t .h0 .h3]
def f135 : AF := .mk x135 z135
def k136_0 : KF := fun c i x r h => (fun (x0 : AV) =>
 tR (nic x0 h) fun v1 h2 =>
 tR (fa 0 v1 h2) fun v3 h4 =>
 tR (ld v3 h4) fun v5 h6 =>
 tT (c 39 [v5] h6) fun v7 h8 =>
 .ret (T14 v7) h8) (y0 r)
def x136 : AC := (.shal k136_0 .skip)
def z136 : List Rs := [.t .h0 .h2]
def f136 : AF := .mk x136 z136
def k138_1 : KF := fun c i x r h => (fun (x0 x1 x2 x3 x4 : AV) =>
 tR (b_lt x4 x3 h) fun v5 h6 =>
 ifR v5 (tR (ix 4 x2 x4 h6) fun v7 h8 =>
 tR (o_ldn 4 (.c v7) .nil h8) fun v9 h10 =>
 tR (o_alloc 274 4 (.k1 (.mk (pi 0) (pi 0) (pi 0) (.str []) .undef .undef .undef .undef .undef .undef .undef .undef .undef .undef .undef .undef)) .nil h10) fun v11 h12 =>
 tR (o_stn 4 (.c v11) (.c v9) .nil h12) fun v13 h14 =>
 tT (c 184 [(pi 2),(.fn 189 [v11])] h14) fun v15 h16 =>
 tR (appV 5 1 x1 v15 h16) fun v17 h18 =>
 tR (b_add x4 (pi 1) h18) fun v19 h20 =>
 .nm (T85 x0 v17 x2 x3 v19) h20) (.ex 0 (T85 x0 x1 x2 x3 x4) h6)) (y1 r) (y2 r) (y29 r) (y30 r) (y31 r)
def k138_5 : KF := fun c i x r h => (fun (x0 x1 x2 x3 x4 x5 x6 x7 : AV) =>
 ifR x7 (.nm (T87 x0 x1 x2 (pi 5) x4 x5 x6) h) (.nm (T87 x0 x1 x2 x3 x4 x5 x6) h)) (y1 r) (y2 r) (y6 r) (y7 r) (y50 r) (y51 r) (y52 r) (y68 r)
def k138_6 : KF := fun c i x r h => (fun (x0 x1 x2 x3 x4 x5 x6 : AV) =>
 tR (ld x0 h) fun v7 h8 =>
 tR (o_ldn 4 (.c x2) .nil h8) fun v9 h10 =>
 tT (c 196 [v7,x3,v9] h10) fun v11 h12 =>
 tR (appV 5 1 x1 v11 h12) fun v13 h14 =>
 .nm (T86 x0 v13 x4 x5 x6) h14) (y1 r) (y2 r) (y6 r) (y7 r) (y50 r) (y51 r) (y52 r)
def k138_4 : KF := fun c i x r h => (fun (x0 x1 x2 x3 x4 : AV) =>
 tR (ix 4 x2 x4 h) fun v5 h6 =>
 tR (o_ldn 4 (.c v5) .nil h6) fun v7 h8 =>
 tR (o_alloc 274 4 (.k1 (.mk (pi 0) (pi 0) (pi 0) (.str []) .undef .undef .undef .undef .undef .undef .undef .undef .undef .undef .undef .undef)) .nil h8) fun v9 h10 =>
 tR (o_stn 4 (.c v9) (.c v7) .nil h10) fun v11 h12 =>
 x (T87 x0 x1 v9 (pi 4) x2 x3 x4) h12) (y1 r) (y2 r) (y50 r) (y51 r) (y52 r)
def k138_7 : KF := fun c i x r h => (fun (x0 x1 x2 x3 x4 : AV) =>
 tR (b_add x4 (pi 1) h) fun v5 h6 =>
 .nm (T86 x0 x1 x2 x3 v5) h6) (y1 r) (y2 r) (y50 r) (y51 r) (y52 r)
def k138_3 : KF := fun c i x r h => (fun (x0 x1 x2 x3 x4 : AV) =>
 tR (b_lt x4 x3 h) fun v5 h6 =>
 ifR v5 (x (T86 x0 x1 x2 x3 x4) h6) (.ex 2 (T84 x0 x1) h6)) (y1 r) (y2 r) (y50 r) (y51 r) (y52 r)
def k138_8 : KF := fun c i x r h => (fun (x0 x1 : AV) =>
 tR (ld x0 h) fun v2 h3 =>
 tR (nic v2 h3) fun v4 h5 =>
 tR (fa 2 v4 h5) fun v6 h7 =>
 tR (ld v6 h7) fun v8 h9 =>
 tT (c 197 [v8,x1] h9) fun v10 h11 =>
 tR (b_eq v10 (pi 0) h11) fun v12 h13 =>
 ifR v12 (tR (ld x0 h13) fun v14 h15 =>
 tR (len x1 h15) fun v16 h17 =>
 tR (nic v14 h17) fun v18 h19 =>
 tR (fa 5 v18 h19) fun v20 h21 =>
 tR (sto v20 v16 h21) fun v22 h23 =>
 .nm T27 h23) (.nm T27 h13)) (y1 r) (y2 r)
def k138_2 : KF := fun c i x r h => (fun (x0 x1 : AV) =>
 tT (c 184 [(pi 1),(.fn 192 [x0])] h) fun v2 h3 =>
 tR (appV 5 1 x1 v2 h3) fun v4 h5 =>
 x (T84 x0 v4) h5) (y1 r) (y2 r)
def k138_0 : KF := fun c i x r h => (fun (x0 : AV) =>
 tR (o_box 181 (.c x0) .nil h) fun v1 h2 =>
 tT (c 184 [(pi 0),(.fn 185 [v1])] h2) fun v3 h4 =>
 tR (ld v1 h4) fun v5 h6 =>
 tR (nic v5 h6) fun v7 h8 =>
 tR (fa 13 v7 h8) fun v9 h10 =>
 tR (fa 0 v9 h10) fun v11 h12 =>
 tR (ld v11 h12) fun v13 h14 =>
 tR (b_gt v13 (pi 0) h14) fun v15 h16 =>
 ifR v15 (tT (c 184 [(pi 6),(.fn 186 [v1])] h16) fun v17 h18 =>
 tR (appV 5 1 v3 v17 h18) fun v19 h20 =>
 x (T84 v1 v19) h20) (x (T84 v1 v3) h16)) (y0 r)
def x138 : AC := (.shal k138_0 (.seq (.seq (.drw [q 0 (o d20 (.ld1 r1)),
 q 0 (o d21 (.nilc r20)),
 q 0 (o d22 (.fad 7 r21)),
 q 0 (o d23 (.ld1 r22)),
 q 0 (o d24 (.ld1 r1)),
 q 0 (o d25 (.nilc r24)),
 q 0 (o d26 (.fad 13 r25)),
 q 0 (o d27 (.fad 0 r26)),
 q 0 (o d28 (.ld1 r27)),
 w (.o d29 (.call 188 [r23,r28])),
 q 0 (o d30 (.len r29)),
 q 1 (m d31 a0)]) (.block 0 (.loop (.shal k138_1 .skip)))) (.shal k138_2 (.seq (.seq (.drw [q 0 (o d44 (.ld1 r1)),
 q 0 (o d45 (.ld1 r1)),
 q 0 (o d46 (.nilc r45)),
 q 0 (o d47 (.fad 13 r46)),
 q 0 (o d48 (.fad 0 r47)),
 q 0 (o d49 (.ld1 r48)),
 w (.o d50 (.call 194 [r44,r49])),
 q 0 (o d51 (.len r50)),
 q 1 (m d52 a0)]) (.block 2 (.loop (.shal k138_3 (.seq (.block 3 (.shal k138_4 (.seq (.seq (.drw [q 0 (o d56 (.ld1 r1)),
 q 0 (o d57 (.fad 0 r6)),
 q 0 (o d58 (.ld1 r57)),
 w (.o d59 (.call 195 [r56,r58])),
 q 0 (m d60 r59),
 q 0 (.g .h3 .hc true d61 (.op (.ld1 r1))),
 q 0 (.g .h3 .hc true d62 (.op (.fad 0 r6))),
 q 0 (.g .h3 .hc true d63 (.op (.ld1 r62))),
 w (.g .h3 .hc true d64 (.call 179 [r61,r63])),
 q 1 (.g .h3 .hc true d65 (.op (.fad 3 r6))),
 q 1 (.g .h3 .hc true d66 (.op (.ld1 r65))),
 q 0 (.g .h3 .hc true d67 (.op (.bin .seq r64 r66))),
 q 0 (o d68 (.pick r60 r67 (.c (.bool false))))]) (.shal k138_5 .skip)) (.shal k138_6 .skip)))) (.shal k138_7 .skip)))))) (.shal k138_8 .skip)))))
def z138 : List Rs := []
def f138 : AF := .mk x138 z138
def k139_2 : KF := fun c i x r h => (fun (x0 x1 x2 x3 x4 : AV) =>
 tR (b_add x4 (pi 1) h) fun v5 h6 =>
 .nm (T88 x0 x1 x2 x3 v5) h6) (y0 r) (y2 r) (y14 r) (y15 r) (y16 r)
def k139_1 : KF := fun c i x r h => (fun (x0 x1 x2 x3 x4 : AV) =>
 tR (b_lt x4 x3 h) fun v5 h6 =>
 ifR v5 (tR (ix 1 x2 x4 h6) fun v7 h8 =>
 tR (ld v7 h8) fun v9 h10 =>
 tR (b_sne v9 (.str []) h10) fun v11 h12 =>
 ifR v11 (tT (c 199 [x0,x1,v9] h12) fun v13 h14 =>
 tR (b_add x1 (pi 1) h14) fun v15 h16 =>
 x (T88 x0 v15 x2 x3 x4) h16) (tR (b_add x1 (pi 1) h12) fun v17 h18 =>
 x (T88 x0 v17 x2 x3 x4) h18)) (.ex 0 T27 h6)) (y0 r) (y2 r) (y14 r) (y15 r) (y16 r)
def k139_0 : KF := fun c i x r h => (fun (x0 : AV) =>
 tR (nic x0 h) fun v1 h2 =>
 tR (fa 9 v1 h2) fun v3 h4 =>
 tR (ld v3 h4) fun v5 h6 =>
 tT (c 166 [v5] h6) fun v7 h8 =>
 tR (nic x0 h8) fun v9 h10 =>
 tR (fa 9 v9 h10) fun v11 h12 =>
 tR (ld v11 h12) fun v13 h14 =>
 tT (c 198 [v13] h14) fun v15 h16 =>
 tR (len v15 h16) fun v17 h18 =>
 x (T88 x0 v7 v15 v17 (pi 0)) h18) (y0 r)
def x139 : AC := (.shal k139_0 (.block 0 (.loop (.shal k139_1 (.shal k139_2 .skip)))))
def z139 : List Rs := []
def f139 : AF := .mk x139 z139
def k162_1 : KF := fun c i x r h => (fun (x0 x1 : AV) =>
 tR (nic x0 h) fun v2 h3 =>
 tR (fa 0 v2 h3) fun v4 h5 =>
 tR (ld v4 h5) fun v6 h7 =>
 tR (lkp (.one .i) (.str []) true v6 x1 h7) fun v8 h9 =>
 tR (o_ext 0 (.c v8) .nil h9) fun v10 h11 =>
 tR (o_ext 1 (.c v8) .nil h11) fun v12 h13 =>
 tR (u_not v12 h13) fun v14 h15 =>
 ifR v14 (.ret (T14 x1) h15) (tR (b_add x1 (pi 1) h15) fun v16 h17 =>
 .nm (T19 x0 v16) h17)) (y0 r) (y3 r)
def k162_0 : KF := fun c i x r h => (fun (x0 : AV) =>
 tR (nic x0 h) fun v1 h2 =>
 tR (fa 1 v1 h2) fun v3 h4 =>
 tR (ld v3 h4) fun v5 h6 =>
 x (T19 x0 v5) h6) (y0 r)
def x162 : AC := (.shal k162_0 (.block 0 (.loop (.shal k162_1 .skip))))
def z162 : List Rs := [.t .h0 .h2]
def f162 : AF := .mk x162 z162
def k166_0 : KF := fun c i x r h => (fun (x0 : AV) =>
 tR (nic x0 h) fun v1 h2 =>
 tR (fa 1 v1 h2) fun v3 h4 =>
 tR (ld v3 h4) fun v5 h6 =>
 .ret (T14 v5) h6) (y0 r)
def x166 : AC := (.shal k166_0 .skip)
def z166 : List Rs := [.t .h0 .h2]
def f166 : AF := .mk x166 z166
def k170_0 : KF := fun c i x r h => (fun (x0 : AV) =>
 tR (b_mul x0 (pi 78913) h) fun v1 h2 =>
 tR (bK .shr v1 (.int .u64 (.ofNat 18)) h2) fun v3 h4 =>
 .ret (T14 v3) h4) (y0 r)
def x170 : AC := (.shal k170_0 .skip)
def z170 : List Rs := [.t .h0 .h2]
def f170 : AF := .mk x170 z170
def k171_2 : KF := fun c i x r h => (fun (x0 x1 : AV) =>
 tR (b_ge x0 (.int .u64 (.ofNat 256)) h) fun v2 h3 =>
 ifR v2 (tR (bK .shr x0 (.int .u64 (.ofNat 8)) h3) fun v4 h5 =>
 tR (b_add x1 (pi 8) h5) fun v6 h7 =>
 tR (cK (.toInt .u8) v4 h7) fun v8 h9 =>
 tR (o_idxs (.c (.str [0,1,2,2,3,3,3,3,4,4,4,4,4,4,4,4,5,5,5,5,5,5,5,5,5,5,5,5,5,5,5,5,6,6,6,6,6,6,6,6,6,6,6,6,6,6,6,6,6,6,6,6,6,6,6,6,6,6,6,6,6,6,6,6,7,7,7,7,7,7,7,7,7,7,7,7,7,7,7,7,7,7,7,7,7,7,7,7,7,7,7,7,7,7,7,7,7,7,7,7,7,7,7,7,7,7,7,7,7,7,7,7,7,7,7,7,7,7,7,7,7,7,7,7,7,7,7,7,8,8,8,8,8,8,8,8,8,8,8,8,8,8,8,8,8,8,8,8,8,8,8,8,8,8,8,8,8,8,8,8,8,8,8,8,8,8,8,8,8,8,8,8,8,8,8,8,8,8,8,8,8,8,8,8,8,8,8,8,8,8,8,8,8,8,8,8,8,8,8,8,8,8,8,8,8,8,8,8,8,8,8,8,8,8,8,8,8,8,8,8,8,8,8,8,8,8,8,8,8,8,8,8,8,8,8,8,8,8,8,8,8,8,8,8,8,8,8,8,8,8,8,8,8,8,8,8])) (.c v8) .nil h9) fun v10 h11 =>
 tR (cK (.toInt .i64) v10 h11) fun v12 h13 =>
 tR (b_add v6 v12 h13) fun v14 h15 =>
 x (T14 v14) h15) (tR (cK (.toInt .u8) x0 h3) fun v16 h17 =>
 tR (o_idxs (.c (.str [0,1,2,2,3,3,3,3,4,4,4,4,4,4,4,4,5,5,5,5,5,5,5,5,5,5,5,5,5,5,5,5,6,6,6,6,6,6,6,6,6,6,6,6,6,6,6,6,6,6,6,6,6,6,6,6,6,6,6,6,6,6,6,6,7,7,7,7,7,7,7,7,7,7,7,7,7,7,7,7,7,7,7,7,7,7,7,7,7,7,7,7,7,7,7,7,7,7,7,7,7,7,7,7,7,7,7,7,7,7,7,7,7,7,7,7,7,7,7,7,7,7,7,7,7,7,7,7,8,8,8,8,8,8,8,8,8,8,8,8,8,8,8,8,8,8,8,8,8,8,8,8,8,8,8,8,8,8,8,8,8,8,8,8,8,8,8,8,8,8,8,8,8,8,8,8,8,8,8,8,8,8,8,8,8,8,8,8,8,8,8,8,8,8,8,8,8,8,8,8,8,8,8,8,8,8,8,8,8,8,8,8,8,8,8,8,8,8,8,8,8,8,8,8,8,8,8,8,8,8,8,8,8,8,8,8,8,8,8,8,8,8,8,8,8,8,8,8,8,8,8,8,8,8,8,8])) (.c v16) .nil h17) fun v18 h19 =>
 tR (cK (.toInt .i64) v18 h19) fun v20 h21 =>
 tR (b_add x1 v20 h21) fun v22 h23 =>
 x (T14 v22) h23)) (y0 r) (y2 r)
def k171_1 : KF := fun c i x r h => (fun (x0 x1 : AV) =>
 tR (b_ge x0 (.int .u64 (.ofNat 65536)) h) fun v2 h3 =>
 ifR v2 (tR (bK .shr x0 (.int .u64 (.ofNat 16)) h3) fun v4 h5 =>
 tR (b_add x1 (pi 16) h5) fun v6 h7 =>
 x (T89 v4 v6) h7) (x (T89 x0 x1) h3)) (y0 r) (y2 r)
def k171_0 : KF := fun c i x r h => (fun (x0 : AV) =>
 tR (b_ge x0 (.int .u64 (.ofNat 4294967296)) h) fun v1 h2 =>
 ifR v1 (tR (bK .shr x0 (.int .u64 (.ofNat 32)) h2) fun v3 h4 =>
 x (T89 v3 (pi 32)) h4) (x (T89 x0 (pi 0)) h2)) (y0 r)
def x171 : AC := (.shal k171_0 (.shal k171_1 (.shal k171_2 .ret)))
def z171 : List Rs := [.t .h0 .h2]
def f171 : AF := .mk x171 z171
def k172_0 : KF := fun c i x r h => (fun (x0 : AV) =>
 ifR x0 (.ret (T14 (pi 1)) h) (.ret (T14 (pi 0)) h)) (y0 r)
def x172 : AC := (.shal k172_0 .skip)
def z172 : List Rs := [.t .h0 .h2]
def f172 : AF := .mk x172 z172
def k176_0 : KF := fun c i x r h => (fun (x0 : AV) =>
 x (T5 x0) h) (y0 r)
def x176 : AC := (.shal k176_0 (.seq (.ops [m d3 r0,
 o d4 (.bin (.fop .geq) r3 (.c (.flt .f64 0))),
 m d5 r4,
 .g .h0 .h5 true d6 (.op (.mv r0)),
 .g .h0 .h5 true d7 (.op (.bin (.fop .leq) r6 (.c (.flt .f64 4832362400168542208)))),
 o d8 (.pick r5 r7 (.c (.bool false))),
 m d9 r8,
 .g .h0 .h9 true d10 (.op (.mv r0)),
 .g .h0 .h9 true d11 (.op (.mv r0)),
 .g .h0 .h9 true d12 (.call 243 [r11]),
 .g .h0 .h9 true d13 (.op (.bin (.fop .eql) r10 r12)),
 o d14 (.pick r9 r13 (.c (.bool false))),
 m d2 r14]) .ret))
def z176 : List Rs := [.t .h0 .h2]
def f176 : AF := .mk x176 z176
def k184_0 : KF := fun c i x r h => (fun (x0 x1 : AV) =>
 tT (c 14 [] h) fun v2 h3 =>
 tT (c 15 [v2,x0] h3) fun v4 h5 =>
 tT (AV.onFn x1 (fun f l => c f (List.append [v2] l) h5) (.err 202)) fun v6 h7 =>
 tT (c 20 [v2] h7) fun v8 h9 =>
 tT (c 249 [v8] h9) fun v10 h11 =>
 .ret (T15 v10) h11) (y0 r) (y1 r)
def x184 : AC := (.shal k184_0 .skip)
def z184 : List Rs := [.t .h0 .h4]
def f184 : AF := .mk x184 z184
def k185_0 : KF := fun c i x r h => (fun (x0 x1 : AV) =>
 tR (ld x1 h) fun v2 h3 =>
 tR (nic v2 h3) fun v4 h5 =>
 tR (fa 6 v4 h5) fun v6 h7 =>
 tR (ld v6 h7) fun v8 h9 =>
 tT (c 17 [x0,v8] h9) fun v10 h11 =>
 .nm T27 h11) (y0 r) (y1 r)
def x185 : AC := (.shal k185_0 .skip)
def z185 : List Rs := []
def f185 : AF := .mk x185 z185
def k188_4 : KF := fun c i x r h => (fun (x0 x1 x2 : AV) =>
 tR (b_add x2 (pi 1) h) fun v3 h4 =>
 .nm (T90 x0 x1 v3) h4) (y0 r) (y5 r) (y6 r)
def k188_3 : KF := fun c i x r h => (fun (x0 x1 x2 : AV) =>
 tR (nic x0 h) fun v3 h4 =>
 tR (fa 2 v3 h4) fun v5 h6 =>
 tR (ld v5 h6) fun v7 h8 =>
 tR (lkp (.one .i) (.agg [(pi 0),(pi 0),(pi 0),(.str [])]) true v7 x2 h8) fun v9 h10 =>
 tR (o_ext 0 (.c v9) .nil h10) fun v11 h12 =>
 tR (o_ext 1 (.c v9) .nil h12) fun v13 h14 =>
 tR (o_alloc 274 4 (.k1 (.mk (pi 0) (pi 0) (pi 0) (.str []) .undef .undef .undef .undef .undef .undef .undef .undef .undef .undef .undef .undef)) .nil h14) fun v15 h16 =>
 tR (o_stn 4 (.c v15) (.c v11) .nil h16) fun v17 h18 =>
 ifR v13 (tR (o_ldn 4 (.c v15) .nil h18) fun v19 h20 =>
 tR (o_bslice 274 4 1 [(pi 0),(pi 0),(pi 0),(.str [])] [.mk 0 4 (.c v19)] .nil h20) fun v21 h22 =>
 tR (appV 274 4 x1 v21 h22) fun v23 h24 =>
 x (T90 x0 v23 x2) h24) (x (T90 x0 x1 x2) h18)) (y0 r) (y5 r) (y6 r)
def k188_2 : KF := fun c i x r h => (fun (x0 x1 x2 : AV) =>
 tR (nic x0 h) fun v3 h4 =>
 tR (fa 3 v3 h4) fun v5 h6 =>
 tR (ld v5 h6) fun v7 h8 =>
 tR (b_lt x2 v7 h8) fun v9 h10 =>
 ifR v9 (x (T90 x0 x1 x2) h10) (.ex 0 (T65 x1) h10)) (y0 r) (y5 r) (y6 r)
def k188_1 : KF := fun c i x r h => (fun (x0 x1 x2 : AV) =>
 tR (maxV false [x1,(pi 0)] h) fun v3 h4 =>
 x (T90 x0 x2 v3) h4) (y0 r) (y1 r) (y5 r)
def k188_5 : KF := fun c i x r h => (fun (x0 : AV) =>
 .ret (T15 x0) h) (y5 r)
def k188_0 : KF := fun c i x r h => (fun (x0 x1 : AV) =>
 x (T55 x0 x1 .nils) h) (y0 r) (y1 r)
def x188 : AC := (.shal k188_0 (.seq (.shal k188_1 (.block 0 (.loop (.shal k188_2 (.shal k188_3 (.shal k188_4 .skip)))))) (.shal k188_5 .skip)))
def z188 : List Rs := [.t .h0 .h4]
def f188 : AF := .mk x188 z188
def k190_0 : KF := fun c i x r h => (fun (x0 x1 : AV) =>
 tR (o_box 266 (.c x1) .nil h) fun v2 h3 =>
 tR (fa 0 v2 h3) fun v4 h5 =>
 tR (ld v4 h5) fun v6 h7 =>
 tT (c 17 [x0,v6] h7) fun v8 h9 =>
 tR (fa 1 v2 h9) fun v10 h11 =>
 tR (ld v10 h11) fun v12 h13 =>
 tT (c 17 [x0,v12] h13) fun v14 h15 =>
 .nm T27 h15) (y0 r) (y1 r)
def x190 : AC := (.shal k190_0 .skip)
def z190 : List Rs := []
def f190 : AF := .mk x190 z190
def k192_0 : KF := fun c i x r h => (fun (x0 x1 : AV) =>
 tR (ld x1 h) fun v2 h3 =>
 tR (nic v2 h3) fun v4 h5 =>
 tR (fa 7 v4 h5) fun v6 h7 =>
 tR (ld v6 h7) fun v8 h9 =>
 tT (c 193 [v8] h9) fun v10 h11 =>
 tT (c 190 [x0,v10] h11) fun v12 h13 =>
 .nm T27 h13) (y0 r) (y1 r)
def x192 : AC := (.shal k192_0 .skip)
def z192 : List Rs := []
def f192 : AF := .mk x192 z192
def k193_0 : KF := fun c i x r h => (fun (x0 : AV) =>
 tR (o_alloc 266 2 (.k1 (.mk (pi 0) (pi 0) .undef .undef .undef .undef .undef .undef .undef .undef .undef .undef .undef .undef .undef .undef)) .nil h) fun v1 h2 =>
 tR (nic x0 h2) fun v3 h4 =>
 tR (fa 0 v3 h4) fun v5 h6 =>
 tR (o_ldn 2 (.c v5) .nil h6) fun v7 h8 =>
 tR (o_stn 2 (.c v1) (.c v7) .nil h8) fun v9 h10 =>
 .ret (T14 v1) h10) (y0 r)
def x193 : AC := (.shal k193_0 .skip)
def z193 : List Rs := [.agg 2 .h0 .h2]
def f193 : AF := .mk x193 z193
def k194_4 : KF := fun c i x r h => (fun (x0 x1 x2 : AV) =>
 tR (b_add x2 (pi 1) h) fun v3 h4 =>
 .nm (T90 x0 x1 v3) h4) (y0 r) (y5 r) (y6 r)
def k194_3 : KF := fun c i x r h => (fun (x0 x1 x2 : AV) =>
 tR (nic x0 h) fun v3 h4 =>
 tR (fa 9 v3 h4) fun v5 h6 =>
 tR (ld v5 h6) fun v7 h8 =>
 tT (c 234 [v7,x2] h8) fun v9 h10 =>
 tR (o_ext 0 (.c v9) .nil h10) fun v11 h12 =>
 tR (o_ext 1 (.c v9) .nil h12) fun v13 h14 =>
 ifR v13 (tR (o_build [(pi 0),(pi 0),(pi 0),(.str [])] [.mk 0 1 (.c x2),.mk 3 1 (.c v11)] .nil h14) fun v15 h16 =>
 tR (o_bslice 274 4 1 [(pi 0),(pi 0),(pi 0),(.str [])] [.mk 0 4 (.c v15)] .nil h16) fun v17 h18 =>
 tR (appV 274 4 x1 v17 h18) fun v19 h20 =>
 x (T90 x0 v19 x2) h20) (x (T90 x0 x1 x2) h14)) (y0 r) (y5 r) (y6 r)
def k194_2 : KF := fun c i x r h => (fun (x0 x1 x2 : AV) =>
 tR (nic x0 h) fun v3 h4 =>
 tR (fa 10 v3 h4) fun v5 h6 =>
 tR (ld v5 h6) fun v7 h8 =>
 tR (b_lt x2 v7 h8) fun v9 h10 =>
 ifR v9 (x (T90 x0 x1 x2) h10) (.ex 0 (T65 x1) h10)) (y0 r) (y5 r) (y6 r)
def k194_1 : KF := fun c i x r h => (fun (x0 x1 x2 : AV) =>
 tR (nic x0 h) fun v3 h4 =>
 tR (fa 13 v3 h4) fun v5 h6 =>
 tR (fa 0 v5 h6) fun v7 h8 =>
 tR (ld v7 h8) fun v9 h10 =>
 tR (maxV false [x1,v9] h10) fun v11 h12 =>
 x (T90 x0 x2 v11) h12) (y0 r) (y1 r) (y5 r)
def k194_5 : KF := fun c i x r h => (fun (x0 : AV) =>
 .ret (T15 x0) h) (y5 r)
def k194_0 : KF := fun c i x r h => (fun (x0 x1 : AV) =>
 x (T55 x0 x1 .nils) h) (y0 r) (y1 r)
def x194 : AC := (.shal k194_0 (.seq (.shal k194_1 (.block 0 (.loop (.shal k194_2 (.shal k194_3 (.shal k194_4 .skip)))))) (.shal k194_5 .skip)))
def z194 : List Rs := [.t .h0 .h4]
def f194 : AF := .mk x194 z194
def k197_0 : KF := fun c i x r h => (fun (x0 x1 : AV) =>
 tR (len x1 h) fun v2 h3 =>
 tR (b_gt v2 (pi 4194304) h3) fun v4 h5 =>
 ifR v4 (.ret (T15 (pi 13)) h5) (tT (c 39 [x1] h5) fun v6 h7 =>
 tR (nic x0 h7) fun v8 h9 =>
 tR (fa 0 v8 h9) fun v10 h11 =>
 tR (sto v10 v6 h11) fun v12 h13 =>
 tR (nic x0 h13) fun v14 h15 =>
 tR (fa 0 v14 h15) fun v16 h17 =>
 tR (ld v16 h17) fun v18 h19 =>
 tR (len v18 h19) fun v20 h21 =>
 tR (nic x0 h21) fun v22 h23 =>
 tR (fa 1 v22 h23) fun v24 h25 =>
 tR (sto v24 v20 h25) fun v26 h27 =>
 .ret (T15 (pi 0)) h27)) (y0 r) (y1 r)
def x197 : AC := (.shal k197_0 .skip)
def z197 : List Rs := [.t .h0 .h4]
def f197 : AF := .mk x197 z197
def k198_3 : KF := fun c i x r h => (fun (x0 x1 x2 : AV) =>
 tR (nic x0 h) fun v3 h4 =>
 tR (fa 1 v3 h4) fun v5 h6 =>
 tR (ld v5 h6) fun v7 h8 =>
 tR (b_add v7 (pi 1) h8) fun v9 h10 =>
 tR (nic x0 h10) fun v11 h12 =>
 tR (fa 1 v11 h12) fun v13 h14 =>
 tR (sto v13 v9 h14) fun v15 h16 =>
 .nm (T20 x0 x1 x2) h16) (y0 r) (y3 r) (y4 r)
def k198_2 : KF := fun c i x r h => (fun (x0 x1 x2 : AV) =>
 tR (nic x0 h) fun v3 h4 =>
 tR (fa 1 v3 h4) fun v5 h6 =>
 tR (ld v5 h6) fun v7 h8 =>
 tR (b_lt v7 x2 h8) fun v9 h10 =>
 ifR v9 (x (T20 x0 x1 x2) h10) (.ex 0 (T21 x1) h10)) (y0 r) (y3 r) (y4 r)
def k198_1 : KF := fun c i x r h => (fun (x0 x1 : AV) =>
 tT (c 162 [x0] h) fun v2 h3 =>
 x (T20 x0 x1 v2) h3) (y0 r) (y3 r)
def k198_4 : KF := fun c i x r h => (fun (x0 : AV) =>
 .ret (T14 x0) h) (y3 r)
def k198_0 : KF := fun c i x r h => (fun (x0 : AV) =>
 x (T19 x0 .nils) h) (y0 r)
def x198 : AC := (.shal k198_0 (.seq (.shal k198_1 (.block 0 (.loop (.shal k198_2 (.seq (.block 1 (.drw [q 0 (m d21 r0),
 q 0 (o d22 (.nilc r21)),
 q 0 (o d23 (.fad 0 r22)),
 q 0 (o d24 (.ld1 r23)),
 q 0 (m d25 r0),
 q 0 (o d26 (.nilc r25)),
 q 0 (o d27 (.fad 1 r26)),
 q 0 (o d28 (.ld1 r27)),
 q 0 (o d29 (.lkp (.one .i) (.str []) false r24 r28)),
 w (o d30 (.bslice 9 1 1 [(.str [])] [.mk 0 1 r29])),
 q 1 (m d20 r3),
 w (o d31 (.app 9 1 r20 r30)),
 q 0 (m d3 r31)])) (.shal k198_3 .skip)))))) (.shal k198_4 .skip)))
def z198 : List Rs := [.t .h0 .h2]
def f198 : AF := .mk x198 z198
def k243_0 : KF := fun c i x r h => (fun (x0 : AV) =>
 ifR (.bool true) (tT (c 301 [x0] h) fun v1 h2 =>
 .ret (T14 v1) h2) (tT (c 302 [x0] h) fun v3 h4 =>
 .ret (T14 v3) h4)) (y0 r)
def x243 : AC := (.shal k243_0 .skip)
def z243 : List Rs := [.t .h0 .h2]
def f243 : AF := .mk x243 z243
def k245_0 : KF := fun c i x r h => (fun (x0 : AV) =>
 tT (c 303 [x0] h) fun v1 h2 =>
 tR (cK (.toInt .u8) v1 h2) fun v3 h4 =>
 tR (bK .shr v1 (.int .u64 (.ofNat 8)) h4) fun v5 h6 =>
 tR (cK (.toInt .u8) v5 h6) fun v7 h8 =>
 tR (bK .shr v1 (.int .u64 (.ofNat 16)) h8) fun v9 h10 =>
 tR (cK (.toInt .u8) v9 h10) fun v11 h12 =>
 tR (bK .shr v1 (.int .u64 (.ofNat 24)) h12) fun v13 h14 =>
 tR (cK (.toInt .u8) v13 h14) fun v15 h16 =>
 tR (o_bslice 5 1 4 [(.int .u8 (.ofNat 0)),(.int .u8 (.ofNat 0)),(.int .u8 (.ofNat 0)),(.int .u8 (.ofNat 0))] [.mk 0 1 (.c v3),.mk 1 1 (.c v7),.mk 2 1 (.c v11),.mk 3 1 (.c v15)] .nil h16) fun v17 h18 =>
 tR (appV 5 1 v17 x0 h18) fun v19 h20 =>
 .ret (T14 v19) h20) (y0 r)
def x245 : AC := (.shal k245_0 .skip)
def z245 : List Rs := [.t .h0 .h2]
def f245 : AF := .mk x245 z245
def k249_0 : KF := fun c i x r h => (fun (x0 : AV) =>
 tT (c 14 [] h) fun v1 h2 =>
 tT (c 245 [x0] h2) fun v3 h4 =>
 tR (len v3 h4) fun v5 h6 =>
 tT (c 17 [v1,v5] h6) fun v7 h8 =>
 tT (c 20 [v1] h8) fun v9 h10 =>
 tR (appV 5 1 v9 v3 h10) fun v11 h12 =>
 .ret (T14 v11) h12) (y0 r)
def x249 : AC := (.shal k249_0 .skip)
def z249 : List Rs := [.t .h0 .h2]
def f249 : AF := .mk x249 z249
def k303_4 : KF := fun c i x r h => (fun (x0 x1 x2 x3 x4 : AV) =>
 tR (b_lt x4 (pi 8) h) fun v5 h6 =>
 ifR v5 (tR (b_and x0 (.int .u32 (.ofNat 1)) h6) fun v7 h8 =>
 tR (bK .shr x0 (.int .u64 (.ofNat 1)) h8) fun v9 h10 =>
 tR (b_eq v7 (.int .u32 (.ofNat 1)) h10) fun v11 h12 =>
 ifR v11 (tR (b_xor v9 (.int .u32 (.ofNat 3988292384)) h12) fun v13 h14 =>
 tR (b_add x4 (pi 1) h14) fun v15 h16 =>
 .nm (T92 v13 x1 x2 x3 v15) h16) (tR (b_add x4 (pi 1) h12) fun v17 h18 =>
 .nm (T92 v9 x1 x2 x3 v17) h18)) (.ex 2 (T92 x0 x1 x2 x3 x4) h6)) (y3 r) (y7 r) (y8 r) (y9 r) (y17 r)
def k303_3 : KF := fun c i x r h => (fun (x0 x1 x2 x3 : AV) =>
 tR (ix 1 x1 x3 h) fun v4 h5 =>
 tR (ld v4 h5) fun v6 h7 =>
 tR (cK (.toInt .u32) v6 h7) fun v8 h9 =>
 tR (b_xor x0 v8 h9) fun v10 h11 =>
 x (T92 v10 x1 x2 x3 (pi 0)) h11) (y3 r) (y7 r) (y8 r) (y9 r)
def k303_5 : KF := fun c i x r h => (fun (x0 x1 x2 x3 : AV) =>
 tR (b_add x3 (pi 1) h) fun v4 h5 =>
 .nm (T91 x0 x1 x2 v4) h5) (y3 r) (y7 r) (y8 r) (y9 r)
def k303_2 : KF := fun c i x r h => (fun (x0 x1 x2 x3 : AV) =>
 tR (b_lt x3 x2 h) fun v4 h5 =>
 ifR v4 (x (T91 x0 x1 x2 x3) h5) (.ex 0 (T21 x0) h5)) (y3 r) (y7 r) (y8 r) (y9 r)
def k303_1 : KF := fun c i x r h => (fun (x0 x1 : AV) =>
 tR (len x0 h) fun v2 h3 =>
 x (T91 x1 x0 v2 (pi 0)) h3) (y0 r) (y3 r)
def k303_6 : KF := fun c i x r h => (fun (x0 : AV) =>
 tR (u_com x0 h) fun v1 h2 =>
 .ret (T14 v1) h2) (y3 r)
def k303_0 : KF := fun c i x r h => (fun (x0 : AV) =>
 x (T19 x0 (.int .u32 (.ofNat 4294967295))) h) (y0 r)
def p303 : PK := .crc
def x303 : AC := (.shal k303_0 (.seq (.shal k303_1 (.block 0 (.loop (.shal k303_2 (.seq (.block 1 (.shal k303_3 (.block 2 (.loop (.shal k303_4 .skip))))) (.shal k303_5 .skip)))))) (.shal k303_6 .skip)))
def z303 : List Rs := [.t .h0 .h2]
def f303 : AF := .prim p303 x303 z303
def k646_0 : KF := fun c i x r h => (fun (x0 x1 x2 x3 : AV) =>
 tR (o_build [(pi 0),(.str []),.nils] [.mk 0 1 (.c x2),.mk 1 1 (.c x3),.mk 2 1 (.c .nils)] .nil h) fun v4 h5 =>
 tR (nic x0 h5) fun v6 h7 =>
 tR (fa 0 v6 h7) fun v8 h9 =>
 tR (o_ixa 5 3 (.c v8) (.c x1) .nil h9) fun v10 h11 =>
 tR (o_stn 3 (.c v10) (.c v4) .nil h11) fun v12 h13 =>
 .nm T27 h13) (y0 r) (y1 r) (y2 r) (y3 r)
def x646 : AC := (.shal k646_0 .skip)
def z646 : List Rs := []
def f646 : AF := .mk x646 z646
def row0 : F1 := (.mk .none .none .none f3 f4 f5 f6 f7 f8 f9 f10 f11 f12 f13 f14 f15)
def row1 : F1 := (.mk f16 f17 f18 f19 f20 f21 f22 f23 .none f25 .none f27 f28 f29 f30 f31)
def row2 : F1 := (.mk f32 f33 f34 f35 f36 f37 f38 f39 f40 .none .none .none .none f45 f46 .none)
def row3 : F1 := (.mk .none .none .none .none .none .none .none .none .none .none f58 f59 f60 f61 f62 f63)
def row4 : F1 := (.mk f64 f65 f66 .none f68 .none .none .none .none .none f74 f75 .none .none .none .none)
def row5 : F1 := (.mk .none .none .none .none .none .none .none .none .none .none .none .none .none f93 f94 f95)
def row6 : F1 := (.mk f96 f97 f98 f99 f100 f101 .none .none .none .none .none .none .none .none .none .none)
def row7 : F1 := (.mk .none .none .none .none .none .none .none .none .none .none .none .none .none f125 f126 f127)
def row8 : F1 := (.mk .none f129 f130 f131 f132 f133 f134 f135 f136 .none f138 f139 .none .none .none .none)
def row10 : F1 := (.mk .none .none f162 .none .none .none f166 .none .none .none f170 f171 f172 .none .none f175)
def row11 : F1 := (.mk f176 .none .none .none .none .none .none .none f184 f185 .none .none f188 .none f190 .none)
def row12 : F1 := (.mk f192 f193 f194 .none .none f197 f198 .none .none .none .none .none .none .none .none .none)
def row15 : F1 := (.mk .none .none .none f243 .none f245 .none .none .none f249 .none .none .none .none .none .none)
def row18 : F1 := (.mk .none .none .none .none .none .none .none .none .none .none .none .none .none f301 .none f303)
def row40 : F1 := (.mk .none .none .none .none .none .none f646 .none .none .none .none .none .none .none .none .none)
def page0 : F2 := .mk row0 row1 row2 row3 row4 row5 row6 row7 row8 .nil row10 row11 row12 .nil .nil row15
def page1 : F2 := .mk .nil .nil row18 .nil .nil .nil .nil .nil .nil .nil .nil .nil .nil .nil .nil .nil
def page2 : F2 := .mk .nil .nil .nil .nil .nil .nil .nil .nil row40 .nil .nil .nil .nil .nil .nil .nil
def pg : Pg := .mk (.mk page0 page1 page2 .nil .nil .nil .nil .nil .nil .nil .nil .nil .nil .nil .nil .nil) [.mk 152 2 88, .mk 146 2 645, .mk 146 1 644, .mk 146 4 643, .mk 119 4 109, .mk 146 3 647, .mk 146 0 646, .mk 119 0 107]
end
end Go.Am.Seat
