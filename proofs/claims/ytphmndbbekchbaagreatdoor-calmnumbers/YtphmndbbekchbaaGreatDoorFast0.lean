/- The same code in a form that runs faster, written by program. Nothing is asked. -/
import Derived.Test.YtphmndbbekchbaaGreatDoorHead
set_option linter.all false
namespace Go.Am.Seat
set_option linter.unusedVariables false
set_option maxRecDepth 20000
noncomputable section
def T0 (v1 v2 v4 v5 v6 v7 : AV) : A2 := N0 (.mk u v1 v2 u v4 v5 v6 v7 u u u u u u u u)
def T1 (v0 : AV) : A2 := N0 (.mk v0 u u u u u u u u u u u u u u u)
def T2 (v1 v2 v4 v5 v6 : AV) : A2 := N0 (.mk u v1 v2 u v4 v5 v6 u u u u u u u u u)
def T3 (v1 v2 v4 v5 v6 v10 v11 v12 v13 : AV) : A2 := N0 (.mk u v1 v2 u v4 v5 v6 u u u v10 v11 v12 v13 u u)
def T4 (v1 v2 v4 v5 v6 v10 v11 v12 v13 v15 v16 : AV) : A2 := N1 (.mk u v1 v2 u v4 v5 v6 u u u v10 v11 v12 v13 u v15) (.mk v16 u u u u u u u u u u u u u u u)
def T5 (v6 v7 : AV) : A2 := N0 (.mk u u u u u u v6 v7 u u u u u u u u)
def T6 (v9 v11 v12 : AV) : A2 := N0 (.mk u u u u u u u u u v9 u v11 v12 u u u)
def T7 (v2 v3 : AV) : A2 := N0 (.mk u u v2 v3 u u u u u u u u u u u u)
def T8 (v0 v6 : AV) : A2 := N0 (.mk v0 u u u u u v6 u u u u u u u u u)
def T9 (v6 v21 v22 : AV) : A2 := N1 (.mk u u u u u u v6 u u u u u u u u u) (.mk u u u u u v21 v22 u u u u u u u u u)
def T10 (v6 : AV) : A2 := N0 (.mk u u u u u u v6 u u u u u u u u u)
def T11 (v0 v3 : AV) : A2 := N0 (.mk v0 u u v3 u u u u u u u u u u u u)
def T12 (v0 v3 v7 : AV) : A2 := N0 (.mk v0 u u v3 u u u v7 u u u u u u u u)
def T13 (v0 v3 v7 v8 : AV) : A2 := N0 (.mk v0 u u v3 u u u v7 v8 u u u u u u u)
def T14 (v0 v3 v7 v13 : AV) : A2 := N0 (.mk v0 u u v3 u u u v7 u u u u u v13 u u)
def T15 (v0 v3 v7 v18 : AV) : A2 := N1 (.mk v0 u u v3 u u u v7 u u u u u u u u) (.mk u u v18 u u u u u u u u u u u u u)
def T16 (v0 v3 v7 v30 : AV) : A2 := N1 (.mk v0 u u v3 u u u v7 u u u u u u u u) (.mk u u u u u u u u u u u u u u v30 u)
def T17 (v0 v3 v7 v40 : AV) : A2 := N2 (.mk v0 u u v3 u u u v7 u u u u u u u u) .nil (.mk u u u u u u u u v40 u u u u u u u)
def T18 (v0 v3 v7 v50 : AV) : A2 := N3 (.mk v0 u u v3 u u u v7 u u u u u u u u) .nil .nil (.mk u u v50 u u u u u u u u u u u u u)
def T19 (v0 v3 v7 v66 : AV) : A2 := N4 (.mk v0 u u v3 u u u v7 u u u u u u u u) .nil .nil .nil (.mk u u v66 u u u u u u u u u u u u u)
def T20 (v0 v3 v7 v74 : AV) : A2 := N4 (.mk v0 u u v3 u u u v7 u u u u u u u u) .nil .nil .nil (.mk u u u u u u u u u u v74 u u u u u)
def T21 (v0 v80 : AV) : A2 := N5 (.mk v0 u u u u u u u u u u u u u u u) .nil .nil .nil .nil (.mk v80 u u u u u u u u u u u u u u u)
def T22 (v4 : AV) : A2 := N0 (.mk u u u u v4 u u u u u u u u u u u)
def T23 (v2 : AV) : A2 := N0 (.mk u u v2 u u u u u u u u u u u u u)
def T24 (v0 v3 v9 : AV) : A2 := N0 (.mk v0 u u v3 u u u u u v9 u u u u u u)
def T25 (v0 v1 v5 : AV) : A2 := N0 (.mk v0 v1 u u u v5 u u u u u u u u u u)
def T26 (v0 v5 v12 v13 v14 : AV) : A2 := N0 (.mk v0 u u u u v5 u u u u u u v12 v13 v14 u)
def T27 (v5 : AV) : A2 := N0 (.mk u u u u u v5 u u u u u u u u u u)
def T28 (v0 v5 v10 v11 v12 : AV) : A2 := N0 (.mk v0 u u u u v5 u u u u v10 v11 v12 u u u)
def T29 (v3 v9 v10 : AV) : A2 := N0 (.mk u u u v3 u u u u u v9 v10 u u u u u)
def T30 (v1 v2 : AV) : A2 := N0 (.mk u v1 v2 u u u u u u u u u u u u u)
def T31 (v1 : AV) : A2 := N0 (.mk u v1 u u u u u u u u u u u u u u)
def T32 (v3 : AV) : A2 := N0 (.mk u u u v3 u u u u u u u u u u u u)
def T33 (v4 v5 : AV) : A2 := N0 (.mk u u u u v4 v5 u u u u u u u u u u)
def T34 (v0 v3 v4 v6 : AV) : A2 := N0 (.mk v0 u u v3 v4 u v6 u u u u u u u u u)
def T35 (v3 v4 v6 v7 : AV) : A2 := N0 (.mk u u u v3 v4 u v6 v7 u u u u u u u u)
def T36 (v3 v4 v35 v36 v37 : AV) : A2 := N2 (.mk u u u v3 v4 u u u u u u u u u u u) .nil (.mk u u u v35 v36 v37 u u u u u u u u u u)
def T37 (v3 v4 v10 v35 v36 v37 : AV) : A2 := N2 (.mk u u u v3 v4 u u u u u v10 u u u u u) .nil (.mk u u u v35 v36 v37 u u u u u u u u u u)
def T38 : A2 := .nil
def T39 (v0 v3 v4 : AV) : A2 := N0 (.mk v0 u u v3 v4 u u u u u u u u u u u)
def T40 (v0 v3 v4 v5 : AV) : A2 := N0 (.mk v0 u u v3 v4 v5 u u u u u u u u u u)
def T41 (v0 v1 v10 v11 : AV) : A2 := N0 (.mk v0 v1 u u u u u u u u v10 v11 u u u u)
def T42 (v0 v24 v25 v26 : AV) : A2 := N1 (.mk v0 u u u u u u u u u u u u u u u) (.mk u u u u u u u u v24 v25 v26 u u u u u)
def T43 (v0 v3 v6 : AV) : A2 := N0 (.mk v0 u u v3 u u v6 u u u u u u u u u)
def T44 (v0 v3 v6 v7 : AV) : A2 := N0 (.mk v0 u u v3 u u v6 v7 u u u u u u u u)
def T45 (v0 v3 v6 v27 : AV) : A2 := N1 (.mk v0 u u v3 u u v6 u u u u u u u u u) (.mk u u u u u u u u u u u v27 u u u u)
def T46 (v0 v5 : AV) : A2 := N0 (.mk v0 u u u u v5 u u u u u u u u u u)
def T47 (v0 v3 v5 : AV) : A2 := N0 (.mk v0 u u v3 u v5 u u u u u u u u u u)
def T48 (v0 v3 v5 v35 v36 : AV) : A2 := N2 (.mk v0 u u v3 u v5 u u u u u u u u u u) .nil (.mk u u u v35 v36 u u u u u u u u u u u)
def T49 (v0 v3 v4 v5 v35 v36 v44 : AV) : A2 := N2 (.mk v0 u u v3 v4 v5 u u u u u u u u u u) .nil (.mk u u u v35 v36 u u u u u u u v44 u u u)
def T50 (v0 v1 : AV) : A2 := N0 (.mk v0 v1 u u u u u u u u u u u u u u)
def T51 (v0 v1 v32 : AV) : A2 := N2 (.mk v0 v1 u u u u u u u u u u u u u u) .nil (.mk v32 u u u u u u u u u u u u u u u)
def T52 (v0 v1 v6 v7 v32 : AV) : A2 := N2 (.mk v0 v1 u u u u v6 v7 u u u u u u u u) .nil (.mk v32 u u u u u u u u u u u u u u u)
def T53 (v0 v1 v6 : AV) : A2 := N0 (.mk v0 v1 u u u u v6 u u u u u u u u u)
def T54 (v0 v1 v6 v8 : AV) : A2 := N0 (.mk v0 v1 u u u u v6 u v8 u u u u u u u)
def T55 (v5 v12 v13 : AV) : A2 := N0 (.mk u u u u u v5 u u u u u u v12 v13 u u)
def T56 (v5 v6 v12 v13 : AV) : A2 := N0 (.mk u u u u u v5 v6 u u u u u v12 v13 u u)
def T57 (v5 v34 v35 v36 : AV) : A2 := N2 (.mk u u u u u v5 u u u u u u u u u u) .nil (.mk u u v34 v35 v36 u u u u u u u u u u u)
def T58 (v0 v1 v2 v5 v9 v10 : AV) : A2 := N0 (.mk v0 v1 v2 u u v5 u u u v9 v10 u u u u u)
def T59 (v1 v3 : AV) : A2 := N0 (.mk u v1 u v3 u u u u u u u u u u u u)
def T60 (v1 v3 v41 v42 v43 : AV) : A2 := N2 (.mk u v1 u v3 u u u u u u u u u u u u) .nil (.mk u u u u u u u u u v41 v42 v43 u u u u)
def T61 (v3 v62 v63 v64 : AV) : A2 := N4 (.mk u u u v3 u u u u u u u u u u u u) .nil .nil (.mk u u u u u u u u u u u u u u v62 v63) (.mk v64 u u u u u u u u u u u u u u u)
def T62 (v3 v7 v62 v63 v64 : AV) : A2 := N4 (.mk u u u v3 u u u v7 u u u u u u u u) .nil .nil (.mk u u u u u u u u u u u u u u v62 v63) (.mk v64 u u u u u u u u u u u u u u u)
def T63 (v3 v7 v62 v63 v64 v78 v79 v80 : AV) : A2 := N5 (.mk u u u v3 u u u v7 u u u u u u u u) .nil .nil (.mk u u u u u u u u u u u u u u v62 v63) (.mk v64 u u u u u u u u u u u u u v78 v79) (.mk v80 u u u u u u u u u u u u u u u)
def T64 (v1 v2 v3 : AV) : A2 := N0 (.mk u v1 v2 v3 u u u u u u u u u u u u)
def T65 (v1 v2 v3 v16 v17 : AV) : A2 := N1 (.mk u v1 v2 v3 u u u u u u u u u u u u) (.mk v16 v17 u u u u u u u u u u u u u u)
def T66 (v0 v1 v4 : AV) : A2 := N0 (.mk v0 v1 u u v4 u u u u u u u u u u u)
def T67 (v0 v4 v50 v51 v52 : AV) : A2 := N3 (.mk v0 u u u v4 u u u u u u u u u u u) .nil .nil (.mk u u v50 v51 v52 u u u u u u u u u u u)
def T68 (v0 v4 v62 : AV) : A2 := N3 (.mk v0 u u u v4 u u u u u u u u u u u) .nil .nil (.mk u u u u u u u u u u u u u u v62 u)
def T69 (v0 v4 v11 v12 v62 : AV) : A2 := N3 (.mk v0 u u u v4 u u u u u u v11 v12 u u u) .nil .nil (.mk u u u u u u u u u u u u u u v62 u)
def T70 (v0 v4 v11 v12 v13 v62 v91 : AV) : A2 := N5 (.mk v0 u u u v4 u u u u u u v11 v12 v13 u u) .nil .nil (.mk u u u u u u u u u u u u u u v62 u) .nil (.mk u u u u u u u u u u u v91 u u u u)
def T71 (v0 v3 v4 v5 v9 : AV) : A2 := N0 (.mk v0 u u v3 v4 v5 u u u v9 u u u u u u)
def T72 (v0 v3 v4 v5 v6 v7 v9 : AV) : A2 := N0 (.mk v0 u u v3 v4 v5 v6 v7 u v9 u u u u u u)
def T73 (v0 v3 v4 v5 v6 v8 v9 : AV) : A2 := N0 (.mk v0 u u v3 v4 v5 v6 u v8 v9 u u u u u u)
def T74 (v0 v5 v6 : AV) : A2 := N0 (.mk v0 u u u u v5 v6 u u u u u u u u u)
def T75 (v0 v1 v2 v9 : AV) : A2 := N0 (.mk v0 v1 v2 u u u u u u v9 u u u u u u)
def T76 (v0 v4 : AV) : A2 := N0 (.mk v0 u u u v4 u u u u u u u u u u u)
def T77 (v0 v81 v82 v83 : AV) : A2 := N5 (.mk v0 u u u u u u u u u u u u u u u) .nil .nil .nil .nil (.mk u v81 v82 v83 u u u u u u u u u u u u)
def T78 (v3 v6 v7 v8 : AV) : A2 := N0 (.mk u u u v3 u u v6 v7 v8 u u u u u u u)
def T79 (v1 v38 v39 v40 : AV) : A2 := N2 (.mk u v1 u u u u u u u u u u u u u u) .nil (.mk u u u u u u v38 v39 v40 u u u u u u u)
def T80 (v1 v4 v38 v39 v40 : AV) : A2 := N2 (.mk u v1 u u v4 u u u u u u u u u u u) .nil (.mk u u u u u u v38 v39 v40 u u u u u u u)
def T81 (v58 v59 v60 : AV) : A2 := N3 .nil .nil .nil (.mk u u u u u u u u u u v58 v59 v60 u u u)
def T82 (v6 v58 v59 v60 : AV) : A2 := N3 (.mk u u u u u u v6 u u u u u u u u u) .nil .nil (.mk u u u u u u u u u u v58 v59 v60 u u u)
def T83 (v2 v8 : AV) : A2 := N0 (.mk u u v2 u u u u u v8 u u u u u u u)
def T84 (v2 v8 v9 : AV) : A2 := N0 (.mk u u v2 u u u u u v8 v9 u u u u u u)
def T85 (v0 v2 v6 : AV) : A2 := N0 (.mk v0 u v2 u u u v6 u u u u u u u u u)
def T86 (v0 v1 v2 v11 v12 v13 : AV) : A2 := N0 (.mk v0 v1 v2 u u u u u u u u v11 v12 v13 u u)
def T87 (v0 v1 v2 : AV) : A2 := N0 (.mk v0 v1 v2 u u u u u u u u u u u u u)
def T88 (v0 v1 v2 v6 v7 v11 v12 v13 : AV) : A2 := N0 (.mk v0 v1 v2 u u u v6 v7 u u u v11 v12 v13 u u)
def T89 (v0 v1 v2 v6 v11 v12 v13 : AV) : A2 := N0 (.mk v0 v1 v2 u u u v6 u u u u v11 v12 v13 u u)
def T90 (v0 v1 v2 v6 : AV) : A2 := N0 (.mk v0 v1 v2 u u u v6 u u u u u u u u u)
def T91 (v0 v1 v2 v7 : AV) : A2 := N0 (.mk v0 v1 v2 u u u u v7 u u u u u u u u)
def T92 (v0 v3 v4 v5 v6 : AV) : A2 := N0 (.mk v0 u u v3 v4 v5 v6 u u u u u u u u u)
def T93 (v0 v3 v4 v6 v29 : AV) : A2 := N1 (.mk v0 u u v3 v4 u v6 u u u u u u u u u) (.mk u u u u u u u u u u u u u v29 u u)
def T94 (v0 v3 v4 v6 v29 v30 : AV) : A2 := N1 (.mk v0 u u v3 v4 u v6 u u u u u u u u u) (.mk u u u u u u u u u u u u u v29 v30 u)
def T95 (v0 v3 v4 v6 v29 v38 : AV) : A2 := N2 (.mk v0 u u v3 v4 u v6 u u u u u u u u u) (.mk u u u u u u u u u u u u u v29 u u) (.mk u u u u u u v38 u u u u u u u u u)
def T96 (v0 v3 v4 v6 v29 v46 : AV) : A2 := N2 (.mk v0 u u v3 v4 u v6 u u u u u u u u u) (.mk u u u u u u u u u u u u u v29 u u) (.mk u u u u u u u u u u u u u u v46 u)
def T97 (v0 v3 v4 v6 v29 v54 : AV) : A2 := N3 (.mk v0 u u v3 v4 u v6 u u u u u u u u u) (.mk u u u u u u u u u u u u u v29 u u) .nil (.mk u u u u u u v54 u u u u u u u u u)
def T98 (v0 v69 v70 v71 : AV) : A2 := N4 (.mk v0 u u u u u u u u u u u u u u u) .nil .nil .nil (.mk u u u u u v69 v70 v71 u u u u u u u u)
def T99 (v0 v91 : AV) : A2 := N5 (.mk v0 u u u u u u u u u u u u u u u) .nil .nil .nil .nil (.mk u u u u u u u u u u u v91 u u u u)
def T100 (v0 v3 v12 v13 v14 : AV) : A2 := N0 (.mk v0 u u v3 u u u u u u u u v12 v13 v14 u)
def T101 (v3 v6 v32 v33 v34 : AV) : A2 := N2 (.mk u u u v3 u u v6 u u u u u u u u u) .nil (.mk v32 v33 v34 u u u u u u u u u u u u u)
def T102 (v3 v6 v8 v32 v33 v34 : AV) : A2 := N2 (.mk u u u v3 u u v6 u v8 u u u u u u u) .nil (.mk v32 v33 v34 u u u u u u u u u u u u u)
def T103 (v0 v7 v8 v9 : AV) : A2 := N0 (.mk v0 u u u u u u v7 v8 v9 u u u u u u)
def T104 (v0 v4 v5 : AV) : A2 := N0 (.mk v0 u u u v4 v5 u u u u u u u u u u)
def T105 (v0 v4 v5 v6 : AV) : A2 := N0 (.mk v0 u u u v4 v5 v6 u u u u u u u u u)
def T106 (v0 v1 v4 v12 : AV) : A2 := N0 (.mk v0 v1 u u v4 u u u u u u u v12 u u u)
def T107 (v0 v1 v4 v12 v13 : AV) : A2 := N0 (.mk v0 v1 u u v4 u u u u u u u v12 v13 u u)
def T108 (v0 v1 v4 v12 v20 : AV) : A2 := N1 (.mk v0 v1 u u v4 u u u u u u u v12 u u u) (.mk u u u u v20 u u u u u u u u u u u)
def T109 (v0 v1 v4 v29 : AV) : A2 := N1 (.mk v0 v1 u u v4 u u u u u u u u u u u) (.mk u u u u u u u u u u u u u v29 u u)
def T110 (v0 v5 v6 v7 : AV) : A2 := N0 (.mk v0 u u u u v5 v6 v7 u u u u u u u u)
def T111 (v1 v2 v29 v30 v31 : AV) : A2 := N1 (.mk u v1 v2 u u u u u u u u u u u u u) (.mk u u u u u u u u u u u u u v29 v30 v31)
def T112 (v1 v2 v50 v51 v52 : AV) : A2 := N3 (.mk u v1 v2 u u u u u u u u u u u u u) .nil .nil (.mk u u v50 v51 v52 u u u u u u u u u u u)
def T113 (v1 v2 v6 v7 v50 v51 v52 : AV) : A2 := N3 (.mk u v1 v2 u u u v6 v7 u u u u u u u u) .nil .nil (.mk u u v50 v51 v52 u u u u u u u u u u u)
def T114 (v0 v2 v14 v15 v16 : AV) : A2 := N1 (.mk v0 u v2 u u u u u u u u u u u v14 v15) (.mk v16 u u u u u u u u u u u u u u u)
def T115 (v5 v6 v7 : AV) : A2 := N0 (.mk u u u u u v5 v6 v7 u u u u u u u u)
def T116 (v0 v1 v11 : AV) : A2 := N0 (.mk v0 v1 u u u u u u u u u v11 u u u u)
def T117 (v0 v2 v4 v5 : AV) : A2 := N0 (.mk v0 u v2 u v4 v5 u u u u u u u u u u)
def T118 (v0 v2 v4 v5 v6 : AV) : A2 := N0 (.mk v0 u v2 u v4 v5 v6 u u u u u u u u u)
def T119 (v0 v2 v4 v5 v8 : AV) : A2 := N0 (.mk v0 u v2 u v4 v5 u u v8 u u u u u u u)
def T120 (v0 v2 v5 v9 : AV) : A2 := N0 (.mk v0 u v2 u u v5 u u u v9 u u u u u u)
def T121 (v2 v5 : AV) : A2 := N0 (.mk u u v2 u u v5 u u u u u u u u u u)
def T122 (v4 v6 : AV) : A2 := N0 (.mk u u u u v4 u v6 u u u u u u u u u)
def T123 (v0 v2 : AV) : A2 := N0 (.mk v0 u v2 u u u u u u u u u u u u u)
def T124 (v0 v2 v3 : AV) : A2 := N0 (.mk v0 u v2 v3 u u u u u u u u u u u u)
def T125 (v1 v4 v6 v8 v9 : AV) : A2 := N0 (.mk u v1 u u v4 u v6 u v8 v9 u u u u u u)
def T126 (v0 v1 v3 v6 v8 v9 : AV) : A2 := N0 (.mk v0 v1 u v3 u u v6 u v8 v9 u u u u u u)
def T127 (v0 v1 v3 v6 v8 v9 v10 : AV) : A2 := N0 (.mk v0 v1 u v3 u u v6 u v8 v9 v10 u u u u u)
def T128 (v0 v1 v6 v8 v9 v41 v42 v43 : AV) : A2 := N2 (.mk v0 v1 u u u u v6 u v8 v9 u u u u u u) .nil (.mk u u u u u u u u u v41 v42 v43 u u u u)
def T129 (v0 v1 v6 v9 : AV) : A2 := N0 (.mk v0 v1 u u u u v6 u u v9 u u u u u u)
def T130 (v0 v1 v6 v8 v9 : AV) : A2 := N0 (.mk v0 v1 u u u u v6 u v8 v9 u u u u u u)
def T131 (v0 v1 v3 v6 : AV) : A2 := N0 (.mk v0 v1 u v3 u u v6 u u u u u u u u u)
def T132 (v1 v3 v6 : AV) : A2 := N0 (.mk u v1 u v3 u u v6 u u u u u u u u u)
def T133 (v0 v16 v17 v18 : AV) : A2 := N1 (.mk v0 u u u u u u u u u u u u u u u) (.mk v16 v17 v18 u u u u u u u u u u u u u)
def T134 (v0 v1 v2 v11 v12 : AV) : A2 := N0 (.mk v0 v1 v2 u u u u u u u u v11 v12 u u u)
def T135 (v0 v1 v6 v7 v8 : AV) : A2 := N0 (.mk v0 v1 u u u u v6 v7 v8 u u u u u u u)
def T136 (v0 v1 v6 v7 v8 v11 v12 : AV) : A2 := N0 (.mk v0 v1 u u u u v6 v7 v8 u u v11 v12 u u u)
def T137 (v0 v1 v6 v8 v12 : AV) : A2 := N0 (.mk v0 v1 u u u u v6 u v8 u u u v12 u u u)
def T138 (v0 v8 v12 : AV) : A2 := N0 (.mk v0 u u u u u u u v8 u u u v12 u u u)
def T139 (v4 v5 v6 v7 : AV) : A2 := N0 (.mk u u u u v4 v5 v6 v7 u u u u u u u u)
def T140 (v0 v1 v5 v6 : AV) : A2 := N0 (.mk v0 v1 u u u v5 v6 u u u u u u u u u)
def T141 (v7 : AV) : A2 := N0 (.mk u u u u u u u v7 u u u u u u u u)
def T142 (v0 v3 v4 v10 : AV) : A2 := N0 (.mk v0 u u v3 v4 u u u u u v10 u u u u u)
def T143 (v0 v3 v4 v10 v11 : AV) : A2 := N0 (.mk v0 u u v3 v4 u u u u u v10 v11 u u u u)
def T144 (v0 v3 v4 v10 v32 : AV) : A2 := N2 (.mk v0 u u v3 v4 u u u u u v10 u u u u u) .nil (.mk v32 u u u u u u u u u u u u u u u)
def T145 (v0 v3 v4 v58 : AV) : A2 := N3 (.mk v0 u u v3 v4 u u u u u u u u u u u) .nil .nil (.mk u u u u u u u u u u v58 u u u u u)
def T146 (v8 : AV) : A2 := N0 (.mk u u u u u u u u v8 u u u u u u u)
def T147 (v0 v1 v2 v6 v7 : AV) : A2 := N0 (.mk v0 v1 v2 u u u v6 v7 u u u u u u u u)
def T148 (v0 v84 v85 v86 : AV) : A2 := N5 (.mk v0 u u u u u u u u u u u u u u u) .nil .nil .nil .nil (.mk u u u u v84 v85 v86 u u u u u u u u u)
def T149 (v0 v7 v8 : AV) : A2 := N0 (.mk v0 u u u u u u v7 v8 u u u u u u u)
def T150 (v0 v133 v134 : AV) : A2 := N8 (.mk v0 u u u u u u u u u u u u u u u) .nil .nil .nil .nil .nil .nil .nil (.mk u u u u u v133 v134 u u u u u u u u u)
def T151 (v0 v2 v4 : AV) : A2 := N0 (.mk v0 u v2 u v4 u u u u u u u u u u u)
def T152 (v0 v1 v8 : AV) : A2 := N0 (.mk v0 v1 u u u u u u v8 u u u u u u u)
def T153 (v0 v4 v5 v19 v20 v21 : AV) : A2 := N1 (.mk v0 u u u v4 v5 u u u u u u u u u u) (.mk u u u v19 v20 v21 u u u u u u u u u u)
def T154 (v0 v10 v11 v12 : AV) : A2 := N0 (.mk v0 u u u u u u u u u v10 v11 v12 u u u)
def T155 (v0 v1 v3 v6 v8 : AV) : A2 := N0 (.mk v0 v1 u v3 u u v6 u v8 u u u u u u u)
def T156 (v0 v1 v3 v8 : AV) : A2 := N0 (.mk v0 v1 u v3 u u u u v8 u u u u u u u)
def T157 (v0 v3 v8 : AV) : A2 := N0 (.mk v0 u u v3 u u u u v8 u u u u u u u)
def T158 (v0 v3 v8 v49 : AV) : A2 := N3 (.mk v0 u u v3 u u u u v8 u u u u u u u) .nil .nil (.mk u v49 u u u u u u u u u u u u u u)
def T159 (v0 v3 v8 v9 : AV) : A2 := N0 (.mk v0 u u v3 u u u u v8 v9 u u u u u u)
def T160 (v0 v5 v6 v7 v9 : AV) : A2 := N0 (.mk v0 u u u u v5 v6 v7 u v9 u u u u u u)
def T161 (v0 v5 v6 v7 v10 : AV) : A2 := N0 (.mk v0 u u u u v5 v6 v7 u u v10 u u u u u)
def T162 (v0 v1 v9 : AV) : A2 := N0 (.mk v0 v1 u u u u u u u v9 u u u u u u)
def T163 (v0 v4 v5 v7 : AV) : A2 := N0 (.mk v0 u u u v4 v5 u v7 u u u u u u u u)
def T164 (v0 v4 v6 : AV) : A2 := N0 (.mk v0 u u u v4 u v6 u u u u u u u u u)
def T165 (v4 v7 : AV) : A2 := N0 (.mk u u u u v4 u u v7 u u u u u u u u)
def T166 (v1 v3 v11 : AV) : A2 := N0 (.mk u v1 u v3 u u u u u u u v11 u u u u)
def T167 (v1 v3 v22 : AV) : A2 := N1 (.mk u v1 u v3 u u u u u u u u u u u u) (.mk u u u u u u v22 u u u u u u u u u)
def T168 (v0 v1 v12 v13 : AV) : A2 := N0 (.mk v0 v1 u u u u u u u u u u v12 v13 u u)
def T169 (v0 v1 v2 v8 : AV) : A2 := N0 (.mk v0 v1 v2 u u u u u v8 u u u u u u u)
def T170 (v0 v2 v5 v6 v7 : AV) : A2 := N0 (.mk v0 u v2 u u v5 v6 v7 u u u u u u u u)
def T171 (v0 v2 v4 v6 : AV) : A2 := N0 (.mk v0 u v2 u v4 u v6 u u u u u u u u u)
def T172 (v0 v2 v3 v5 : AV) : A2 := N0 (.mk v0 u v2 v3 u v5 u u u u u u u u u u)
def T173 (v0 v1 v7 v8 : AV) : A2 := N0 (.mk v0 v1 u u u u u v7 v8 u u u u u u u)
def T174 (v1 v4 : AV) : A2 := N0 (.mk u v1 u u v4 u u u u u u u u u u u)
def T175 (v3 v7 v8 v9 : AV) : A2 := N0 (.mk u u u v3 u u u v7 v8 v9 u u u u u u)
def T176 (v3 v7 v8 v9 v17 : AV) : A2 := N1 (.mk u u u v3 u u u v7 v8 v9 u u u u u u) (.mk u v17 u u u u u u u u u u u u u u)
def T177 (v0 v15 v16 v17 : AV) : A2 := N1 (.mk v0 u u u u u u u u u u u u u u v15) (.mk v16 v17 u u u u u u u u u u u u u u)
def T178 (v0 v3 v4 v15 v16 v17 : AV) : A2 := N1 (.mk v0 u u v3 v4 u u u u u u u u u u v15) (.mk v16 v17 u u u u u u u u u u u u u u)
def T179 (v0 v1 v2 v7 v8 : AV) : A2 := N0 (.mk v0 v1 v2 u u u u v7 v8 u u u u u u u)
def T180 (v0 v1 v2 v7 v8 v31 : AV) : A2 := N1 (.mk v0 v1 v2 u u u u v7 v8 u u u u u u u) (.mk u u u u u u u u u u u u u u u v31)
def T181 (v0 v16 v17 : AV) : A2 := N1 (.mk v0 u u u u u u u u u u u u u u u) (.mk v16 v17 u u u u u u u u u u u u u u)
def T182 (v0 v3 v16 v17 : AV) : A2 := N1 (.mk v0 u u v3 u u u u u u u u u u u u) (.mk v16 v17 u u u u u u u u u u u u u u)
def T183 (v0 v1 v2 v3 v4 v10 v11 : AV) : A2 := N0 (.mk v0 v1 v2 v3 v4 u u u u u v10 v11 u u u u)
def T184 (v0 v1 v2 v3 v4 v10 v11 v12 : AV) : A2 := N0 (.mk v0 v1 v2 v3 v4 u u u u u v10 v11 v12 u u u)
def T185 (v0 v1 v2 v3 v4 v10 v11 v12 v13 v14 : AV) : A2 := N0 (.mk v0 v1 v2 v3 v4 u u u u u v10 v11 v12 v13 v14 u)
def T186 (v0 v1 v2 v3 v4 v10 v11 v12 v13 : AV) : A2 := N0 (.mk v0 v1 v2 v3 v4 u u u u u v10 v11 v12 v13 u u)
def T187 (v0 v1 v2 v3 v4 v11 v16 v18 v19 v20 : AV) : A2 := N1 (.mk v0 v1 v2 v3 v4 u u u u u u v11 u u u u) (.mk v16 u v18 v19 v20 u u u u u u u u u u u)
def T188 (v0 v1 v2 v3 v4 v11 v16 v18 v19 v20 v125 : AV) : A2 := N7 (.mk v0 v1 v2 v3 v4 u u u u u u v11 u u u u) (.mk v16 u v18 v19 v20 u u u u u u u u u u u) .nil .nil .nil .nil .nil (.mk u u u u u u u u u u u u u v125 u u)
def T189 (v0 v1 v2 v3 v8 v9 : AV) : A2 := N0 (.mk v0 v1 v2 v3 u u u u v8 v9 u u u u u u)
def T190 (v0 v1 v2 v3 v8 v9 v10 : AV) : A2 := N0 (.mk v0 v1 v2 v3 u u u u v8 v9 v10 u u u u u)
def T191 (v0 v1 v2 v3 v8 v9 v10 v11 v12 : AV) : A2 := N0 (.mk v0 v1 v2 v3 u u u u v8 v9 v10 v11 v12 u u u)
def T192 (v0 v1 v2 v3 v8 v9 v10 v11 : AV) : A2 := N0 (.mk v0 v1 v2 v3 u u u u v8 v9 v10 v11 u u u u)
def T193 (v0 v1 v2 v3 v9 v14 v16 v17 v18 : AV) : A2 := N1 (.mk v0 v1 v2 v3 u u u u u v9 u u u u v14 u) (.mk v16 v17 v18 u u u u u u u u u u u u u)
def T194 (v0 v1 v2 v3 v9 v14 v16 v17 v18 v113 : AV) : A2 := N7 (.mk v0 v1 v2 v3 u u u u u v9 u u u u v14 u) (.mk v16 v17 v18 u u u u u u u u u u u u u) .nil .nil .nil .nil .nil (.mk u v113 u u u u u u u u u u u u u u)
def T195 (v0 v1 v2 v3 v8 : AV) : A2 := N0 (.mk v0 v1 v2 v3 u u u u v8 u u u u u u u)
def k3_3 : KF := fun c i x r h => (fun (x0 x1 x2 x3 x4 x5 x6 x7 x8 : AV) =>
 tR (o_build [(pi 0),(pi 0),(pi 0),(pi 0),(.str []),(pi 0),(pi 0),(pi 0),(.str []),(.str []),.nils,.nils] [.mk 0 1 (.c (pi 7)),.mk 2 1 (.c (pi 2))] .nil h) fun v9 h10 =>
 tT (c 7 [x4,v9] h10) fun v11 h12 =>
 tT (c 9 [] h12) fun v13 h14 =>
 tT (c 8 [(.str [116]),v13] h14) fun v15 h16 =>
 tR (o_build [(pi 0),(pi 0),(pi 0),(pi 0),(.str []),(pi 0),(pi 0),(pi 0),(.str []),(.str []),.nils,.nils] [.mk 0 1 (.c (pi 1)),.mk 1 1 (.c (pi 4)),.mk 5 7 (.c v15)] .nil h16) fun v17 h18 =>
 tT (c 7 [x4,v17] h18) fun v19 h20 =>
 tR (o_build [(pi 0),(pi 0),(pi 0),(.str []),(.str []),.nils,.nils] [] .nil h20) fun v21 h22 =>
 tT (c 4 [x4,(pi 4),v21] h22) fun v23 h24 =>
 tR (o_ext 0 (.c v23) .nil h24) fun v25 h26 =>
 tR (o_ext 1 (.c v23) .nil h26) fun v27 h28 =>
 tR (o_alloc 24 3 (.k1 (.mk (pi 0) (pi 0) (.str []) .undef .undef .undef .undef .undef .undef .undef .undef .undef .undef .undef .undef .undef)) .nil h28) fun v29 h30 =>
 tR (o_stn 3 (.c v29) (.c v25) .nil h30) fun v31 h32 =>
 tT (c 10 [x4] h32) fun v33 h34 =>
 x (T4 x0 x1 x2 x3 x4 x5 x6 x7 x8 v27 v33) h34) (y1 r) (y2 r) (y4 r) (y5 r) (y6 r) (y10 r) (y11 r) (y12 r) (y13 r)
def k3_2 : KF := fun c i x r h => (fun (x0 x1 x2 x3 x4 : AV) =>
 tR (o_build [(pi 0),(pi 0),(pi 0),(pi 0),(.str []),(pi 0),(pi 0),(pi 0),(.str []),(.str []),.nils,.nils] [.mk 0 1 (.c (pi 7)),.mk 2 1 (.c (pi 1))] .nil h) fun v5 h6 =>
 tT (c 7 [x4,v5] h6) fun v7 h8 =>
 tT (c 5 [x4,(pi 0),(pi 1),(.str [118])] h8) fun v9 h10 =>
 tR (o_ext 0 (.c v9) .nil h10) fun v11 h12 =>
 tR (o_ext 1 (.c v9) .nil h12) fun v13 h14 =>
 tR (o_ext 2 (.c v9) .nil h14) fun v15 h16 =>
 tR (o_alloc 24 3 (.k1 (.mk (pi 0) (pi 0) (.str []) .undef .undef .undef .undef .undef .undef .undef .undef .undef .undef .undef .undef .undef)) .nil h16) fun v17 h18 =>
 tR (o_stn 3 (.c v17) (.c v13) .nil h18) fun v19 h20 =>
 tT (c 5 [x4,(pi 0),(pi 0),(.str [118])] h20) fun v21 h22 =>
 tR (o_ext 0 (.c v21) .nil h22) fun v23 h24 =>
 tR (o_ext 1 (.c v21) .nil h24) fun v25 h26 =>
 tR (o_ext 2 (.c v21) .nil h26) fun v27 h28 =>
 tR (o_alloc 24 3 (.k1 (.mk (pi 0) (pi 0) (.str []) .undef .undef .undef .undef .undef .undef .undef .undef .undef .undef .undef .undef .undef)) .nil h28) fun v29 h30 =>
 tR (o_stn 3 (.c v29) (.c v25) .nil h30) fun v31 h32 =>
 x (T3 x0 x1 x2 x3 x4 v15 v23 v29 v27) h32) (y1 r) (y2 r) (y4 r) (y5 r) (y6 r)
def k3_1 : KF := fun c i x r h => (fun (x0 x1 x2 x3 x4 x5 : AV) =>
 tR (bK .peq x4 .nilp h) fun v6 h7 =>
 (fun (k8 : AV → Hp → RS) => gd v6 false (k8 x5 h7) (k8 .undef h7)) fun v9 h10 =>
 (fun (k11 : AV → Hp → RS) => gd v6 false (tR (b_ne v9 (pi 0) h10) fun v14 h15 =>
 k11 v14 h15) (k11 .undef h10)) fun v12 h13 =>
 tR (o_pick (.c v6) (.c (.bool true)) (.c v12) .nil h13) fun v16 h17 =>
 ifR v16 (.ret (T1 (.bool false)) h17) (x (T2 x0 x1 x2 x3 x4) h17)) (y1 r) (y2 r) (y4 r) (y5 r) (y6 r) (y7 r)
def k3_0 : KF := fun c i x r h => tR (o_build [(pi 0),(pi 0),(pi 0),(.str []),(.str []),.nils,.nils] [] .nil h) fun v0 h1 =>
 tT (c 4 [.nilp,(pi 0),v0] h1) fun v2 h3 =>
 tR (o_ext 0 (.c v2) .nil h3) fun v4 h5 =>
 tR (o_ext 1 (.c v2) .nil h5) fun v6 h7 =>
 tR (o_alloc 24 3 (.k1 (.mk (pi 0) (pi 0) (.str []) .undef .undef .undef .undef .undef .undef .undef .undef .undef .undef .undef .undef .undef)) .nil h7) fun v8 h9 =>
 tR (o_stn 3 (.c v8) (.c v4) .nil h9) fun v10 h11 =>
 tT (c 5 [.nilp,(pi 0),(pi 0),(.str [118])] h11) fun v12 h13 =>
 tR (o_ext 0 (.c v12) .nil h13) fun v14 h15 =>
 tR (o_ext 1 (.c v12) .nil h15) fun v16 h17 =>
 tR (o_ext 2 (.c v12) .nil h17) fun v18 h19 =>
 tR (o_alloc 24 3 (.k1 (.mk (pi 0) (pi 0) (.str []) .undef .undef .undef .undef .undef .undef .undef .undef .undef .undef .undef .undef .undef)) .nil h19) fun v20 h21 =>
 tR (o_stn 3 (.c v20) (.c v16) .nil h21) fun v22 h23 =>
 tT (c 6 [(pi 3)] h23) fun v24 h25 =>
 tR (o_ext 0 (.c v24) .nil h25) fun v26 h27 =>
 tR (o_ext 1 (.c v24) .nil h27) fun v28 h29 =>
 x (T0 v8 v6 v20 v18 v26 v28) h29
def x3 : AC := (.shal k3_0 (.shal k3_1 (.shal k3_2 (.shal k3_3 (.seq (.ops [m d68 r2,
 o d69 (.un .not r68),
 m d70 r69,
 .g .h4 .h6 true d71 (.op (.ldn 3 r1)),
 .g .h4 .h6 true d72 (.op (.build [(pi 0),(pi 0),(.str [])] [])),
 .g .h4 .h6 true d73 (.op (.bin (.aeq [.i,.i,.s]) r71 r72)),
 o d74 (.pick r70 r73 (.c (.bool false))),
 m d75 r74,
 .g .h4 .hb true d76 (.op (.mv r5)),
 .g .h4 .hb true d77 (.op (.un .not r76)),
 o d78 (.pick r75 r77 (.c (.bool false))),
 m d79 r78,
 .g .h4 .hf true d80 (.op (.ldn 3 r4)),
 .g .h4 .hf true d81 (.op (.build [(pi 0),(pi 0),(.str [])] [])),
 .g .h4 .hf true d82 (.op (.bin (.aeq [.i,.i,.s]) r80 r81)),
 o d83 (.pick r79 r82 (.c (.bool false))),
 m d84 r83,
 .g .h5 .h4 true d85 (.op (.build [(pi 0),(pi 0),(pi 0),(.str []),(.str []),.nils,.nils] [])),
 .g .h5 .h4 true d86 (.op (.bslice 30 7 1 [(pi 0),(pi 0),(pi 0),(.str []),(.str []),.nils,.nils] [.mk 0 7 r85])),
 .g .h5 .h4 true d87 (.call 11 [(.c .nilp),r86]),
 .g .h5 .h4 true d88 (.op (.len r87)),
 .g .h5 .h4 true d89 (.op (.bin .eq r88 a0)),
 o d90 (.pick r84 r89 (.c (.bool false))),
 m d91 r90,
 .g .h5 .hb true d92 (.call 12 [(.c .nilp),(.c .nils)]),
 .g .h5 .hb true d93 (.op (.len r92)),
 .g .h5 .hb true d94 (.call 10 [(.c .nilp)]),
 .g .h5 .hb true d95 (.op (.len r94)),
 .g .h5 .hb true d96 (.op (.bin .add r93 r95)),
 .g .h5 .hb true d97 (.op (.bin .eq r96 a0)),
 o d98 (.pick r91 r97 (.c (.bool false))),
 m d99 r98,
 .g .h6 .h3 true d100 (.op (.mv r10)),
 .g .h6 .h3 true d101 (.op (.un .not r100)),
 o d102 (.pick r99 r101 (.c (.bool false))),
 m d103 r102,
 .g .h6 .h7 true d104 (.op (.mv r11)),
 .g .h6 .h7 true d105 (.op (.len r104)),
 .g .h6 .h7 true d106 (.op (.bin .eq r105 a0)),
 o d107 (.pick r103 r106 (.c (.bool false))),
 m d108 r107,
 .g .h6 .hc true d109 (.op (.ldn 3 r12)),
 .g .h6 .hc true d110 (.op (.build [(pi 0),(pi 0),(.str [])] [.mk 0 1 (.c (pi 20))])),
 .g .h6 .hc true d111 (.op (.bin (.aeq [.i,.i,.s]) r109 r110)),
 o d112 (.pick r108 r111 (.c (.bool false))),
 m d113 r112,
 .g .h7 .h1 true d114 (.op (.mv r13)),
 o d115 (.pick r113 r114 (.c (.bool false))),
 m d116 r115,
 .g .h7 .h4 true d117 (.op (.mv r15)),
 .g .h7 .h4 true d118 (.op (.un .not r117)),
 o d119 (.pick r116 r118 (.c (.bool false))),
 m d120 r119,
 .g .h7 .h8 true d121 (.op (.mv r16)),
 .g .h7 .h8 true d122 (.op (.len r121)),
 .g .h7 .h8 true d123 (.op (.bin .eq r122 a1)),
 o d124 (.pick r120 r123 (.c (.bool false))),
 m d125 r124,
 .g .h7 .hd true d126 (.op (.mv r16)),
 .g .h7 .hd true d127 (.op (.ixs 18 r126 a0)),
 .g .h7 .hd true d128 (.op (.fad 1 r127)),
 .g .h7 .hd true d129 (.op (.ld1 r128)),
 .g .h7 .hd true d130 (.op (.bin .eq r129 (.c (pi 4)))),
 o d131 (.pick r125 r130 (.c (.bool false))),
 m d132 r131,
 .g .h8 .h4 true d133 (.op (.mv r6)),
 .g .h8 .h4 true d134 (.call 13 [r133,a1]),
 o d135 (.pick r132 r134 (.c (.bool false))),
 m d136 r135,
 .g .h8 .h8 true d137 (.op (.mv r6)),
 .g .h8 .h8 true d138 (.call 14 [r137]),
 .g .h8 .h8 true d139 (.op (.len r138)),
 .g .h8 .h8 true d140 (.op (.bin .eq r139 a0)),
 o d141 (.pick r136 r140 (.c (.bool false))),
 m d142 r141,
 .g .h8 .he true d143 (.call 15 []),
 o d144 (.pick r142 r143 (.c (.bool false))),
 m d0 r144]) .ret)))))
def z3 : List Rs := [.t .h0 .h0]
def f3 : AF := .mk x3 z3
def k4_0 : KF := fun c i x r h => (fun (x0 x1 x2 : AV) =>
 tR (o_box 30 (.c x2) .nil h) fun v3 h4 =>
 tR (o_alloc 24 3 (.k1 (.mk (pi 0) (pi 0) (.str []) .undef .undef .undef .undef .undef .undef .undef .undef .undef .undef .undef .undef .undef)) .nil h4) fun v5 h6 =>
 tR (o_ldn 7 (.c v3) .nil h6) fun v7 h8 =>
 tR (o_build [(pi 0),(pi 0),(pi 0),(pi 0),(.str []),(pi 0),(pi 0),(pi 0),(.str []),(.str []),.nils,.nils] [.mk 0 1 (.c (pi 1)),.mk 1 1 (.c x1),.mk 5 7 (.c v7)] .nil h8) fun v9 h10 =>
 tT (c 16 [x0,v9] h10) fun v11 h12 =>
 tR (o_ext 0 (.c v11) .nil h12) fun v13 h14 =>
 tR (o_ext 1 (.c v11) .nil h14) fun v15 h16 =>
 tR (o_alloc 50 18 (.k2 (.mk (.mk (pi 0) (pi 0) (pi 0) (pi 0) (pi 0) (pi 0) (.str []) (pi 0) (pi 0) (pi 0) (.str []) (.str []) .nils .nils (pi 0) (pi 0)) (.mk (.str []) .nils .undef .undef .undef .undef .undef .undef .undef .undef .undef .undef .undef .undef .undef .undef) .nil .nil .nil .nil .nil .nil .nil .nil .nil .nil .nil .nil .nil .nil)) .nil h16) fun v17 h18 =>
 tR (o_stn 18 (.c v17) (.c v13) .nil h18) fun v19 h20 =>
 tR (fa 14 v17 h20) fun v21 h22 =>
 tR (o_ldn 3 (.c v21) .nil h22) fun v23 h24 =>
 tR (o_stn 3 (.c v5) (.c v23) .nil h24) fun v25 h26 =>
 .ret (T5 v5 v15) h26) (y0 r) (y1 r) (y2 r)
def x4 : AC := (.shal k4_0 .skip)
def z4 : List Rs := [.agg 3 .h0 .h6,.t .h0 .h7]
def f4 : AF := .mk x4 z4
def k5_0 : KF := fun c i x r h => (fun (x0 x1 x2 x3 : AV) =>
 tR (o_alloc 24 3 (.k1 (.mk (pi 0) (pi 0) (.str []) .undef .undef .undef .undef .undef .undef .undef .undef .undef .undef .undef .undef .undef)) .nil h) fun v4 h5 =>
 tR (o_build [(pi 0),(pi 0),(pi 0),(pi 0),(.str []),(pi 0),(pi 0),(pi 0),(.str []),(.str []),.nils,.nils] [.mk 0 1 (.c (pi 2)),.mk 1 1 (.c x1),.mk 2 1 (.c x2),.mk 4 1 (.c x3)] .nil h5) fun v6 h7 =>
 tT (c 16 [x0,v6] h7) fun v8 h9 =>
 tR (o_ext 0 (.c v8) .nil h9) fun v10 h11 =>
 tR (o_ext 1 (.c v8) .nil h11) fun v12 h13 =>
 tR (o_alloc 50 18 (.k2 (.mk (.mk (pi 0) (pi 0) (pi 0) (pi 0) (pi 0) (pi 0) (.str []) (pi 0) (pi 0) (pi 0) (.str []) (.str []) .nils .nils (pi 0) (pi 0)) (.mk (.str []) .nils .undef .undef .undef .undef .undef .undef .undef .undef .undef .undef .undef .undef .undef .undef) .nil .nil .nil .nil .nil .nil .nil .nil .nil .nil .nil .nil .nil .nil)) .nil h13) fun v14 h15 =>
 tR (o_stn 18 (.c v14) (.c v10) .nil h15) fun v16 h17 =>
 x (T6 v4 v14 v12) h17) (y0 r) (y1 r) (y2 r) (y3 r)
def x5 : AC := (.shal k5_0 (.seq (.drw [q 0 (o d22 (.fad 17 r11)),
 q 0 (o d23 (.ld1 r22)),
 q 0 (o d24 (.fad 14 r11)),
 q 0 (o d25 (.ldn 3 r24)),
 q 0 (m d8 r23),
 w (o .no (.stn 3 r9 r25)),
 q 1 (m d26 r12),
 q 0 (m d10 r26)]) .ret))
def z5 : List Rs := [.t .h0 .h8,.agg 3 .h0 .h9,.t .h0 .ha]
def f5 : AF := .mk x5 z5
def k6_3 : KF := fun c i x r h => (fun (x0 x1 x2 : AV) =>
 tR (b_add x2 (pi 1) h) fun v3 h4 =>
 .nm (T9 x0 x1 v3) h4) (y6 r) (y21 r) (y22 r)
def k6_2 : KF := fun c i x r h => (fun (x0 x1 x2 : AV) =>
 tR (b_lt x2 x1 h) fun v3 h4 =>
 ifR v3 (x (T9 x0 x1 x2) h4) (.ex 0 (T10 x0) h4)) (y6 r) (y21 r) (y22 r)
def k6_1 : KF := fun c i x r h => (fun (x0 x1 : AV) =>
 x (T9 x1 x0 (pi 0)) h) (y0 r) (y6 r)
def k6_4 : KF := fun c i x r h => (fun (x0 : AV) =>
 .ret (T7 x0 (pi 0)) h) (y6 r)
def k6_0 : KF := fun c i x r h => (fun (x0 : AV) =>
 tT (c 17 [x0] h) fun v1 h2 =>
 tR (o_ext 0 (.c v1) .nil h2) fun v3 h4 =>
 tR (o_ext 1 (.c v1) .nil h4) fun v5 h6 =>
 tR (b_ne v5 (pi 0) h6) fun v7 h8 =>
 ifR v7 (.ret (T7 .nilp v5) h8) (tR (o_mkslice 3 [(pi 0)] (.c x0) (.c x0) .nil h8) fun v9 h10 =>
 tR (o_build [.nilp,(pi 0),.nils,.nils,(.bool false),(.bool false),(pi 0),(pi 0),(pi 0),(pi 0),(pi 0),(.str []),(pi 0),(pi 0),(pi 0),(.str []),(.str []),.nils,.nils,(.str []),(pi 0),(pi 0),(.bool false),(.bool false),(pi 0),(pi 0),(pi 0),(pi 0),(pi 0),(.str []),(pi 0),(pi 0),(pi 0),(.str []),(.str []),.nils,.nils,(.str []),(pi 0),(pi 0),(.bool false),(.bool false),(pi 0),(pi 0),(pi 0),(pi 0),(pi 0),(.str []),(pi 0),(pi 0),(pi 0),(.str []),(.str []),.nils,.nils,(.str []),(pi 0),(pi 0),(.bool false),(.bool false),(pi 0),(pi 0),(pi 0),(pi 0),(pi 0),(.str []),(pi 0),(pi 0),(pi 0),(.str []),(.str []),.nils,.nils,(.str []),(pi 0),(pi 0),(.bool false),(.bool false),(pi 0),(pi 0),(pi 0),(pi 0),(pi 0),(.str []),(pi 0),(pi 0),(pi 0),(.str []),(.str []),.nils,.nils,(.str []),(pi 0),(pi 0),(.bool false),(.bool false),(pi 0),(pi 0),(pi 0),(pi 0),(pi 0),(.str []),(pi 0),(pi 0),(pi 0),(.str []),(.str []),.nils,.nils,(.str []),(pi 0),(pi 0),(.bool false),(.bool false),(pi 0),(pi 0),(pi 0),(pi 0),(pi 0),(.str []),(pi 0),(pi 0),(pi 0),(.str []),(.str []),.nils,.nils,(.str []),(pi 0),(pi 0),(.bool false),(.bool false),(pi 0),(pi 0),(pi 0),(pi 0),(pi 0),(.str []),(pi 0),(pi 0),(pi 0),(.str []),(.str []),.nils,.nils,(.str []),(pi 0),(pi 0),(.bool false),(.bool false),(pi 0),(pi 0),(pi 0),(pi 0),(pi 0),(.str []),(pi 0),(pi 0),(pi 0),(.str []),(.str []),.nils,.nils,(.str []),(pi 0),(pi 0),(.bool false),(.bool false),(pi 0),(pi 0),(pi 0),(pi 0),(pi 0),(.str []),(pi 0),(pi 0),(pi 0),(.str []),(.str []),.nils,.nils,(.str []),(pi 0),(pi 0),(.bool false),(.bool false),(pi 0),(pi 0),(pi 0),(pi 0),(pi 0),(.str []),(pi 0),(pi 0),(pi 0),(.str []),(.str []),.nils,.nils,(.str []),(pi 0),(pi 0),(.bool false),(.bool false),(pi 0),(pi 0),(pi 0),(pi 0),(pi 0),(.str []),(pi 0),(pi 0),(pi 0),(.str []),(.str []),.nils,.nils,(.str []),(pi 0),(pi 0),(.bool false),(.bool false),(pi 0),(pi 0),(pi 0),(pi 0),(pi 0),(.str []),(pi 0),(pi 0),(pi 0),(.str []),(.str []),.nils,.nils,(.str []),(pi 0),(pi 0),(.bool false),(.bool false),(pi 0),(pi 0),(pi 0),(pi 0),(pi 0),(.str []),(pi 0),(pi 0),(pi 0),(.str []),(.str []),.nils,.nils,(.str []),(pi 0),(pi 0),(.bool false),(.bool false),(pi 0),(pi 0),(pi 0),(pi 0),(pi 0),(.str []),(pi 0),(pi 0),(pi 0),(.str []),(.str []),.nils,.nils,(.str []),(pi 0),(pi 0),(.bool false),(.bool false),(pi 0),(pi 0),(pi 0),(pi 0),(pi 0),(.str []),(pi 0),(pi 0),(pi 0),(.str []),(.str []),.nils,.nils,(.str []),(pi 0),(pi 0),(pi 0),.nils] [.mk 0 1 (.c v3),.mk 1 1 (.c x0),.mk 3 1 (.c v9)] .nil h10) fun v11 h12 =>
 tR (o_box 65 (.c v11) .nil h12) fun v13 h14 =>
 x (T8 x0 v13) h14)) (y0 r)
def x6 : AC := (.shal k6_0 (.seq (.shal k6_1 (.block 0 (.loop (.shal k6_2 (.seq (.block 1 (.drw [w (.o d29 (.call 18 [])),
 w (o d30 (.bslice 66 1 1 [.nilp] [.mk 0 1 r29])),
 q 2 (m d25 r6),
 q 2 (o d26 (.nilc r25)),
 q 2 (o d27 (.fad 2 r26)),
 q 2 (o d28 (.ld1 r27)),
 w (o d31 (.app 66 1 r28 r30)),
 q 3 (m d24 r6),
 q 0 (o d32 (.nilc r24)),
 q 0 (o d33 (.fad 2 r32)),
 w (o .no (.st1 r33 r31))])) (.shal k6_3 .skip)))))) (.shal k6_4 .skip)))
def z6 : List Rs := [.t .h0 .h2,.t .h0 .h3]
def f6 : AF := .mk x6 z6
def k7_3 : KF := fun c i x r h => (fun (x0 x1 : AV) =>
 tR (o_ldn 12 (.c x1) .nil h) fun v2 h3 =>
 tT (c 19 [x0,v2] h3) fun v4 h5 =>
 .nm (T1 x0) h5) (y0 r) (y3 r)
def k7_5 : KF := fun c i x r h => (fun (x0 x1 : AV) =>
 tR (o_ldn 12 (.c x1) .nil h) fun v2 h3 =>
 tT (c 20 [x0,v2] h3) fun v4 h5 =>
 .nm (T1 x0) h5) (y0 r) (y3 r)
def k7_8 : KF := fun c i x r h => (fun (x0 x1 : AV) =>
 tQ (nic x0 h) fun v2 =>
 tQ (fa 0 v2 h) fun v3 =>
 tQ (ld v3 h) fun v4 =>
 tQ (fa 3 x1 h) fun v5 =>
 tQ (ld v5 h) fun v6 =>
 tQ (o_build [(pi 0),(pi 0),(pi 0),(.str [])] [.mk 0 1 (.c (pi 4)),.mk 2 1 (.c v6)] .nil h) fun v7 =>
 tX (c 22 [v4,v7] h) fun v8 h9 =>
 .nm (T1 x0) h9) (y0 r) (y3 r)
def k7_10 : KF := fun c i x r h => (fun (x0 x1 : AV) =>
 tQ (nic x0 h) fun v2 =>
 tQ (fa 0 v2 h) fun v3 =>
 tQ (ld v3 h) fun v4 =>
 tQ (fa 3 x1 h) fun v5 =>
 tQ (ld v5 h) fun v6 =>
 tQ (o_build [(pi 0),(pi 0),(pi 0),(.str [])] [.mk 0 1 (.c (pi 5)),.mk 2 1 (.c v6)] .nil h) fun v7 =>
 tX (c 22 [v4,v7] h) fun v8 h9 =>
 .nm (T1 x0) h9) (y0 r) (y3 r)
def k7_12 : KF := fun c i x r h => (fun (x0 : AV) =>
 tT (c 23 [x0] h) fun v1 h2 =>
 .nm (T1 x0) h2) (y0 r)
def k7_14 : KF := fun c i x r h => (fun (x0 x1 : AV) =>
 tR (fa 2 x1 h) fun v2 h3 =>
 tR (ld v2 h3) fun v4 h5 =>
 tR (fa 3 x1 h5) fun v6 h7 =>
 tR (ld v6 h7) fun v8 h9 =>
 tT (c 24 [x0,v4,v8] h9) fun v10 h11 =>
 .nm (T1 x0) h11) (y0 r) (y3 r)
def k7_16 : KF := fun c i x r h => (fun (x0 x1 : AV) =>
 tR (fa 2 x1 h) fun v2 h3 =>
 tR (ld v2 h3) fun v4 h5 =>
 tT (c 25 [x0,v4] h5) fun v6 h7 =>
 .nm (T1 x0) h7) (y0 r) (y3 r)
def k7_17 : KF := fun c i x r h => (fun (x0 x1 : AV) =>
 tR (b_eq x1 (pi 9) h) fun v2 h3 =>
 x (T21 x0 v2) h3) (y0 r) (y7 r)
def k7_15 : KF := fun c i x r h => (fun (x0 x1 x2 : AV) =>
 tR (b_eq x2 (pi 8) h) fun v3 h4 =>
 x (T20 x0 x1 x2 v3) h4) (y0 r) (y3 r) (y7 r)
def k7_13 : KF := fun c i x r h => (fun (x0 x1 x2 : AV) =>
 tR (b_eq x2 (pi 7) h) fun v3 h4 =>
 x (T19 x0 x1 x2 v3) h4) (y0 r) (y3 r) (y7 r)
def k7_11 : KF := fun c i x r h => (fun (x0 x1 x2 : AV) =>
 tR (b_eq x2 (pi 6) h) fun v3 h4 =>
 x (T18 x0 x1 x2 v3) h4) (y0 r) (y3 r) (y7 r)
def k7_9 : KF := fun c i x r h => (fun (x0 x1 x2 : AV) =>
 tR (b_eq x2 (pi 5) h) fun v3 h4 =>
 x (T17 x0 x1 x2 v3) h4) (y0 r) (y3 r) (y7 r)
def k7_7 : KF := fun c i x r h => (fun (x0 x1 x2 : AV) =>
 tR (b_eq x2 (pi 4) h) fun v3 h4 =>
 x (T16 x0 x1 x2 v3) h4) (y0 r) (y3 r) (y7 r)
def k7_6 : KF := fun c i x r h => (fun (x0 x1 x2 : AV) =>
 tR (b_eq x2 (pi 3) h) fun v3 h4 =>
 x (T15 x0 x1 x2 v3) h4) (y0 r) (y3 r) (y7 r)
def k7_4 : KF := fun c i x r h => (fun (x0 x1 x2 : AV) =>
 tR (b_eq x2 (pi 2) h) fun v3 h4 =>
 x (T14 x0 x1 x2 v3) h4) (y0 r) (y3 r) (y7 r)
def k7_2 : KF := fun c i x r h => (fun (x0 x1 x2 : AV) =>
 tR (b_eq x2 (pi 1) h) fun v3 h4 =>
 x (T13 x0 x1 x2 v3) h4) (y0 r) (y3 r) (y7 r)
def k7_1 : KF := fun c i x r h => (fun (x0 x1 : AV) =>
 tR (fa 0 x1 h) fun v2 h3 =>
 tR (ld v2 h3) fun v4 h5 =>
 x (T12 x0 x1 v4) h5) (y0 r) (y3 r)
def k7_18 : KF := fun c i x r h => (fun (x0 : AV) =>
 tT (c 29 [x0] h) fun v1 h2 =>
 .ret (T22 v1) h2) (y0 r)
def k7_0 : KF := fun c i x r h => (fun (x0 x1 : AV) =>
 tR (o_box 41 (.c x1) .nil h) fun v2 h3 =>
 x (T11 x0 v2) h3) (y0 r) (y1 r)
def x7 : AC := (.shal k7_0 (.seq (.shal k7_1 (.block 0 (.shal k7_2 (.cond r8 (.shal k7_3 .skip) (.shal k7_4 (.cond r13 (.shal k7_5 .skip) (.shal k7_6 (.cond r18 (.drw [q 0 (m d21 r0),
 q 0 (o d22 (.nilc r21)),
 q 0 (o d23 (.fad 0 r22)),
 q 0 (o d24 (.ld1 r23)),
 q 0 (o d25 (.fad 3 r3)),
 q 0 (o d26 (.ld1 r25)),
 q 0 (o d27 (.build [(pi 0),(pi 0),(pi 0),(.str [])] [.mk 0 1 (.c (pi 3)),.mk 2 1 r26])),
 w (.o d28 (.call 22 [r24,r27])),
 q 1 (m d20 r0),
 w (.o d29 (.call 21 [r20,r28]))]) (.shal k7_7 (.cond r30 (.shal k7_8 .skip) (.shal k7_9 (.cond r40 (.shal k7_10 .skip) (.shal k7_11 (.cond r50 (.seq (.drw [q 0 (m d53 r0),
 q 0 (o d54 (.nilc r53)),
 q 0 (o d55 (.fad 0 r54)),
 q 0 (o d56 (.ld1 r55)),
 q 0 (o d57 (.fad 2 r3)),
 q 0 (o d58 (.ld1 r57)),
 q 0 (o d59 (.fad 3 r3)),
 q 0 (o d60 (.ld1 r59)),
 q 0 (o d61 (.build [(pi 0),(pi 0),(pi 0),(.str [])] [.mk 0 1 (.c (pi 6)),.mk 1 1 r58,.mk 2 1 r60])),
 w (.o d62 (.call 22 [r56,r61])),
 q 1 (m d52 r0),
 w (.o d63 (.call 21 [r52,r62]))]) (.shal k7_12 .skip)) (.shal k7_13 (.cond r66 (.shal k7_14 .skip) (.shal k7_15 (.cond r74 (.shal k7_16 .skip) (.shal k7_17 (.cond r80 (.bad 0) .skip)))))))))))))))))))) (.shal k7_18 .skip)))
def z7 : List Rs := [.t .h0 .h4]
def f7 : AF := .mk x7 z7
def k8_0 : KF := fun c i x r h => (fun (x0 x1 : AV) =>
 tR (o_alloc 30 7 (.k1 (.mk (pi 0) (pi 0) (pi 0) (.str []) (.str []) .nils .nils .undef .undef .undef .undef .undef .undef .undef .undef .undef)) .nil h) fun v2 h3 =>
 tR (o_bslice 80 2 0 [] [] .nil h3) fun v4 h5 =>
 tR (appV 80 2 v4 x1 h5) fun v6 h7 =>
 tR (o_build [(pi 0),(pi 0),(pi 0),(.str []),(.str []),.nils,.nils] [.mk 2 1 (.c (pi 1)),.mk 3 1 (.c x0),.mk 5 1 (.c v6)] .nil h7) fun v8 h9 =>
 tR (o_stn 7 (.c v2) (.c v8) .nil h9) fun v10 h11 =>
 .ret (T22 v2) h11) (y0 r) (y1 r)
def x8 : AC := (.shal k8_0 .skip)
def z8 : List Rs := [.agg 7 .h0 .h4]
def f8 : AF := .mk x8 z8
def k9_0 : KF := fun c i x r h => tR (o_build [(.str []),(pi 0)] [.mk 0 1 (.c (.str [97])),.mk 1 1 (.c (pi 1))] .nil h) fun v0 h1 =>
 tR (o_build [(.str []),(pi 0)] [.mk 0 1 (.c (.str [98])),.mk 1 1 (.c (pi 1))] .nil h1) fun v2 h3 =>
 tR (o_build [(.str []),(pi 0)] [.mk 0 1 (.c (.str [115])),.mk 1 1 (.c (pi 2))] .nil h3) fun v4 h5 =>
 tR (o_bslice 80 2 3 [(.str []),(pi 0),(.str []),(pi 0),(.str []),(pi 0)] [.mk 0 2 (.c v0),.mk 2 2 (.c v2),.mk 4 2 (.c v4)] .nil h5) fun v6 h7 =>
 .ret (T1 v6) h7
def x9 : AC := (.shal k9_0 .skip)
def z9 : List Rs := [.t .h0 .h0]
def f9 : AF := .mk x9 z9
def k10_2 : KF := fun c i x r h => (fun (x0 x1 x2 : AV) =>
 tR (b_lt x2 (pi 5) h) fun v3 h4 =>
 ifR v3 (tT (c 13 [x0,x2] h4) fun v5 h6 =>
 tR (u_not v5 h6) fun v7 h8 =>
 ifR v7 (tR (o_build [(pi 0),(pi 0),(pi 0),(pi 0),(.str []),(pi 0),(pi 0),(pi 0),(.str []),(.str []),.nils,.nils] [.mk 0 1 (.c (pi 8)),.mk 2 1 (.c x2)] .nil h8) fun v9 h10 =>
 tT (c 7 [x0,v9] h10) fun v11 h12 =>
 tR (appV 50 18 x1 v11 h12) fun v13 h14 =>
 tR (b_add x2 (pi 1) h14) fun v15 h16 =>
 .nm (T24 x0 v13 v15) h16) (tR (b_add x2 (pi 1) h8) fun v17 h18 =>
 .nm (T24 x0 x1 v17) h18)) (.ex 0 (T24 x0 x1 x2) h4)) (y0 r) (y3 r) (y9 r)
def k10_1 : KF := fun c i x r h => (fun (x0 x1 : AV) =>
 x (T24 x0 x1 (pi 0)) h) (y0 r) (y3 r)
def k10_3 : KF := fun c i x r h => (fun (x0 x1 : AV) =>
 tT (c 30 [x0,(pi 20000)] h) fun v2 h3 =>
 tR (o_ext 0 (.c v2) .nil h3) fun v4 h5 =>
 tR (o_ext 1 (.c v2) .nil h5) fun v6 h7 =>
 tR (appV 50 18 x1 v4 h7) fun v8 h9 =>
 .ret (T23 v8) h9) (y0 r) (y3 r)
def k10_0 : KF := fun c i x r h => (fun (x0 : AV) =>
 tR (bK .peq x0 .nilp h) fun v1 h2 =>
 ifR v1 (.ret (T23 .nils) h2) (x (T11 x0 .nils) h2)) (y0 r)
def x10 : AC := (.shal k10_0 (.seq (.shal k10_1 (.block 0 (.loop (.shal k10_2 .skip)))) (.shal k10_3 .skip)))
def z10 : List Rs := [.t .h0 .h2]
def f10 : AF := .mk x10 z10
def k11_3 : KF := fun c i x r h => (fun (x0 x1 x2 x3 x4 : AV) =>
 tR (b_add x4 (pi 1) h) fun v5 h6 =>
 .nm (T26 x0 x1 x2 x3 v5) h6) (y0 r) (y5 r) (y12 r) (y13 r) (y14 r)
def k11_2 : KF := fun c i x r h => (fun (x0 x1 x2 x3 x4 : AV) =>
 tR (b_lt x4 x3 h) fun v5 h6 =>
 ifR v5 (tR (ix 7 x2 x4 h6) fun v7 h8 =>
 tR (o_ldn 7 (.c v7) .nil h8) fun v9 h10 =>
 tR (o_alloc 30 7 (.k1 (.mk (pi 0) (pi 0) (pi 0) (.str []) (.str []) .nils .nils .undef .undef .undef .undef .undef .undef .undef .undef .undef)) .nil h10) fun v11 h12 =>
 tR (o_stn 7 (.c v11) (.c v9) .nil h12) fun v13 h14 =>
 tR (o_ldn 7 (.c v11) .nil h14) fun v15 h16 =>
 tT (c 4 [x0,(pi 0),v15] h16) fun v17 h18 =>
 tR (o_ext 0 (.c v17) .nil h18) fun v19 h20 =>
 tR (o_ext 1 (.c v17) .nil h20) fun v21 h22 =>
 tR (o_alloc 24 3 (.k1 (.mk (pi 0) (pi 0) (.str []) .undef .undef .undef .undef .undef .undef .undef .undef .undef .undef .undef .undef .undef)) .nil h22) fun v23 h24 =>
 tR (o_stn 3 (.c v23) (.c v19) .nil h24) fun v25 h26 =>
 tR (o_ldn 3 (.c v23) .nil h26) fun v27 h28 =>
 tR (o_bslice 24 3 1 [(pi 0),(pi 0),(.str [])] [.mk 0 3 (.c v27)] .nil h28) fun v29 h30 =>
 tR (appV 24 3 x1 v29 h30) fun v31 h32 =>
 x (T26 x0 v31 x2 x3 x4) h32) (.ex 0 (T27 x1) h6)) (y0 r) (y5 r) (y12 r) (y13 r) (y14 r)
def k11_1 : KF := fun c i x r h => (fun (x0 x1 x2 : AV) =>
 tR (len x1 h) fun v3 h4 =>
 x (T26 x0 x2 x1 v3 (pi 0)) h4) (y0 r) (y1 r) (y5 r)
def k11_4 : KF := fun c i x r h => (fun (x0 : AV) =>
 .ret (T22 x0) h) (y5 r)
def k11_0 : KF := fun c i x r h => (fun (x0 x1 : AV) =>
 tR (bK .peq x0 .nilp h) fun v2 h3 =>
 ifR v2 (.ret (T22 .nils) h3) (x (T25 x0 x1 .nils) h3)) (y0 r) (y1 r)
def x11 : AC := (.shal k11_0 (.seq (.shal k11_1 (.block 0 (.loop (.shal k11_2 (.shal k11_3 .skip))))) (.shal k11_4 .skip)))
def z11 : List Rs := [.t .h0 .h4]
def f11 : AF := .mk x11 z11
def k12_2 : KF := fun c i x r h => (fun (x0 x1 x2 x3 x4 : AV) =>
 tR (b_lt x4 x3 h) fun v5 h6 =>
 ifR v5 (tR (ix 12 x2 x4 h6) fun v7 h8 =>
 tR (o_ldn 12 (.c v7) .nil h8) fun v9 h10 =>
 tR (o_alloc 41 12 (.k1 (.mk (pi 0) (pi 0) (pi 0) (pi 0) (.str []) (pi 0) (pi 0) (pi 0) (.str []) (.str []) .nils .nils .undef .undef .undef .undef)) .nil h10) fun v11 h12 =>
 tR (o_stn 12 (.c v11) (.c v9) .nil h12) fun v13 h14 =>
 tR (o_ldn 12 (.c v11) .nil h14) fun v15 h16 =>
 tT (c 7 [x0,v15] h16) fun v17 h18 =>
 tR (appV 50 18 x1 v17 h18) fun v19 h20 =>
 tR (b_add x4 (pi 1) h20) fun v21 h22 =>
 .nm (T28 x0 v19 x2 x3 v21) h22) (.ex 0 (T28 x0 x1 x2 x3 x4) h6)) (y0 r) (y5 r) (y10 r) (y11 r) (y12 r)
def k12_1 : KF := fun c i x r h => (fun (x0 x1 x2 : AV) =>
 tR (len x1 h) fun v3 h4 =>
 x (T28 x0 x2 x1 v3 (pi 0)) h4) (y0 r) (y1 r) (y5 r)
def k12_3 : KF := fun c i x r h => (fun (x0 : AV) =>
 .ret (T22 x0) h) (y5 r)
def k12_0 : KF := fun c i x r h => (fun (x0 x1 : AV) =>
 tR (bK .peq x0 .nilp h) fun v2 h3 =>
 ifR v2 (.ret (T22 .nils) h3) (x (T25 x0 x1 .nils) h3)) (y0 r) (y1 r)
def x12 : AC := (.shal k12_0 (.seq (.shal k12_1 (.block 0 (.loop (.shal k12_2 .skip)))) (.shal k12_3 .skip)))
def z12 : List Rs := [.t .h0 .h4]
def f12 : AF := .mk x12 z12
def k13_0 : KF := fun c i x r h => (fun (x0 x1 : AV) =>
 tR (nic x0 h) fun v2 h3 =>
 tR (fa 0 v2 h3) fun v4 h5 =>
 tR (ld v4 h5) fun v6 h7 =>
 tT (c 26 [v6,x1] h7) fun v8 h9 =>
 .ret (T22 v8) h9) (y0 r) (y1 r)
def x13 : AC := (.shal k13_0 .skip)
def z13 : List Rs := [.t .h0 .h4]
def f13 : AF := .mk x13 z13
def k14_2 : KF := fun c i x r h => (fun (x0 x1 x2 : AV) =>
 tR (b_lt x2 (pi 16) h) fun v3 h4 =>
 ifR v3 (tR (o_idxa 16 18 true (.c x1) (.c x2) .nil h4) fun v5 h6 =>
 tR (o_alloc 62 18 (.k2 (.mk (.mk (.bool false) (.bool false) (pi 0) (pi 0) (pi 0) (pi 0) (pi 0) (.str []) (pi 0) (pi 0) (pi 0) (.str []) (.str []) .nils .nils (.str [])) (.mk (pi 0) (pi 0) .undef .undef .undef .undef .undef .undef .undef .undef .undef .undef .undef .undef .undef .undef) .nil .nil .nil .nil .nil .nil .nil .nil .nil .nil .nil .nil .nil .nil)) .nil h6) fun v7 h8 =>
 tR (o_stn 18 (.c v7) (.c v5) .nil h8) fun v9 h10 =>
 tR (fa 0 v7 h10) fun v11 h12 =>
 tR (ld v11 h12) fun v13 h14 =>
 ifR v13 (tR (o_bslice 3 1 1 [(pi 0)] [.mk 0 1 (.c x2)] .nil h14) fun v15 h16 =>
 tR (appV 3 1 x0 v15 h16) fun v17 h18 =>
 tR (b_add x2 (pi 1) h18) fun v19 h20 =>
 .nm (T29 v17 x1 v19) h20) (tR (b_add x2 (pi 1) h14) fun v21 h22 =>
 .nm (T29 x0 x1 v21) h22)) (.ex 0 (T29 x0 x1 x2) h4)) (y3 r) (y9 r) (y10 r)
def k14_1 : KF := fun c i x r h => (fun (x0 x1 : AV) =>
 tR (nic x0 h) fun v2 h3 =>
 tR (fa 4 v2 h3) fun v4 h5 =>
 tR (o_ldn 288 (.c v4) .nil h5) fun v6 h7 =>
 x (T29 x1 v6 (pi 0)) h7) (y0 r) (y3 r)
def k14_3 : KF := fun c i x r h => (fun (x0 : AV) =>
 .ret (T23 x0) h) (y3 r)
def k14_0 : KF := fun c i x r h => (fun (x0 : AV) =>
 x (T11 x0 .nils) h) (y0 r)
def x14 : AC := (.shal k14_0 (.seq (.shal k14_1 (.block 0 (.loop (.shal k14_2 .skip)))) (.shal k14_3 .skip)))
def z14 : List Rs := [.t .h0 .h2]
def f14 : AF := .mk x14 z14
def k15_2 : KF := fun c i x r h => (fun (x0 : AV) =>
 tT (c 9 [] h) fun v1 h2 =>
 tT (c 8 [(.str [116]),v1] h2) fun v3 h4 =>
 tT (c 9 [] h4) fun v5 h6 =>
 tT (c 8 [(.str [116]),v5] h6) fun v7 h8 =>
 tR (o_bslice 30 7 2 [(pi 0),(pi 0),(pi 0),(.str []),(.str []),.nils,.nils,(pi 0),(pi 0),(pi 0),(.str []),(.str []),.nils,.nils] [.mk 0 7 (.c v3),.mk 7 7 (.c v7)] .nil h8) fun v9 h10 =>
 tT (c 11 [x0,v9] h10) fun v11 h12 =>
 x (T32 v11) h12) (y1 r)
def k15_1 : KF := fun c i x r h => (fun (x0 x1 : AV) =>
 tR (bK .peq x0 .nilp h) fun v2 h3 =>
 (fun (k4 : AV → Hp → RS) => gd v2 false (k4 x1 h3) (k4 .undef h3)) fun v5 h6 =>
 (fun (k7 : AV → Hp → RS) => gd v2 false (tR (b_ne v5 (pi 0) h6) fun v10 h11 =>
 k7 v10 h11) (k7 .undef h6)) fun v8 h9 =>
 tR (o_pick (.c v2) (.c (.bool true)) (.c v8) .nil h9) fun v12 h13 =>
 ifR v12 (.ret (T1 (.bool false)) h13) (x (T31 x0) h13)) (y1 r) (y2 r)
def k15_0 : KF := fun c i x r h => tT (c 6 [(pi 3)] h) fun v0 h1 =>
 tR (o_ext 0 (.c v0) .nil h1) fun v2 h3 =>
 tR (o_ext 1 (.c v0) .nil h3) fun v4 h5 =>
 x (T30 v2 v4) h5
def x15 : AC := (.shal k15_0 (.shal k15_1 (.shal k15_2 (.seq (.ops [m d21 r3,
 o d22 (.len r21),
 o d23 (.bin .eq r22 a2),
 m d24 r23,
 .g .h1 .h8 true d25 (.op (.mv r3)),
 .g .h1 .h8 true d26 (.op (.ixs 3 r25 a0)),
 .g .h1 .h8 true d27 (.op (.ldn 3 r26)),
 .g .h1 .h8 true d28 (.op (.build [(pi 0),(pi 0),(.str [])] [])),
 .g .h1 .h8 true d29 (.op (.bin (.aeq [.i,.i,.s]) r27 r28)),
 o d30 (.pick r24 r29 (.c (.bool false))),
 m d31 r30,
 .g .h1 .hf true d32 (.op (.mv r3)),
 .g .h1 .hf true d33 (.op (.ixs 3 r32 a1)),
 .g .h1 .hf true d34 (.op (.ldn 3 r33)),
 .g .h1 .hf true d35 (.op (.build [(pi 0),(pi 0),(.str [])] [.mk 0 1 (.c (pi 21))])),
 .g .h1 .hf true d36 (.op (.bin (.aeq [.i,.i,.s]) r34 r35)),
 o d37 (.pick r31 r36 (.c (.bool false))),
 m d0 r37]) .ret))))
def z15 : List Rs := [.t .h0 .h0]
def f15 : AF := .mk x15 z15
def k16_1 : KF := fun c i x r h => (fun (x0 x1 x2 x3 x4 : AV) =>
 ifR x4 (tR (o_build [(pi 0),(pi 0),(pi 0),(pi 0),(pi 0),(pi 0),(.str []),(pi 0),(pi 0),(pi 0),(.str []),(.str []),.nils,.nils,(pi 0),(pi 0),(.str []),.nils] [] .nil h) fun v5 h6 =>
 tR (o_stn 18 (.c x2) (.c v5) .nil h6) fun v7 h8 =>
 .ret (T33 x2 (.bool false)) h8) (.nm (T34 x0 x1 x2 x3) h)) (y0 r) (y3 r) (y4 r) (y6 r) (y26 r)
def k16_6 : KF := fun c i x r h => (fun (x0 x1 x2 x3 x4 x5 x6 : AV) =>
 ifR x6 (tR (o_ldn 18 (.c x2) .nil h) fun v7 h8 =>
 tR (o_stn 18 (.c x1) (.c v7) .nil h8) fun v9 h10 =>
 .ret (T33 x1 (.bool true)) h10) (.nm (T36 x0 x1 x3 x4 x5) h)) (y3 r) (y4 r) (y10 r) (y35 r) (y36 r) (y37 r) (y50 r)
def k16_5 : KF := fun c i x r h => (fun (x0 x1 x2 x3 x4 : AV) =>
 tR (ix 18 x2 x4 h) fun v5 h6 =>
 tR (o_ldn 18 (.c v5) .nil h6) fun v7 h8 =>
 tR (o_alloc 50 18 (.k2 (.mk (.mk (pi 0) (pi 0) (pi 0) (pi 0) (pi 0) (pi 0) (.str []) (pi 0) (pi 0) (pi 0) (.str []) (.str []) .nils .nils (pi 0) (pi 0)) (.mk (.str []) .nils .undef .undef .undef .undef .undef .undef .undef .undef .undef .undef .undef .undef .undef .undef) .nil .nil .nil .nil .nil .nil .nil .nil .nil .nil .nil .nil .nil .nil)) .nil h8) fun v9 h10 =>
 tR (o_stn 18 (.c v9) (.c v7) .nil h10) fun v11 h12 =>
 x (T37 x0 x1 v9 x2 x3 x4) h12) (y3 r) (y4 r) (y35 r) (y36 r) (y37 r)
def k16_7 : KF := fun c i x r h => (fun (x0 x1 x2 x3 x4 : AV) =>
 tR (b_add x4 (pi 1) h) fun v5 h6 =>
 .nm (T36 x0 x1 x2 x3 v5) h6) (y3 r) (y4 r) (y35 r) (y36 r) (y37 r)
def k16_4 : KF := fun c i x r h => (fun (x0 x1 x2 x3 x4 : AV) =>
 tR (b_lt x4 x3 h) fun v5 h6 =>
 ifR v5 (x (T36 x0 x1 x2 x3 x4) h6) (.ex 0 (T22 x1) h6)) (y3 r) (y4 r) (y35 r) (y36 r) (y37 r)
def k16_3 : KF := fun c i x r h => (fun (x0 x1 x2 x3 : AV) =>
 tR (appV 50 18 x2 x3 h) fun v4 h5 =>
 tR (len v4 h5) fun v6 h7 =>
 x (T36 x0 x1 v4 v6 (pi 0)) h7) (y3 r) (y4 r) (y6 r) (y7 r)
def k16_8 : KF := fun c i x r h => (fun (x0 : AV) =>
 tR (o_build [(pi 0),(pi 0),(pi 0),(pi 0),(pi 0),(pi 0),(.str []),(pi 0),(pi 0),(pi 0),(.str []),(.str []),.nils,.nils,(pi 0),(pi 0),(.str []),.nils] [] .nil h) fun v1 h2 =>
 tR (o_stn 18 (.c x0) (.c v1) .nil h2) fun v3 h4 =>
 .ret (T33 x0 (.bool false)) h4) (y4 r)
def k16_2 : KF := fun c i x r h => (fun (x0 x1 x2 x3 : AV) =>
 tT (c 30 [x0,(pi 20000)] h) fun v4 h5 =>
 tR (o_ext 0 (.c v4) .nil h5) fun v6 h7 =>
 tR (o_ext 1 (.c v4) .nil h7) fun v8 h9 =>
 x (T35 x1 x2 x3 v6) h9) (y0 r) (y3 r) (y4 r) (y6 r)
def k16_0 : KF := fun c i x r h => (fun (x0 x1 : AV) =>
 tR (o_box 41 (.c x1) .nil h) fun v2 h3 =>
 tR (o_alloc 50 18 (.k2 (.mk (.mk (pi 0) (pi 0) (pi 0) (pi 0) (pi 0) (pi 0) (.str []) (pi 0) (pi 0) (pi 0) (.str []) (.str []) .nils .nils (pi 0) (pi 0)) (.mk (.str []) .nils .undef .undef .undef .undef .undef .undef .undef .undef .undef .undef .undef .undef .undef .undef) .nil .nil .nil .nil .nil .nil .nil .nil .nil .nil .nil .nil .nil .nil)) .nil h3) fun v4 h5 =>
 tR (bK .peq x0 .nilp h5) fun v6 h7 =>
 ifR v6 (tR (o_build [(pi 0),(pi 0),(pi 0),(pi 0),(pi 0),(pi 0),(.str []),(pi 0),(pi 0),(pi 0),(.str []),(.str []),.nils,.nils,(pi 0),(pi 0),(.str []),.nils] [] .nil h7) fun v8 h9 =>
 tR (o_stn 18 (.c v4) (.c v8) .nil h9) fun v10 h11 =>
 .ret (T33 v4 (.bool false)) h11) (tR (o_ldn 12 (.c v2) .nil h7) fun v12 h13 =>
 tT (c 7 [x0,v12] h13) fun v14 h15 =>
 x (T34 x0 v2 v4 v14) h15)) (y0 r) (y1 r)
def x16 : AC := (.shal k16_0 (.seq (.seq (.ops [m d17 r6,
 o d18 (.len r17),
 o d19 (.bin .eq r18 a0),
 m d20 r19,
 .g .h1 .h4 false d21 (.op (.mv r6)),
 .g .h1 .h4 false d22 (.op (.ixs 18 r21 a0)),
 .g .h1 .h4 false d23 (.op (.fad 0 r22)),
 .g .h1 .h4 false d24 (.op (.ld1 r23)),
 .g .h1 .h4 false d25 (.op (.bin .ne r24 a1)),
 o d26 (.pick r20 (.c (.bool true)) r25)]) (.shal k16_1 .skip)) (.shal k16_2 (.seq (.shal k16_3 (.block 0 (.loop (.shal k16_4 (.seq (.block 1 (.shal k16_5 (.seq (.ops [o d41 (.fad 0 r10),
 o d42 (.ld1 r41),
 o d43 (.bin .eq r42 a2),
 m d44 r43,
 .g .h2 .hc true d45 (.op (.fad 1 r10)),
 .g .h2 .hc true d46 (.op (.ld1 r45)),
 .g .h2 .hc true d47 (.op (.fad 1 r3)),
 .g .h2 .hc true d48 (.op (.ld1 r47)),
 .g .h2 .hc true d49 (.op (.bin .eq r46 r48)),
 o d50 (.pick r44 r49 (.c (.bool false)))]) (.shal k16_6 .skip)))) (.shal k16_7 .skip)))))) (.shal k16_8 .skip)))))
def z16 : List Rs := [.agg 18 .h0 .h4,.t .h0 .h5]
def f16 : AF := .mk x16 z16
def k17_1 : KF := fun c i x r h => (fun (x0 : AV) =>
 tR (o_build [(pi 0),(.str []),.nils,(pi 0),(.str []),.nils,(pi 0),(.str []),.nils,(pi 0),(.str []),.nils,(pi 0),(.str []),.nils,.nils] [] .nil h) fun v1 h2 =>
 tR (o_box 90 (.c v1) .nil h2) fun v3 h4 =>
 tR (o_build [.nilp,.nilp] [.mk 1 1 (.c v3)] .nil h4) fun v5 h6 =>
 tR (o_box 93 (.c v5) .nil h6) fun v7 h8 =>
 tR (nic v7 h8) fun v9 h10 =>
 tR (fa 1 v9 h10) fun v11 h12 =>
 tR (ld v11 h12) fun v13 h14 =>
 tT (c 31 [x0,(.iface 84 v13)] h14) fun v15 h16 =>
 tR (nic v7 h16) fun v17 h18 =>
 tR (fa 0 v17 h18) fun v19 h20 =>
 tR (sto v19 v15 h20) fun v21 h22 =>
 .ret (T7 v7 (pi 0)) h22) (y0 r)
def k17_0 : KF := fun c i x r h => (fun (x0 : AV) =>
 tR (b_lt x0 (pi 1) h) fun v1 h2 =>
 (fun (k3 : AV → Hp → RS) => gd v1 false (k3 x0 h2) (k3 .undef h2)) fun v4 h5 =>
 (fun (k6 : AV → Hp → RS) => gd v1 false (tR (b_gt v4 (pi 5) h5) fun v9 h10 =>
 k6 v9 h10) (k6 .undef h5)) fun v7 h8 =>
 tR (o_pick (.c v1) (.c (.bool true)) (.c v7) .nil h8) fun v11 h12 =>
 ifR v11 (.ret (T7 .nilp (pi 1)) h12) (x (T1 x0) h12)) (y0 r)
def x17 : AC := (.shal k17_0 (.shal k17_1 .skip))
def z17 : List Rs := [.t .h0 .h2,.t .h0 .h3]
def f17 : AF := .mk x17 z17
def k18_0 : KF := fun c i x r h => tT (c 32 [] h) fun v0 h1 =>
 tR (o_build [.nilp,(pi 0)] [.mk 0 1 (.c v0)] .nil h1) fun v2 h3 =>
 tR (o_box 98 (.c v2) .nil h3) fun v4 h5 =>
 .ret (T1 v4) h5
def x18 : AC := (.shal k18_0 .skip)
def z18 : List Rs := [.t .h0 .h0]
def f18 : AF := .mk x18 z18
def k19_3 : KF := fun c i x r h => (fun (x0 x1 x2 x3 x4 : AV) =>
 ifR x4 (tR (fa 1 x1 h) fun v5 h6 =>
 tR (ld v5 h6) fun v7 h8 =>
 tR (o_ldn 12 (.c x1) .nil h8) fun v9 h10 =>
 tR (o_build [(pi 0),(pi 0),(.str [])] [] .nil h10) fun v11 h12 =>
 tT (c 34 [x0,(pi 3),v7,v9,v11,.nils] h12) fun v13 h14 =>
 .ret T38 h14) (.nm (T34 x0 x1 x2 x3) h)) (y0 r) (y3 r) (y4 r) (y6 r) (y44 r)
def k19_4 : KF := fun c i x r h => (fun (x0 x1 : AV) =>
 tR (fa 1 x1 h) fun v2 h3 =>
 tR (ld v2 h3) fun v4 h5 =>
 tR (o_ldn 12 (.c x1) .nil h5) fun v6 h7 =>
 tR (o_build [(pi 0),(pi 0),(.str [])] [] .nil h7) fun v8 h9 =>
 tT (c 34 [x0,(pi 1),v4,v6,v8,.nils] h9) fun v10 h11 =>
 tT (c 23 [x0] h11) fun v12 h13 =>
 .nm T38 h13) (y0 r) (y3 r)
def k19_2 : KF := fun c i x r h => (fun (x0 x1 x2 x3 : AV) =>
 tR (o_ldn 7 (.c x3) .nil h) fun v4 h5 =>
 tT (c 35 [v4] h5) fun v6 h7 =>
 x (T34 x0 x1 x2 v6) h7) (y0 r) (y3 r) (y4 r) (y5 r)
def k19_1 : KF := fun c i x r h => (fun (x0 x1 x2 : AV) =>
 tR (fa 5 x1 h) fun v3 h4 =>
 tR (o_ldn 7 (.c v3) .nil h4) fun v5 h6 =>
 tR (o_alloc 30 7 (.k1 (.mk (pi 0) (pi 0) (pi 0) (.str []) (.str []) .nils .nils .undef .undef .undef .undef .undef .undef .undef .undef .undef)) .nil h6) fun v7 h8 =>
 tR (o_stn 7 (.c v7) (.c v5) .nil h8) fun v9 h10 =>
 x (T40 x0 x1 x2 v7) h10) (y0 r) (y3 r) (y4 r)
def k19_0 : KF := fun c i x r h => (fun (x0 x1 : AV) =>
 tR (o_box 41 (.c x1) .nil h) fun v2 h3 =>
 tR (fa 1 v2 h3) fun v4 h5 =>
 tR (ld v4 h5) fun v6 h7 =>
 tT (c 33 [x0,v6] h7) fun v8 h9 =>
 tR (u_not v8 h9) fun v10 h11 =>
 ifR v10 (tR (fa 1 v2 h11) fun v12 h13 =>
 tR (ld v12 h13) fun v14 h15 =>
 tR (o_ldn 12 (.c v2) .nil h15) fun v16 h17 =>
 tR (o_build [(pi 0),(pi 0),(.str [])] [] .nil h17) fun v18 h19 =>
 tT (c 34 [x0,(pi 3),v14,v16,v18,.nils] h19) fun v20 h21 =>
 .ret T38 h21) (tQ (fa 1 v2 h11) fun v22 =>
 tQ (ld v22 h11) fun v23 =>
 tQ (nic x0 h11) fun v24 =>
 tQ (fa 4 v24 h11) fun v25 =>
 tQ (o_ixa 16 18 (.c v25) (.c v23) .nil h11) fun v26 =>
 x (T39 x0 v2 v26) h11)) (y0 r) (y1 r)
def x19 : AC := (.shal k19_0 (.shal k19_1 (.seq (.drw [q 0 (o d26 (.fad 1 r3)),
 q 0 (o d27 (.ld1 r26)),
 q 0 (o d33 (.fad 0 r5)),
 w (o .no (.st1 r33 r27)),
 q 1 (m d28 r4),
 q 1 (o d29 (.nilc r28)),
 q 1 (o d30 (.fad 2 r29)),
 q 1 (o d31 (.ld1 r30)),
 q 1 (o d32 (.bin .add r31 a1)),
 q 0 (o d34 (.fad 1 r5)),
 w (o .no (.st1 r34 r32))]) (.shal k19_2 (.seq (.seq (.ops [m d37 r6,
 o d38 (.len r37),
 o d39 (.bin .eq r38 a0),
 m d40 r39,
 .g .h2 .h8 false d41 (.op (.mv r6)),
 .g .h2 .h8 false d42 (.op (.len r41)),
 .g .h2 .h8 false d43 (.op (.bin .gt r42 (.c (pi 10000)))),
 o d44 (.pick r40 (.c (.bool true)) r43)]) (.shal k19_3 .skip)) (.seq (.drw [q 0 (o d57 (.ldn 12 r3)),
 w (.o d58 (.call 36 [r57])),
 q 1 (m d51 r4),
 q 1 (m d52 r4),
 q 1 (o d53 (.nilc r52)),
 q 1 (o d54 (.fad 2 r53)),
 q 1 (o d55 (.ld1 r54)),
 q 1 (o d56 (.bin .add r55 a1)),
 q 1 (m d59 r6),
 q 1 (o d60 (.conv .b2s r59)),
 q 0 (o d61 (.build [(.bool false),(.bool false),(pi 0),(pi 0),(pi 0),(pi 0),(pi 0),(.str []),(pi 0),(pi 0),(pi 0),(.str []),(.str []),.nils,.nils,(.str []),(pi 0),(pi 0)] [.mk 0 1 (.c (.bool true)),.mk 2 1 r56,.mk 3 12 r58,.mk 15 1 r60,.mk 16 1 (.c (ni 0))])),
 q 0 (o d62 (.nilc r51)),
 w (o .no (.stn 18 r62 r61))]) (.shal k19_4 .skip)))))))
def z19 : List Rs := []
def f19 : AF := .mk x19 z19
def k20_1 : KF := fun c i x r h => (fun (x0 x1 x2 : AV) =>
 ifR x2 (tR (fa 1 x1 h) fun v3 h4 =>
 tR (ld v3 h4) fun v5 h6 =>
 tR (o_ldn 12 (.c x1) .nil h6) fun v7 h8 =>
 tR (o_build [(pi 0),(pi 0),(.str [])] [] .nil h8) fun v9 h10 =>
 tT (c 34 [x0,(pi 3),v5,v7,v9,.nils] h10) fun v11 h12 =>
 .ret T38 h12) (.nm (T11 x0 x1) h)) (y0 r) (y3 r) (y19 r)
def k20_3 : KF := fun c i x r h => (fun (x0 x1 x2 : AV) =>
 tR (fa 1 x1 h) fun v3 h4 =>
 tR (ld v3 h4) fun v5 h6 =>
 tR (o_ldn 12 (.c x1) .nil h6) fun v7 h8 =>
 tR (o_build [(pi 0),(pi 0),(.str [])] [] .nil h8) fun v9 h10 =>
 tT (c 34 [x0,(pi 1),v5,v7,v9,.nils] h10) fun v11 h12 =>
 x (T39 x0 x1 x2) h12) (y0 r) (y3 r) (y4 r)
def k20_2 : KF := fun c i x r h => (fun (x0 x1 : AV) =>
 tR (nic x0 h) fun v2 h3 =>
 tR (fa 292 v2 h3) fun v4 h5 =>
 tR (ld v4 h5) fun v6 h7 =>
 tR (b_add v6 (pi 1) h7) fun v8 h9 =>
 tR (nic x0 h9) fun v10 h11 =>
 tR (fa 292 v10 h11) fun v12 h13 =>
 tR (sto v12 v8 h13) fun v14 h15 =>
 tQ (fa 1 x1 h15) fun v16 =>
 tQ (ld v16 h15) fun v17 =>
 tQ (nic x0 h15) fun v18 =>
 tQ (fa 4 v18 h15) fun v19 =>
 tQ (o_ixa 16 18 (.c v19) (.c v17) .nil h15) fun v20 =>
 x (T39 x0 x1 v20) h15) (y0 r) (y3 r)
def k20_0 : KF := fun c i x r h => (fun (x0 x1 : AV) =>
 tR (o_box 41 (.c x1) .nil h) fun v2 h3 =>
 x (T11 x0 v2) h3) (y0 r) (y1 r)
def x20 : AC := (.shal k20_0 (.seq (.seq (.drw [q 0 (m d5 r0),
 q 0 (o d6 (.fad 1 r3)),
 q 0 (o d7 (.ld1 r6)),
 w (.o d8 (.call 33 [r5,r7])),
 q 0 (o d9 (.un .not r8)),
 q 0 (m d10 r9),
 q 0 (.g .h0 .ha false d11 (.op (.mv r0))),
 q 0 (.g .h0 .ha false d12 (.op (.nilc r11))),
 q 0 (.g .h0 .ha false d13 (.op (.fad 0 r12))),
 q 0 (.g .h0 .ha false d14 (.op (.ld1 r13))),
 q 0 (.g .h0 .ha false d15 (.op (.fad 2 r3))),
 q 0 (.g .h0 .ha false d16 (.op (.ld1 r15))),
 w (.g .h0 .ha false d17 (.call 26 [r14,r16])),
 q 0 (.g .h0 .ha false d18 (.op (.un .not r17))),
 q 0 (o d19 (.pick r10 (.c (.bool true)) r18))]) (.shal k20_1 .skip)) (.shal k20_2 (.seq (.drw [q 0 (o d44 (.ldn 12 r3)),
 w (.o d45 (.call 36 [r44])),
 q 1 (m d46 r0),
 q 1 (o d47 (.nilc r46)),
 q 1 (o d48 (.fad 292 r47)),
 q 1 (o d49 (.ld1 r48)),
 w (.o d50 (.call 37 [r49])),
 q 2 (m d39 r4),
 q 2 (m d40 r4),
 q 2 (o d41 (.nilc r40)),
 q 2 (o d42 (.fad 2 r41)),
 q 2 (o d43 (.ld1 r42)),
 q 2 (o d51 (.fad 2 r3)),
 q 2 (o d52 (.ld1 r51)),
 q 2 (m d53 r0),
 q 2 (o d54 (.nilc r53)),
 q 2 (o d55 (.fad 3 r54)),
 q 2 (o d56 (.ld1 r55)),
 q 2 (o d57 (.fad 2 r3)),
 q 2 (o d58 (.ld1 r57)),
 q 2 (o d59 (.ixs 1 r56 r58)),
 q 2 (o d60 (.ld1 r59)),
 q 0 (o d61 (.build [(.bool false),(.bool false),(pi 0),(pi 0),(pi 0),(pi 0),(pi 0),(.str []),(pi 0),(pi 0),(pi 0),(.str []),(.str []),.nils,.nils,(.str []),(pi 0),(pi 0)] [.mk 0 1 (.c (.bool true)),.mk 1 1 (.c (.bool true)),.mk 2 1 r43,.mk 3 12 r45,.mk 15 1 r50,.mk 16 1 r52,.mk 17 1 r60])),
 q 0 (o d62 (.nilc r39)),
 w (o .no (.stn 18 r62 r61))]) (.shal k20_3 (.drw [q 0 (m d70 r0),
 q 0 (o d71 (.nilc r70)),
 q 0 (o d72 (.fad 0 r71)),
 q 0 (o d73 (.ld1 r72)),
 q 0 (o d74 (.fad 2 r3)),
 q 0 (o d75 (.ld1 r74)),
 q 0 (m d76 r4),
 q 0 (o d77 (.nilc r76)),
 q 0 (o d78 (.fad 15 r77)),
 q 0 (o d79 (.ld1 r78)),
 q 0 (o d80 (.build [(pi 0),(pi 0),(pi 0),(.str [])] [.mk 0 1 a2,.mk 1 1 r75,.mk 3 1 r79])),
 w (.o d81 (.call 22 [r73,r80])),
 q 1 (m d69 r0),
 w (.o d82 (.call 21 [r69,r81]))]))))))
def z20 : List Rs := []
def f20 : AF := .mk x20 z20
def k21_1 : KF := fun c i x r h => (fun (x0 x1 x2 x3 : AV) =>
 tR (b_lt x3 x2 h) fun v4 h5 =>
 ifR v4 (tR (nic x0 h5) fun v6 h7 =>
 tR (fa 0 v6 h7) fun v8 h9 =>
 tR (ld v8 h9) fun v10 h11 =>
 tT (c 26 [v10,x3] h11) fun v12 h13 =>
 ifR v12 (tT (c 38 [x0,x3] h13) fun v14 h15 =>
 tR (b_add x3 (pi 1) h15) fun v16 h17 =>
 .nm (T41 x0 x1 x2 v16) h17) (tR (b_add x3 (pi 1) h13) fun v18 h19 =>
 .nm (T41 x0 x1 x2 v18) h19)) (.ex 0 (T41 x0 x1 x2 x3) h5)) (y0 r) (y1 r) (y10 r) (y11 r)
def k21_0 : KF := fun c i x r h => (fun (x0 x1 : AV) =>
 tR (nic x0 h) fun v2 h3 =>
 tR (fa 1 v2 h3) fun v4 h5 =>
 tR (ld v4 h5) fun v6 h7 =>
 x (T41 x0 x1 v6 (pi 0)) h7) (y0 r) (y1 r)
def k21_3 : KF := fun c i x r h => (fun (x0 x1 x2 x3 : AV) =>
 tR (b_lt x3 x2 h) fun v4 h5 =>
 ifR v4 (tR (ix 4 x1 x3 h5) fun v6 h7 =>
 tR (o_ldn 4 (.c v6) .nil h7) fun v8 h9 =>
 tR (o_alloc 106 4 (.k1 (.mk (pi 0) (pi 0) (.str []) (pi 0) .undef .undef .undef .undef .undef .undef .undef .undef .undef .undef .undef .undef)) .nil h9) fun v10 h11 =>
 tR (o_stn 4 (.c v10) (.c v8) .nil h11) fun v12 h13 =>
 tR (fa 0 v10 h13) fun v14 h15 =>
 tR (ld v14 h15) fun v16 h17 =>
 tR (b_eq v16 (pi 2) h17) fun v18 h19 =>
 ifR v18 (tR (o_ldn 4 (.c v10) .nil h19) fun v20 h21 =>
 tT (c 39 [x0,v20] h21) fun v22 h23 =>
 tR (b_add x3 (pi 1) h23) fun v24 h25 =>
 .nm (T42 x0 x1 x2 v24) h25) (tR (b_add x3 (pi 1) h19) fun v26 h27 =>
 .nm (T42 x0 x1 x2 v26) h27)) (.ex 2 (T42 x0 x1 x2 x3) h5)) (y0 r) (y24 r) (y25 r) (y26 r)
def k21_2 : KF := fun c i x r h => (fun (x0 x1 : AV) =>
 tR (len x1 h) fun v2 h3 =>
 x (T42 x0 x1 v2 (pi 0)) h3) (y0 r) (y1 r)
def x21 : AC := (.seq (.shal k21_0 (.block 0 (.loop (.shal k21_1 .skip)))) (.shal k21_2 (.block 2 (.loop (.shal k21_3 .skip)))))
def z21 : List Rs := []
def f21 : AF := .mk x21 z21
def k22_3 : KF := fun c i x r h => (fun (x0 x1 x2 : AV) =>
 ifR x2 (tQ (nic x0 h) fun v3 =>
 tQ (fa 0 v3 h) fun v4 =>
 tQ (ld v4 h) fun v5 =>
 tQ (fa 1 x1 h) fun v6 =>
 tQ (ld v6 h) fun v7 =>
 tQ (fa 3 x1 h) fun v8 =>
 tQ (ld v8 h) fun v9 =>
 tX (c 40 [v5,v7,v9,(.bool false)] h) fun v10 h11 =>
 .nm (T1 x0) h11) (.nm (T1 x0) h)) (y0 r) (y3 r) (y17 r)
def k22_5 : KF := fun c i x r h => (fun (x0 x1 x2 x3 : AV) =>
 ifR x3 (tR (fa 3 x1 h) fun v4 h5 =>
 tR (ld v4 h5) fun v6 h7 =>
 tR (b_sne v6 (.str []) h7) fun v8 h9 =>
 ifR v8 (tQ (nic x0 h9) fun v10 =>
 tQ (fa 0 v10 h9) fun v11 =>
 tQ (ld v11 h9) fun v12 =>
 tQ (fa 1 x1 h9) fun v13 =>
 tQ (ld v13 h9) fun v14 =>
 tQ (fa 3 x1 h9) fun v15 =>
 tQ (ld v15 h9) fun v16 =>
 tX (c 40 [v12,v14,v16,(.bool true)] h9) fun v17 h18 =>
 .nm (T1 x0) h18) (.nm (T1 x0) h9)) (tR (b_eq x2 (pi 3) h) fun v19 h20 =>
 ifR v19 (tQ (nic x0 h20) fun v21 =>
 tQ (fa 0 v21 h20) fun v22 =>
 tQ (ld v22 h20) fun v23 =>
 tQ (fa 2 x1 h20) fun v24 =>
 tQ (ld v24 h20) fun v25 =>
 tX (c 41 [v23,v25] h20) fun v26 h27 =>
 .nm (T1 x0) h27) (tR (b_eq x2 (pi 4) h20) fun v28 h29 =>
 ifR v28 (tQ (nic x0 h29) fun v30 =>
 tQ (fa 0 v30 h29) fun v31 =>
 tQ (ld v31 h29) fun v32 =>
 tQ (fa 2 x1 h29) fun v33 =>
 tQ (ld v33 h29) fun v34 =>
 tX (c 42 [v32,v34] h29) fun v35 h36 =>
 .nm (T1 x0) h36) (tR (b_eq x2 (pi 5) h29) fun v37 h38 =>
 ifR v37 (tQ (nic x0 h38) fun v39 =>
 tQ (fa 0 v39 h38) fun v40 =>
 tQ (ld v40 h38) fun v41 =>
 tQ (fa 2 x1 h38) fun v42 =>
 tQ (ld v42 h38) fun v43 =>
 tX (c 43 [v41,v43] h38) fun v44 h45 =>
 .nm (T1 x0) h45) (tR (b_eq x2 (pi 6) h38) fun v46 h47 =>
 ifR v46 (tQ (nic x0 h47) fun v48 =>
 tQ (fa 0 v48 h47) fun v49 =>
 tQ (ld v49 h47) fun v50 =>
 tQ (fa 1 x1 h47) fun v51 =>
 tQ (ld v51 h47) fun v52 =>
 tQ (fa 2 x1 h47) fun v53 =>
 tQ (ld v53 h47) fun v54 =>
 tX (c 44 [v50,v52,v54] h47) fun v55 h56 =>
 .nm (T1 x0) h56) (tR (b_eq x2 (pi 7) h47) fun v57 h58 =>
 ifR v57 (tQ (nic x0 h58) fun v59 =>
 tQ (fa 0 v59 h58) fun v60 =>
 tQ (ld v60 h58) fun v61 =>
 tQ (fa 1 x1 h58) fun v62 =>
 tQ (ld v62 h58) fun v63 =>
 tQ (fa 2 x1 h58) fun v64 =>
 tQ (ld v64 h58) fun v65 =>
 tX (c 45 [v61,v63,v65] h58) fun v66 h67 =>
 .nm (T1 x0) h67) (tR (b_eq x2 (pi 8) h58) fun v68 h69 =>
 ifR v68 (tQ (nic x0 h69) fun v70 =>
 tQ (fa 0 v70 h69) fun v71 =>
 tQ (ld v71 h69) fun v72 =>
 tQ (fa 1 x1 h69) fun v73 =>
 tQ (ld v73 h69) fun v74 =>
 tX (c 46 [v72,v74] h69) fun v75 h76 =>
 .nm (T1 x0) h76) (tR (b_eq x2 (pi 9) h69) fun v77 h78 =>
 ifR v77 (tQ (nic x0 h78) fun v79 =>
 tQ (fa 0 v79 h78) fun v80 =>
 tQ (ld v80 h78) fun v81 =>
 tQ (fa 1 x1 h78) fun v82 =>
 tQ (ld v82 h78) fun v83 =>
 tQ (fa 2 x1 h78) fun v84 =>
 tQ (ld v84 h78) fun v85 =>
 tQ (fa 3 x1 h78) fun v86 =>
 tQ (ld v86 h78) fun v87 =>
 tX (c 47 [v81,v83,v85,v87] h78) fun v88 h89 =>
 .nm (T1 x0) h89) (.nm (T1 x0) h78))))))))) (y0 r) (y3 r) (y6 r) (y27 r)
def k22_4 : KF := fun c i x r h => (fun (x0 x1 x2 : AV) =>
 tR (b_eq x2 (pi 2) h) fun v3 h4 =>
 x (T45 x0 x1 x2 v3) h4) (y0 r) (y3 r) (y6 r)
def k22_2 : KF := fun c i x r h => (fun (x0 x1 x2 : AV) =>
 tR (b_eq x2 (pi 1) h) fun v3 h4 =>
 x (T44 x0 x1 x2 v3) h4) (y0 r) (y3 r) (y6 r)
def k22_1 : KF := fun c i x r h => (fun (x0 x1 : AV) =>
 tR (fa 0 x1 h) fun v2 h3 =>
 tR (ld v2 h3) fun v4 h5 =>
 x (T43 x0 x1 v4) h5) (y0 r) (y3 r)
def k22_6 : KF := fun c i x r h => (fun (x0 : AV) =>
 tT (c 48 [x0] h) fun v1 h2 =>
 .ret (T22 v1) h2) (y0 r)
def k22_0 : KF := fun c i x r h => (fun (x0 x1 : AV) =>
 tR (o_box 73 (.c x1) .nil h) fun v2 h3 =>
 x (T11 x0 v2) h3) (y0 r) (y1 r)
def x22 : AC := (.shal k22_0 (.seq (.shal k22_1 (.block 0 (.shal k22_2 (.cond r7 (.seq (.ops [o d9 (.fad 3 r3),
 o d10 (.ld1 r9),
 o d11 (.bin .sne r10 (.c (.str []))),
 m d12 r11,
 .g .h0 .hc true d13 (.op (.fad 3 r3)),
 .g .h0 .hc true d14 (.op (.ld1 r13)),
 .g .h0 .hc true d15 (.op (.lent r14)),
 .g .h0 .hc true d16 (.op (.bin .le r15 (.c (pi 10000)))),
 o d17 (.pick r12 r16 (.c (.bool false)))]) (.shal k22_3 .skip)) (.shal k22_4 (.shal k22_5 .skip)))))) (.shal k22_6 .skip)))
def z22 : List Rs := [.t .h0 .h4]
def f22 : AF := .mk x22 z22
def k23_3 : KF := fun c i x r h => (fun (x0 x1 x2 x3 : AV) =>
 ifR x3 (.ex 1 (T47 x0 x1 x2) h) (.nm (T47 x0 x1 x2) h)) (y0 r) (y3 r) (y5 r) (y31 r)
def k23_7 : KF := fun c i x r h => (fun (x0 x1 x2 x3 : AV) =>
 tR (nic x0 h) fun v4 h5 =>
 tR (fa 3 v4 h5) fun v6 h7 =>
 tR (ld v6 h7) fun v8 h9 =>
 tR (ix 1 v8 x2 h9) fun v10 h11 =>
 tR (ld v10 h11) fun v12 h13 =>
 tR (nic x1 h13) fun v14 h15 =>
 tR (fa 16 v14 h15) fun v16 h17 =>
 tR (sto v16 x2 h17) fun v18 h19 =>
 tR (nic x1 h19) fun v20 h21 =>
 tR (fa 17 v20 h21) fun v22 h23 =>
 tR (sto v22 v12 h23) fun v24 h25 =>
 x (T40 x0 x1 x2 x3) h25) (y0 r) (y3 r) (y4 r) (y5 r)
def k23_6 : KF := fun c i x r h => (fun (x0 x1 x2 x3 x4 : AV) =>
 tR (nic x0 h) fun v5 h6 =>
 tR (fa 0 v5 h6) fun v7 h8 =>
 tR (ld v7 h8) fun v9 h10 =>
 tT (c 26 [v9,x4] h10) fun v11 h12 =>
 x (T49 x0 x1 x4 x2 x3 x4 v11) h12) (y0 r) (y3 r) (y5 r) (y35 r) (y36 r)
def k23_8 : KF := fun c i x r h => (fun (x0 x1 x2 x3 x4 : AV) =>
 tR (b_add x4 (pi 1) h) fun v5 h6 =>
 .nm (T48 x0 x1 x2 x3 v5) h6) (y0 r) (y3 r) (y5 r) (y35 r) (y36 r)
def k23_5 : KF := fun c i x r h => (fun (x0 x1 x2 x3 x4 : AV) =>
 tR (b_lt x4 x3 h) fun v5 h6 =>
 ifR v5 (x (T48 x0 x1 x2 x3 x4) h6) (.ex 2 (T46 x0 x2) h6)) (y0 r) (y3 r) (y5 r) (y35 r) (y36 r)
def k23_4 : KF := fun c i x r h => (fun (x0 x1 x2 : AV) =>
 tR (nic x0 h) fun v3 h4 =>
 tR (fa 1 v3 h4) fun v5 h6 =>
 tR (ld v5 h6) fun v7 h8 =>
 x (T48 x0 x1 x2 v7 (pi 0)) h8) (y0 r) (y3 r) (y5 r)
def k23_2 : KF := fun c i x r h => (fun (x0 x1 : AV) =>
 tR (nic x0 h) fun v2 h3 =>
 tR (fa 4 v2 h3) fun v4 h5 =>
 tR (o_ixa 16 18 (.c v4) (.c x1) .nil h5) fun v6 h7 =>
 x (T47 x0 v6 x1) h7) (y0 r) (y5 r)
def k23_9 : KF := fun c i x r h => (fun (x0 x1 : AV) =>
 tR (b_add x1 (pi 1) h) fun v2 h3 =>
 .nm (T46 x0 v2) h3) (y0 r) (y5 r)
def k23_1 : KF := fun c i x r h => (fun (x0 x1 : AV) =>
 tR (b_lt x1 (pi 16) h) fun v2 h3 =>
 ifR v2 (x (T46 x0 x1) h3) (.ex 0 T38 h3)) (y0 r) (y5 r)
def k23_0 : KF := fun c i x r h => (fun (x0 : AV) =>
 x (T46 x0 (pi 0)) h) (y0 r)
def x23 : AC := (.shal k23_0 (.block 0 (.loop (.shal k23_1 (.seq (.block 1 (.shal k23_2 (.seq (.seq (.ops [m d13 r3,
 o d14 (.nilc r13),
 o d15 (.fad 0 r14),
 o d16 (.ld1 r15),
 o d17 (.un .not r16),
 m d18 r17,
 .g .h1 .h2 false d19 (.op (.mv r3)),
 .g .h1 .h2 false d20 (.op (.nilc r19)),
 .g .h1 .h2 false d21 (.op (.fad 1 r20)),
 .g .h1 .h2 false d22 (.op (.ld1 r21)),
 o d23 (.pick r18 (.c (.bool true)) r22),
 m d24 r23,
 .g .h1 .h8 false d25 (.op (.mv r0)),
 .g .h1 .h8 false d26 (.op (.mv r3)),
 .g .h1 .h8 false d27 (.op (.nilc r26)),
 .g .h1 .h8 false d28 (.op (.ldn 18 r27)),
 .g .h1 .h8 false d29 (.call 49 [r25,r28]),
 .g .h1 .h8 false d30 (.op (.un .not r29)),
 o d31 (.pick r24 (.c (.bool true)) r30)]) (.shal k23_3 .skip)) (.shal k23_4 (.block 2 (.loop (.shal k23_5 (.seq (.block 3 (.shal k23_6 (.cond r44 (.shal k23_7 (.seq (.drw [q 0 (m d60 r0),
 q 0 (o d61 (.nilc r60)),
 q 0 (o d62 (.fad 0 r61)),
 q 0 (o d63 (.ld1 r62)),
 q 0 (m d64 r4),
 q 0 (m d65 r3),
 q 0 (o d66 (.nilc r65)),
 q 0 (o d67 (.fad 15 r66)),
 q 0 (o d68 (.ld1 r67)),
 q 0 (o d69 (.build [(pi 0),(pi 0),(pi 0),(.str [])] [.mk 0 1 a1,.mk 1 1 r64,.mk 3 1 r68])),
 w (.o d70 (.call 22 [r63,r69])),
 q 1 (m d59 r0),
 w (.o d71 (.call 21 [r59,r70]))]) (.exit 2))) .skip))) (.shal k23_8 .skip))))))))) (.shal k23_9 .skip))))))
def z23 : List Rs := []
def f23 : AF := .mk x23 z23
def k24_4 : KF := fun c i x r h => (fun (x0 x1 x2 x3 x4 x5 : AV) =>
 ifR x5 (tR (nic x3 h) fun v6 h7 =>
 tR (fa 0 v6 h7) fun v8 h9 =>
 tR (sto v8 (.bool false) h9) fun v10 h11 =>
 tR (nic x3 h11) fun v12 h13 =>
 tR (fa 3 v12 h13) fun v14 h15 =>
 tR (o_ldn 12 (.c v14) .nil h15) fun v16 h17 =>
 tR (o_build [(pi 0),(pi 0),(.str [])] [.mk 0 1 (.c (pi 29))] .nil h17) fun v18 h19 =>
 tT (c 34 [x0,(pi 2),x2,v16,v18,.nils] h19) fun v20 h21 =>
 .nm (T51 x0 x1 x4) h21) (.nm (T51 x0 x1 x4) h)) (y0 r) (y1 r) (y6 r) (y7 r) (y32 r) (y57 r)
def k24_3 : KF := fun c i x r h => (fun (x0 x1 x2 : AV) =>
 tR (nic x0 h) fun v3 h4 =>
 tR (fa 4 v3 h4) fun v5 h6 =>
 tR (o_ixa 16 18 (.c v5) (.c x2) .nil h6) fun v7 h8 =>
 x (T52 x0 x1 x2 v7 x2) h8) (y0 r) (y1 r) (y32 r)
def k24_5 : KF := fun c i x r h => (fun (x0 x1 x2 : AV) =>
 tR (b_add x2 (pi 1) h) fun v3 h4 =>
 .nm (T51 x0 x1 v3) h4) (y0 r) (y1 r) (y32 r)
def k24_2 : KF := fun c i x r h => (fun (x0 x1 x2 : AV) =>
 tR (b_lt x2 (pi 16) h) fun v3 h4 =>
 ifR v3 (x (T51 x0 x1 x2) h4) (.ex 0 T38 h4)) (y0 r) (y1 r) (y32 r)
def k24_1 : KF := fun c i x r h => (fun (x0 x1 : AV) =>
 x (T51 x0 x1 (pi 0)) h) (y0 r) (y1 r)
def k24_0 : KF := fun c i x r h => (fun (x0 x1 x2 : AV) =>
 tR (nic x0 h) fun v3 h4 =>
 tR (fa 0 v3 h4) fun v5 h6 =>
 tR (ld v5 h6) fun v7 h8 =>
 tT (c 26 [v7,x1] h8) fun v9 h10 =>
 tR (u_not v9 h10) fun v11 h12 =>
 ifR v11 (.ret T38 h12) (tR (nic x0 h12) fun v13 h14 =>
 tR (fa 0 v13 h14) fun v15 h16 =>
 tR (ld v15 h16) fun v17 h18 =>
 tR (o_build [(pi 0),(pi 0),(pi 0),(.str [])] [.mk 0 1 (.c (pi 7)),.mk 1 1 (.c x1),.mk 2 1 (.c x2)] .nil h18) fun v19 h20 =>
 tT (c 22 [v17,v19] h20) fun v21 h22 =>
 tT (c 21 [x0,v21] h22) fun v23 h24 =>
 x (T50 x0 x1) h24)) (y0 r) (y1 r) (y2 r)
def x24 : AC := (.shal k24_0 (.seq (.drw [w (.o d30 (.call 18 [])),
 q 1 (m d25 r0),
 q 1 (o d26 (.nilc r25)),
 q 1 (o d27 (.fad 2 r26)),
 q 1 (o d28 (.ld1 r27)),
 q 1 (m d29 r1),
 q 0 (o d31 (.ixs 1 r28 r29)),
 w (o .no (.st1 r31 r30))]) (.shal k24_1 (.block 0 (.loop (.shal k24_2 (.seq (.block 1 (.shal k24_3 (.seq (.ops [m d40 r7,
 o d41 (.nilc r40),
 o d42 (.fad 0 r41),
 o d43 (.ld1 r42),
 m d44 r43,
 .g .h2 .hc true d45 (.op (.mv r7)),
 .g .h2 .hc true d46 (.op (.nilc r45)),
 .g .h2 .hc true d47 (.op (.fad 1 r46)),
 .g .h2 .hc true d48 (.op (.ld1 r47)),
 o d49 (.pick r44 r48 (.c (.bool false))),
 m d50 r49,
 .g .h3 .h2 true d51 (.op (.mv r7)),
 .g .h3 .h2 true d52 (.op (.nilc r51)),
 .g .h3 .h2 true d53 (.op (.fad 16 r52)),
 .g .h3 .h2 true d54 (.op (.ld1 r53)),
 .g .h3 .h2 true d55 (.op (.mv r1)),
 .g .h3 .h2 true d56 (.op (.bin .eq r54 r55)),
 o d57 (.pick r50 r56 (.c (.bool false)))]) (.shal k24_4 .skip)))) (.shal k24_5 .skip))))))))
def z24 : List Rs := []
def f24 : AF := .mk x24 z24
def k25_0 : KF := fun c i x r h => (fun (x0 x1 x2 : AV) =>
 ifR x2 (.ret T38 h) (.nm (T50 x0 x1) h)) (y0 r) (y1 r) (y21 r)
def k25_1 : KF := fun c i x r h => (fun (x0 x1 : AV) =>
 tR (nic x0 h) fun v2 h3 =>
 tR (fa 3 v2 h3) fun v4 h5 =>
 tR (ld v4 h5) fun v6 h7 =>
 tR (ix 1 v6 x1 h7) fun v8 h9 =>
 tR (ld v8 h9) fun v10 h11 =>
 tR (b_add v10 (pi 1) h11) fun v12 h13 =>
 tR (ix 1 v6 x1 h13) fun v14 h15 =>
 tR (sto v14 v12 h15) fun v16 h17 =>
 tR (nic x0 h17) fun v18 h19 =>
 tR (fa 0 v18 h19) fun v20 h21 =>
 tR (ld v20 h21) fun v22 h23 =>
 tR (o_build [(pi 0),(pi 0),(pi 0),(.str [])] [.mk 0 1 (.c (pi 8)),.mk 1 1 (.c x1)] .nil h23) fun v24 h25 =>
 tT (c 22 [v22,v24] h25) fun v26 h27 =>
 tT (c 21 [x0,v26] h27) fun v28 h29 =>
 tT (c 23 [x0] h29) fun v30 h31 =>
 .nm T38 h31) (y0 r) (y1 r)
def x25 : AC := (.seq (.seq (.ops [m d4 r1,
 o d5 (.bin .lt r4 a0),
 m d6 r5,
 .g .h0 .h6 false d7 (.op (.mv r1)),
 .g .h0 .h6 false d8 (.op (.mv r0)),
 .g .h0 .h6 false d9 (.op (.nilc r8)),
 .g .h0 .h6 false d10 (.op (.fad 1 r9)),
 .g .h0 .h6 false d11 (.op (.ld1 r10)),
 .g .h0 .h6 false d12 (.op (.bin .ge r7 r11)),
 o d13 (.pick r6 (.c (.bool true)) r12),
 m d14 r13,
 .g .h0 .he false d15 (.op (.mv r0)),
 .g .h0 .he false d16 (.op (.nilc r15)),
 .g .h0 .he false d17 (.op (.fad 0 r16)),
 .g .h0 .he false d18 (.op (.ld1 r17)),
 .g .h0 .he false d19 (.op (.mv r1)),
 .g .h0 .he false d20 (.call 26 [r18,r19]),
 o d21 (.pick r14 (.c (.bool true)) r20)]) (.shal k25_0 .skip)) (.shal k25_1 .skip))
def z25 : List Rs := []
def f25 : AF := .mk x25 z25
def k26_0 : KF := fun c i x r h => (fun (x0 x1 : AV) =>
 tR (nic x0 h) fun v2 h3 =>
 tR (fa 0 v2 h3) fun v4 h5 =>
 tR (ld v4 h5) fun v6 h7 =>
 tT (c 50 [v6,x1] h7) fun v8 h9 =>
 .ret (T22 v8) h9) (y0 r) (y1 r)
def x26 : AC := (.shal k26_0 .skip)
def z26 : List Rs := [.t .h0 .h4]
def f26 : AF := .mk x26 z26
def k27_0 : KF := fun c i x r h => (fun (x0 : AV) =>
 tR (nic x0 h) fun v1 h2 =>
 tR (fa 1 v1 h2) fun v3 h4 =>
 tR (ld v3 h4) fun v5 h6 =>
 .ret (T23 v5) h6) (y0 r)
def x27 : AC := (.shal k27_0 .skip)
def z27 : List Rs := [.t .h0 .h2]
def f27 : AF := .mk x27 z27
def k29_0 : KF := fun c i x r h => (fun (x0 : AV) =>
 tR (nic x0 h) fun v1 h2 =>
 tR (fa 293 v1 h2) fun v3 h4 =>
 tR (ld v3 h4) fun v5 h6 =>
 tR (nic x0 h6) fun v7 h8 =>
 tR (fa 293 v7 h8) fun v9 h10 =>
 tR (sto v9 .nils h10) fun v11 h12 =>
 .ret (T23 v5) h12) (y0 r)
def x29 : AC := (.shal k29_0 .skip)
def z29 : List Rs := [.t .h0 .h2]
def f29 : AF := .mk x29 z29
def k30_4 : KF := fun c i x r h => (fun (x0 x1 x2 x3 : AV) =>
 ifR x3 (.go 0 (T53 x0 x1 x2) h) (.nm (T53 x0 x1 x2) h)) (y0 r) (y1 r) (y6 r) (y46 r)
def k30_5 : KF := fun c i x r h => (fun (x0 x1 : AV) =>
 tT (c 29 [x0] h) fun v2 h3 =>
 .ret (T33 v2 x1) h3) (y0 r) (y6 r)
def k30_3 : KF := fun c i x r h => (fun (x0 x1 x2 : AV) =>
 tR (nic x0 h) fun v3 h4 =>
 tR (fa 0 v3 h4) fun v5 h6 =>
 tR (ld v5 h6) fun v7 h8 =>
 tR (b_sub x1 x2 h8) fun v9 h10 =>
 tT (c 55 [v7,v9] h10) fun v11 h12 =>
 tR (o_ext 0 (.c v11) .nil h12) fun v13 h14 =>
 tR (o_ext 1 (.c v11) .nil h14) fun v15 h16 =>
 tT (c 21 [x0,v13] h16) fun v17 h18 =>
 tR (b_add x2 v15 h18) fun v19 h20 =>
 x (T54 x0 x1 v19 v15) h20) (y0 r) (y1 r) (y6 r)
def k30_2 : KF := fun c i x r h => (fun (x0 x1 x2 : AV) =>
 tR (b_lt x2 x1 h) fun v3 h4 =>
 ifR v3 (tT (c 23 [x0] h4) fun v5 h6 =>
 x (T53 x0 x1 x2) h6) (x (T53 x0 x1 x2) h4)) (y0 r) (y1 r) (y6 r)
def k30_1 : KF := fun c i x r h => (fun (x0 x1 : AV) =>
 tR (maxV false [x1,(pi 0)] h) fun v2 h3 =>
 tR (maxV true [v2,(pi 20000)] h3) fun v4 h5 =>
 x (T53 x0 v4 (pi 0)) h5) (y0 r) (y1 r)
def k30_0 : KF := fun c i x r h => (fun (x0 x1 : AV) =>
 x (T50 x0 x1) h) (y0 r) (y1 r)
def x30 : AC := (.shal k30_0 (.scope (.shal k30_1 (.seq (.label 0) (.shal k30_2 (.shal k30_3 (.seq (.seq (.ops [m d34 r8,
 o d35 (.bin .gt r34 a0),
 m d36 r35,
 .g .h2 .h4 true d37 (.op (.mv r6)),
 .g .h2 .h4 true d38 (.op (.mv r1)),
 .g .h2 .h4 true d39 (.op (.bin .lt r37 r38)),
 o d40 (.pick r36 r39 (.c (.bool false))),
 m d41 r40,
 .g .h2 .h9 true d42 (.op (.mv r0)),
 .g .h2 .h9 true d43 (.call 14 [r42]),
 .g .h2 .h9 true d44 (.op (.len r43)),
 .g .h2 .h9 true d45 (.op (.bin .gt r44 a0)),
 o d46 (.pick r41 r45 (.c (.bool false)))]) (.shal k30_4 .skip)) (.shal k30_5 .skip))))))))
def z30 : List Rs := [.t .h0 .h4,.t .h0 .h5]
def f30 : AF := .mk x30 z30
def k31_3 : KF := fun c i x r h => (fun (x0 x1 x2 : AV) =>
 x (T56 x0 x2 x1 x2) h) (y5 r) (y12 r) (y13 r)
def k31_4 : KF := fun c i x r h => (fun (x0 x1 x2 : AV) =>
 tR (b_add x2 (pi 1) h) fun v3 h4 =>
 .nm (T55 x0 x1 v3) h4) (y5 r) (y12 r) (y13 r)
def k31_2 : KF := fun c i x r h => (fun (x0 x1 x2 : AV) =>
 tR (b_lt x2 x1 h) fun v3 h4 =>
 ifR v3 (x (T55 x0 x1 x2) h4) (.ex 0 (T27 x0) h4)) (y5 r) (y12 r) (y13 r)
def k31_1 : KF := fun c i x r h => (fun (x0 x1 : AV) =>
 x (T55 x1 x0 (pi 0)) h) (y0 r) (y5 r)
def k31_6 : KF := fun c i x r h => (fun (x0 x1 x2 x3 : AV) =>
 tR (b_lt x3 x2 h) fun v4 h5 =>
 ifR v4 (tR (ix 1 x1 x3 h5) fun v6 h7 =>
 tR (ld v6 h7) fun v8 h9 =>
 tT (c 57 [v8,(.bool false)] h9) fun v10 h11 =>
 tR (b_add x3 (pi 1) h11) fun v12 h13 =>
 .nm (T57 x0 x1 x2 v12) h13) (.ex 2 (T57 x0 x1 x2 x3) h5)) (y5 r) (y34 r) (y35 r) (y36 r)
def k31_5 : KF := fun c i x r h => (fun (x0 : AV) =>
 tR (nic x0 h) fun v1 h2 =>
 tR (fa 1 v1 h2) fun v3 h4 =>
 tR (ld v3 h4) fun v5 h6 =>
 tR (len v5 h6) fun v7 h8 =>
 x (T57 x0 v5 v7 (pi 0)) h8) (y5 r)
def k31_7 : KF := fun c i x r h => (fun (x0 : AV) =>
 .ret (T22 x0) h) (y5 r)
def k31_0 : KF := fun c i x r h => (fun (x0 x1 : AV) =>
 tR (o_build [.nils,.nils,.nili] [.mk 2 1 (.c x1)] .nil h) fun v2 h3 =>
 tR (o_box 123 (.c v2) .nil h3) fun v4 h5 =>
 x (T46 x0 v4) h5) (y0 r) (y1 r)
def x31 : AC := (.shal k31_0 (.seq (.shal k31_1 (.block 0 (.loop (.shal k31_2 (.seq (.block 1 (.shal k31_3 (.drw [w (.o d23 (.call 56 [])),
 q 1 (m d21 r5),
 q 1 (m d22 r6),
 q 0 (o d24 (.build [.nilp,(pi 0),.nilp,(pi 0),(.bool false),(pi 0),(pi 0),.nilp,.nilp,.nilp,(pi 0),.nilm,(pi 0),(pi 0),(pi 0),.nilm,(.str []),.nils,(pi 0),(pi 0),.nilm,(pi 0),(pi 0),(pi 0),(.bool false)] [.mk 0 1 r21,.mk 1 1 r22,.mk 2 1 r23])),
 w (o d25 (.box 137 r24)),
 w (o d26 (.bslice 124 1 1 [.nilp] [.mk 0 1 r25])),
 q 3 (m d17 r5),
 q 3 (o d18 (.nilc r17)),
 q 3 (o d19 (.fad 1 r18)),
 q 3 (o d20 (.ld1 r19)),
 w (o d27 (.app 124 1 r20 r26)),
 q 4 (m d16 r5),
 q 0 (o d28 (.nilc r16)),
 q 0 (o d29 (.fad 1 r28)),
 w (o .no (.st1 r29 r27))]))) (.shal k31_4 .skip)))))) (.seq (.shal k31_5 (.block 2 (.loop (.shal k31_6 .skip)))) (.shal k31_7 .skip))))
def z31 : List Rs := [.t .h0 .h4]
def f31 : AF := .mk x31 z31
def k32_0 : KF := fun c i x r h => tT (c 58 [] h) fun v0 h1 =>
 tR (o_mkmap .nil h1) fun v2 h3 =>
 tT (c 59 [] h3) fun v4 h5 =>
 tR (o_build [.nilp,.nils,.nilm,.nilp] [.mk 0 1 (.c v0),.mk 2 1 (.c v2),.mk 3 1 (.c v4)] .nil h5) fun v6 h7 =>
 tR (o_box 146 (.c v6) .nil h7) fun v8 h9 =>
 .ret (T1 v8) h9
def x32 : AC := (.shal k32_0 .skip)
def z32 : List Rs := [.t .h0 .h0]
def f32 : AF := .mk x32 z32
def k33_0 : KF := fun c i x r h => (fun (x0 x1 : AV) =>
 x (T50 x0 x1) h) (y0 r) (y1 r)
def x33 : AC := (.shal k33_0 (.seq (.ops [m d5 r1,
 o d6 (.bin .ge r5 a0),
 m d7 r6,
 .g .h0 .h7 true d8 (.op (.mv r1)),
 .g .h0 .h7 true d9 (.op (.bin .lt r8 (.c (pi 16)))),
 o d10 (.pick r7 r9 (.c (.bool false))),
 m d11 r10,
 .g .h0 .hb true d12 (.op (.mv r0)),
 .g .h0 .hb true d13 (.op (.mv r1)),
 .g .h0 .hb true d14 (.op (.nilc r12)),
 .g .h0 .hb true d15 (.op (.fad 4 r14)),
 .g .h0 .hb true d16 (.op (.ixa 16 18 r15 r13)),
 .g .h0 .hb true d17 (.op (.fad 0 r16)),
 .g .h0 .hb true d18 (.op (.ld1 r17)),
 .g .h0 .hb true d19 (.op (.un .not r18)),
 o d20 (.pick r11 r19 (.c (.bool false))),
 m d4 r20]) .ret))
def z33 : List Rs := [.t .h0 .h4]
def f33 : AF := .mk x33 z33
def k34_0 : KF := fun c i x r h => (fun (x0 x1 x2 x3 x4 x5 : AV) =>
 tR (o_box 41 (.c x3) .nil h) fun v6 h7 =>
 tR (o_box 24 (.c x4) .nil h7) fun v8 h9 =>
 x (T58 x0 x1 x2 x5 v6 v8) h9) (y0 r) (y1 r) (y2 r) (y3 r) (y4 r) (y5 r)
def x34 : AC := (.shal k34_0 (.drw [q 0 (o d19 (.ldn 12 r9)),
 w (.o d20 (.call 36 [r19])),
 q 1 (m d22 r5),
 w (.o d23 (.call 60 [r22])),
 q 2 (m d17 r1),
 q 2 (m d18 r2),
 q 2 (o d21 (.ldn 3 r10)),
 q 0 (o d24 (.build [(pi 0),(pi 0),(pi 0),(pi 0),(pi 0),(pi 0),(.str []),(pi 0),(pi 0),(pi 0),(.str []),(.str []),.nils,.nils,(pi 0),(pi 0),(.str []),.nils] [.mk 0 1 r17,.mk 1 1 r18,.mk 2 12 r20,.mk 14 3 r21,.mk 17 1 r23])),
 w (o d25 (.bslice 50 18 1 [(pi 0),(pi 0),(pi 0),(pi 0),(pi 0),(pi 0),(.str []),(pi 0),(pi 0),(pi 0),(.str []),(.str []),.nils,.nils,(pi 0),(pi 0),(.str []),.nils] [.mk 0 18 r24])),
 q 3 (m d13 r0),
 q 3 (o d14 (.nilc r13)),
 q 3 (o d15 (.fad 293 r14)),
 q 3 (o d16 (.ld1 r15)),
 w (o d26 (.app 50 18 r16 r25)),
 q 4 (m d12 r0),
 q 0 (o d27 (.nilc r12)),
 q 0 (o d28 (.fad 293 r27)),
 w (o .no (.st1 r28 r26))]))
def z34 : List Rs := []
def f34 : AF := .mk x34 z34
def k35_3 : KF := fun c i x r h => (fun (x0 x1 x2 x3 x4 : AV) =>
 tR (b_lt x4 x3 h) fun v5 h6 =>
 ifR v5 (tR (ix 2 x2 x4 h6) fun v7 h8 =>
 tR (o_ldn 2 (.c v7) .nil h8) fun v9 h10 =>
 tR (o_alloc 80 2 (.k1 (.mk (.str []) (pi 0) .undef .undef .undef .undef .undef .undef .undef .undef .undef .undef .undef .undef .undef .undef)) .nil h10) fun v11 h12 =>
 tR (o_stn 2 (.c v11) (.c v9) .nil h12) fun v13 h14 =>
 tR (fa 0 v11 h14) fun v15 h16 =>
 tR (ld v15 h16) fun v17 h18 =>
 tT (c 62 [x1,v17] h18) fun v19 h20 =>
 tR (fa 1 v11 h20) fun v21 h22 =>
 tR (ld v21 h22) fun v23 h24 =>
 tT (c 52 [x1,v23] h24) fun v25 h26 =>
 tR (b_add x4 (pi 1) h26) fun v27 h28 =>
 .nm (T60 x0 x1 x2 x3 v27) h28) (.ex 0 (T60 x0 x1 x2 x3 x4) h6)) (y1 r) (y3 r) (y41 r) (y42 r) (y43 r)
def k35_2 : KF := fun c i x r h => (fun (x0 x1 : AV) =>
 tR (fa 5 x0 h) fun v2 h3 =>
 tR (ld v2 h3) fun v4 h5 =>
 tR (len v4 h5) fun v6 h7 =>
 x (T60 x0 x1 v4 v6 (pi 0)) h7) (y1 r) (y3 r)
def k35_9 : KF := fun c i x r h => (fun (x0 x1 x2 x3 x4 x5 x6 x7 : AV) =>
 tR (b_lt x7 x6 h) fun v8 h9 =>
 ifR v8 (tR (ix 3 x5 x7 h9) fun v10 h11 =>
 tR (o_ldn 3 (.c v10) .nil h11) fun v12 h13 =>
 tR (o_alloc 155 3 (.k1 (.mk (pi 0) (pi 0) (.str []) .undef .undef .undef .undef .undef .undef .undef .undef .undef .undef .undef .undef .undef)) .nil h13) fun v14 h15 =>
 tR (o_stn 3 (.c v14) (.c v12) .nil h15) fun v16 h17 =>
 tR (fa 0 v14 h17) fun v18 h19 =>
 tR (ld v18 h19) fun v20 h21 =>
 tT (c 52 [x0,v20] h21) fun v22 h23 =>
 tR (fa 1 v14 h23) fun v24 h25 =>
 tR (ld v24 h25) fun v26 h27 =>
 tT (c 52 [x0,v26] h27) fun v28 h29 =>
 tR (fa 2 v14 h29) fun v30 h31 =>
 tR (ld v30 h31) fun v32 h33 =>
 tT (c 62 [x0,v32] h33) fun v34 h35 =>
 tR (b_add x7 (pi 1) h35) fun v36 h37 =>
 .nm (T63 x0 x1 x2 x3 x4 x5 x6 v36) h37) (.ex 4 (T63 x0 x1 x2 x3 x4 x5 x6 x7) h9)) (y3 r) (y7 r) (y62 r) (y63 r) (y64 r) (y78 r) (y79 r) (y80 r)
def k35_8 : KF := fun c i x r h => (fun (x0 x1 x2 x3 x4 : AV) =>
 tR (fa 1 x1 h) fun v5 h6 =>
 tR (ld v5 h6) fun v7 h8 =>
 tR (len v7 h8) fun v9 h10 =>
 x (T63 x0 x1 x2 x3 x4 v7 v9 (pi 0)) h10) (y3 r) (y7 r) (y62 r) (y63 r) (y64 r)
def k35_10 : KF := fun c i x r h => (fun (x0 x1 x2 x3 x4 : AV) =>
 tR (fa 2 x1 h) fun v5 h6 =>
 tR (ld v5 h6) fun v7 h8 =>
 ifR v7 (tT (c 63 [x0,(pi 1)] h8) fun v9 h10 =>
 .nm (T61 x0 x2 x3 x4) h10) (tT (c 63 [x0,(pi 0)] h8) fun v11 h12 =>
 .nm (T61 x0 x2 x3 x4) h12)) (y3 r) (y7 r) (y62 r) (y63 r) (y64 r)
def k35_7 : KF := fun c i x r h => (fun (x0 x1 x2 x3 : AV) =>
 tR (ix 3 x1 x3 h) fun v4 h5 =>
 tR (o_ldn 3 (.c v4) .nil h5) fun v6 h7 =>
 tR (o_alloc 153 3 (.k1 (.mk (.str []) .nils (.bool false) .undef .undef .undef .undef .undef .undef .undef .undef .undef .undef .undef .undef .undef)) .nil h7) fun v8 h9 =>
 tR (o_stn 3 (.c v8) (.c v6) .nil h9) fun v10 h11 =>
 tR (fa 0 v8 h11) fun v12 h13 =>
 tR (ld v12 h13) fun v14 h15 =>
 tT (c 62 [x0,v14] h15) fun v16 h17 =>
 tR (fa 1 v8 h17) fun v18 h19 =>
 tR (ld v18 h19) fun v20 h21 =>
 tR (len v20 h21) fun v22 h23 =>
 tT (c 63 [x0,v22] h23) fun v24 h25 =>
 x (T62 x0 v8 x1 x2 x3) h25) (y3 r) (y62 r) (y63 r) (y64 r)
def k35_11 : KF := fun c i x r h => (fun (x0 x1 x2 x3 : AV) =>
 tR (b_add x3 (pi 1) h) fun v4 h5 =>
 .nm (T61 x0 x1 x2 v4) h5) (y3 r) (y62 r) (y63 r) (y64 r)
def k35_6 : KF := fun c i x r h => (fun (x0 x1 x2 x3 : AV) =>
 tR (b_lt x3 x2 h) fun v4 h5 =>
 ifR v4 (x (T61 x0 x1 x2 x3) h5) (.ex 2 (T32 x0) h5)) (y3 r) (y62 r) (y63 r) (y64 r)
def k35_5 : KF := fun c i x r h => (fun (x0 x1 : AV) =>
 tR (fa 6 x0 h) fun v2 h3 =>
 tR (ld v2 h3) fun v4 h5 =>
 tR (len v4 h5) fun v6 h7 =>
 x (T61 x1 v4 v6 (pi 0)) h7) (y1 r) (y3 r)
def k35_12 : KF := fun c i x r h => (fun (x0 : AV) =>
 tT (c 53 [x0] h) fun v1 h2 =>
 .ret (T23 v1) h2) (y3 r)
def k35_4 : KF := fun c i x r h => (fun (x0 x1 : AV) =>
 tR (fa 6 x0 h) fun v2 h3 =>
 tR (ld v2 h3) fun v4 h5 =>
 tR (len v4 h5) fun v6 h7 =>
 tT (c 63 [x1,v6] h7) fun v8 h9 =>
 x (T59 x0 x1) h9) (y1 r) (y3 r)
def k35_1 : KF := fun c i x r h => (fun (x0 x1 : AV) =>
 tR (fa 3 x0 h) fun v2 h3 =>
 tR (ld v2 h3) fun v4 h5 =>
 tT (c 62 [x1,v4] h5) fun v6 h7 =>
 tR (fa 4 x0 h7) fun v8 h9 =>
 tR (ld v8 h9) fun v10 h11 =>
 tT (c 62 [x1,v10] h11) fun v12 h13 =>
 tR (fa 5 x0 h13) fun v14 h15 =>
 tR (ld v14 h15) fun v16 h17 =>
 tR (len v16 h17) fun v18 h19 =>
 tT (c 63 [x1,v18] h19) fun v20 h21 =>
 x (T59 x0 x1) h21) (y1 r) (y3 r)
def k35_0 : KF := fun c i x r h => (fun (x0 : AV) =>
 tR (o_box 30 (.c x0) .nil h) fun v1 h2 =>
 tR (o_ldn 7 (.c v1) .nil h2) fun v3 h4 =>
 tT (c 61 [v3] h4) fun v5 h6 =>
 tR (u_not v5 h6) fun v7 h8 =>
 ifR v7 (.ret (T23 .nils) h8) (tT (c 51 [] h8) fun v9 h10 =>
 tR (fa 0 v1 h10) fun v11 h12 =>
 tR (ld v11 h12) fun v13 h14 =>
 tT (c 52 [v9,v13] h14) fun v15 h16 =>
 tR (fa 1 v1 h16) fun v17 h18 =>
 tR (ld v17 h18) fun v19 h20 =>
 tT (c 52 [v9,v19] h20) fun v21 h22 =>
 tR (fa 2 v1 h22) fun v23 h24 =>
 tR (ld v23 h24) fun v25 h26 =>
 tT (c 52 [v9,v25] h26) fun v27 h28 =>
 x (T59 v1 v9) h28)) (y0 r)
def x35 : AC := (.shal k35_0 (.shal k35_1 (.seq (.shal k35_2 (.block 0 (.loop (.shal k35_3 .skip)))) (.shal k35_4 (.seq (.shal k35_5 (.block 2 (.loop (.shal k35_6 (.seq (.block 3 (.shal k35_7 (.seq (.shal k35_8 (.block 4 (.loop (.shal k35_9 .skip)))) (.shal k35_10 .skip)))) (.shal k35_11 .skip)))))) (.shal k35_12 .skip))))))
def z35 : List Rs := [.t .h0 .h2]
def f35 : AF := .mk x35 z35
def k36_2 : KF := fun c i x r h => (fun (x0 x1 x2 x3 x4 : AV) =>
 tR (b_lt x4 x3 h) fun v5 h6 =>
 ifR v5 (tR (ix 3 x2 x4 h6) fun v7 h8 =>
 tR (fa 1 v7 h8) fun v9 h10 =>
 tR (ld v9 h10) fun v11 h12 =>
 tT (c 66 [v11] h12) fun v13 h14 =>
 tR (ix 3 x2 x4 h14) fun v15 h16 =>
 tR (fa 1 v15 h16) fun v17 h18 =>
 tR (sto v17 v13 h18) fun v19 h20 =>
 tR (b_add x4 (pi 1) h20) fun v21 h22 =>
 .nm (T65 x0 x1 x2 x3 v21) h22) (.ex 0 (T65 x0 x1 x2 x3 x4) h6)) (y1 r) (y2 r) (y3 r) (y16 r) (y17 r)
def k36_1 : KF := fun c i x r h => (fun (x0 x1 x2 : AV) =>
 tR (len x2 h) fun v3 h4 =>
 x (T65 x0 x1 x2 v3 (pi 0)) h4) (y1 r) (y2 r) (y3 r)
def k36_3 : KF := fun c i x r h => (fun (x0 x1 x2 : AV) =>
 tR (fa 5 x0 h) fun v3 h4 =>
 tR (fa 6 v3 h4) fun v5 h6 =>
 tR (sto v5 x2 h6) fun v7 h8 =>
 tR (o_ldn 12 (.c x0) .nil h8) fun v9 h10 =>
 tR (o_stn 12 (.c x1) (.c v9) .nil h10) fun v11 h12 =>
 .ret (T23 x1) h12) (y1 r) (y2 r) (y3 r)
def k36_0 : KF := fun c i x r h => (fun (x0 : AV) =>
 tR (o_box 41 (.c x0) .nil h) fun v1 h2 =>
 tR (o_alloc 41 12 (.k1 (.mk (pi 0) (pi 0) (pi 0) (pi 0) (.str []) (pi 0) (pi 0) (pi 0) (.str []) (.str []) .nils .nils .undef .undef .undef .undef)) .nil h2) fun v3 h4 =>
 tR (fa 5 v1 h4) fun v5 h6 =>
 tR (fa 5 v5 h6) fun v7 h8 =>
 tR (ld v7 h8) fun v9 h10 =>
 tT (c 64 [v9] h10) fun v11 h12 =>
 tR (fa 5 v1 h12) fun v13 h14 =>
 tR (fa 5 v13 h14) fun v15 h16 =>
 tR (sto v15 v11 h16) fun v17 h18 =>
 tR (fa 5 v1 h18) fun v19 h20 =>
 tR (fa 6 v19 h20) fun v21 h22 =>
 tR (ld v21 h22) fun v23 h24 =>
 tT (c 65 [v23] h24) fun v25 h26 =>
 x (T64 v1 v3 v25) h26) (y0 r)
def x36 : AC := (.shal k36_0 (.seq (.shal k36_1 (.block 0 (.loop (.shal k36_2 .skip)))) (.shal k36_3 .skip)))
def z36 : List Rs := [.agg 12 .h0 .h2]
def f36 : AF := .mk x36 z36
def k37_0 : KF := fun c i x r h => (fun (x0 : AV) =>
 tT (c 67 [x0] h) fun v1 h2 =>
 .ret (T23 v1) h2) (y0 r)
def x37 : AC := (.shal k37_0 .skip)
def z37 : List Rs := [.t .h0 .h2]
def f37 : AF := .mk x37 z37
def k38_3 : KF := fun c i x r h => (fun (x0 x1 x2 x3 x4 : AV) =>
 tR (b_lt x4 x3 h) fun v5 h6 =>
 ifR v5 (tR (ix 1 x2 x4 h6) fun v7 h8 =>
 tR (ld v7 h8) fun v9 h10 =>
 tT (c 27 [x1] h10) fun v11 h12 =>
 tT (c 71 [x1,v11,v9] h12) fun v13 h14 =>
 tR (b_add x4 (pi 1) h14) fun v15 h16 =>
 .nm (T67 x0 x1 x2 x3 v15) h16) (.ex 0 (T67 x0 x1 x2 x3 x4) h6)) (y0 r) (y4 r) (y50 r) (y51 r) (y52 r)
def k38_2 : KF := fun c i x r h => (fun (x0 x1 x2 : AV) =>
 tR (len x2 h) fun v3 h4 =>
 x (T67 x0 x1 x2 v3 (pi 0)) h4) (y0 r) (y4 r) (y8 r)
def k38_7 : KF := fun c i x r h => (fun (x0 x1 x2 x3 x4 x5 : AV) =>
 ifR x5 (.ex 3 (T69 x0 x1 x2 x3 x4) h) (.nm (T69 x0 x1 x2 x3 x4) h)) (y0 r) (y4 r) (y11 r) (y12 r) (y62 r) (y80 r)
def k38_9 : KF := fun c i x r h => (fun (x0 x1 x2 x3 x4 x5 x6 : AV) =>
 ifR x6 (tR (nic x3 h) fun v7 h8 =>
 tR (fa 0 v7 h8) fun v9 h10 =>
 tR (sto v9 (.bool false) h10) fun v11 h12 =>
 tQ (nic x3 h12) fun v13 =>
 tQ (fa 3 v13 h12) fun v14 =>
 tQ (o_ldn 12 (.c v14) .nil h12) fun v15 =>
 tQ (o_ldn 3 (.c x4) .nil h12) fun v16 =>
 tX (c 34 [x0,(pi 2),x2,v15,v16,.nils] h12) fun v17 h18 =>
 .nm (T68 x0 x1 x5) h18) (.nm (T68 x0 x1 x5) h)) (y0 r) (y4 r) (y11 r) (y12 r) (y13 r) (y62 r) (y91 r)
def k38_8 : KF := fun c i x r h => (fun (x0 x1 x2 x3 x4 : AV) =>
 tR (nic x3 h) fun v5 h6 =>
 tR (fa 2 v5 h6) fun v7 h8 =>
 tR (ld v7 h8) fun v9 h10 =>
 tT (c 72 [x1,x2,v9] h10) fun v11 h12 =>
 tR (o_ext 0 (.c v11) .nil h12) fun v13 h14 =>
 tR (o_ext 1 (.c v11) .nil h14) fun v15 h16 =>
 tR (o_alloc 24 3 (.k1 (.mk (pi 0) (pi 0) (.str []) .undef .undef .undef .undef .undef .undef .undef .undef .undef .undef .undef .undef .undef)) .nil h16) fun v17 h18 =>
 tR (o_stn 3 (.c v17) (.c v13) .nil h18) fun v19 h20 =>
 x (T70 x0 x1 x2 x3 v17 x4 v15) h20) (y0 r) (y4 r) (y11 r) (y12 r) (y62 r)
def k38_6 : KF := fun c i x r h => (fun (x0 x1 x2 : AV) =>
 tR (nic x0 h) fun v3 h4 =>
 tR (fa 4 v3 h4) fun v5 h6 =>
 tR (o_ixa 16 18 (.c v5) (.c x2) .nil h6) fun v7 h8 =>
 x (T69 x0 x1 x2 v7 x2) h8) (y0 r) (y4 r) (y62 r)
def k38_10 : KF := fun c i x r h => (fun (x0 x1 x2 : AV) =>
 tR (b_add x2 (pi 1) h) fun v3 h4 =>
 .nm (T68 x0 x1 v3) h4) (y0 r) (y4 r) (y62 r)
def k38_5 : KF := fun c i x r h => (fun (x0 x1 x2 : AV) =>
 tR (b_lt x2 (pi 16) h) fun v3 h4 =>
 ifR v3 (x (T68 x0 x1 x2) h4) (.ex 2 T38 h4)) (y0 r) (y4 r) (y62 r)
def k38_4 : KF := fun c i x r h => (fun (x0 x1 : AV) =>
 x (T68 x0 x1 (pi 0)) h) (y0 r) (y4 r)
def k38_1 : KF := fun c i x r h => (fun (x0 x1 x2 : AV) =>
 tR (nic x0 h) fun v3 h4 =>
 tR (fa 0 v3 h4) fun v5 h6 =>
 tR (ld v5 h6) fun v7 h8 =>
 tT (c 68 [v7,x1] h8) fun v9 h10 =>
 tR (o_ext 0 (.c v9) .nil h10) fun v11 h12 =>
 tR (o_ext 1 (.c v9) .nil h12) fun v13 h14 =>
 tT (c 27 [x2] h14) fun v15 h16 =>
 tR (b_gt v11 v15 h16) fun v17 h18 =>
 ifR v17 (tT (c 69 [x2,v11,v13] h18) fun v19 h20 =>
 x (T66 x0 x1 x2) h20) (x (T66 x0 x1 x2) h18)) (y0 r) (y1 r) (y4 r)
def k38_0 : KF := fun c i x r h => (fun (x0 x1 : AV) =>
 tR (nic x0 h) fun v2 h3 =>
 tR (fa 2 v2 h3) fun v4 h5 =>
 tR (ld v4 h5) fun v6 h7 =>
 tR (ix 1 v6 x1 h7) fun v8 h9 =>
 tR (ld v8 h9) fun v10 h11 =>
 x (T66 x0 x1 v10) h11) (y0 r) (y1 r)
def x38 : AC := (.shal k38_0 (.shal k38_1 (.seq (.drw [q 0 (m d45 r4),
 w (.o d46 (.call 27 [r45])),
 q 1 (m d40 r0),
 q 1 (o d41 (.nilc r40)),
 q 1 (o d42 (.fad 0 r41)),
 q 1 (o d43 (.ld1 r42)),
 q 1 (m d44 r1),
 w (.o d47 (.call 70 [r43,r44,r46])),
 q 0 (m d39 r47),
 q 0 (o d48 (.ext 0 r39)),
 q 0 (o d49 (.ext 1 r39)),
 q 0 (m d7 r48),
 q 0 (m d8 r49)]) (.seq (.shal k38_2 (.block 0 (.loop (.shal k38_3 .skip)))) (.shal k38_4 (.block 2 (.loop (.shal k38_5 (.seq (.block 3 (.shal k38_6 (.seq (.seq (.ops [m d70 r12,
 o d71 (.nilc r70),
 o d72 (.fad 0 r71),
 o d73 (.ld1 r72),
 o d74 (.un .not r73),
 m d75 r74,
 .g .h4 .hb false d76 (.op (.mv r12)),
 .g .h4 .hb false d77 (.op (.nilc r76)),
 .g .h4 .hb false d78 (.op (.fad 1 r77)),
 .g .h4 .hb false d79 (.op (.ld1 r78)),
 o d80 (.pick r75 (.c (.bool true)) r79)]) (.shal k38_7 .skip)) (.shal k38_8 (.shal k38_9 .skip))))) (.shal k38_10 .skip))))))))))
def z38 : List Rs := []
def f38 : AF := .mk x38 z38
def k39_3 : KF := fun c i x r h => (fun (x0 x1 x2 x3 x4 x5 : AV) =>
 ifR x5 (.ex 1 (T71 x0 x1 x2 x3 x4) h) (.nm (T71 x0 x1 x2 x3 x4) h)) (y0 r) (y3 r) (y4 r) (y5 r) (y9 r) (y46 r)
def k39_6 : KF := fun c i x r h => (fun (x0 x1 x2 x3 x4 x5 x6 : AV) =>
 tQ (nic x3 h) fun v7 =>
 tQ (fa 3 v7 h) fun v8 =>
 tQ (o_ldn 12 (.c v8) .nil h) fun v9 =>
 tQ (o_ldn 3 (.c x5) .nil h) fun v10 =>
 tX (c 34 [x0,(pi 2),x2,v9,v10,x4] h) fun v11 h12 =>
 .nm (T24 x0 x1 x6) h12) (y0 r) (y3 r) (y4 r) (y5 r) (y6 r) (y8 r) (y9 r)
def k39_5 : KF := fun c i x r h => (fun (x0 x1 x2 x3 x4 x5 x6 : AV) =>
 tR (o_build [(pi 0),(pi 0),(.str [])] [] .nil h) fun v7 h8 =>
 tR (o_alloc 24 3 (.k1 (.mk (pi 0) (pi 0) (.str []) .undef .undef .undef .undef .undef .undef .undef .undef .undef .undef .undef .undef .undef)) .nil h8) fun v9 h10 =>
 tR (o_stn 3 (.c v9) (.c v7) .nil h10) fun v11 h12 =>
 tR (u_not x5 h12) fun v13 h14 =>
 ifR v13 (tR (fa 0 v9 h14) fun v15 h16 =>
 tR (sto v15 (pi 20) h16) fun v17 h18 =>
 x (T73 x0 x1 x2 x3 x4 v9 x6) h18) (x (T73 x0 x1 x2 x3 x4 v9 x6) h14)) (y0 r) (y3 r) (y4 r) (y5 r) (y6 r) (y7 r) (y9 r)
def k39_4 : KF := fun c i x r h => (fun (x0 x1 x2 x3 x4 : AV) =>
 tR (nic x3 h) fun v5 h6 =>
 tR (fa 0 v5 h6) fun v7 h8 =>
 tR (sto v7 (.bool false) h8) fun v9 h10 =>
 tQ (nic x0 h10) fun v11 =>
 tQ (fa 2 v11 h10) fun v12 =>
 tQ (ld v12 h10) fun v13 =>
 tQ (fa 1 x1 h10) fun v14 =>
 tQ (ld v14 h10) fun v15 =>
 tQ (ix 1 v13 v15 h10) fun v16 =>
 tQ (ld v16 h10) fun v17 =>
 tQ (nic x3 h10) fun v18 =>
 tQ (fa 3 v18 h10) fun v19 =>
 tQ (fa 4 v19 h10) fun v20 =>
 tQ (ld v20 h10) fun v21 =>
 tX (c 73 [v17,v21] h10) fun v22 h23 =>
 tQ (o_ext 0 (.c v22) .nil h23) fun v24 =>
 tQ (o_ext 1 (.c v22) .nil h23) fun v25 =>
 x (T72 x0 x1 x2 x3 v24 v25 x4) h23) (y0 r) (y3 r) (y4 r) (y5 r) (y9 r)
def k39_2 : KF := fun c i x r h => (fun (x0 x1 x2 : AV) =>
 tR (nic x0 h) fun v3 h4 =>
 tR (fa 4 v3 h4) fun v5 h6 =>
 tR (o_ixa 16 18 (.c v5) (.c x2) .nil h6) fun v7 h8 =>
 x (T71 x0 x1 x2 v7 x2) h8) (y0 r) (y3 r) (y9 r)
def k39_7 : KF := fun c i x r h => (fun (x0 x1 x2 : AV) =>
 tR (b_add x2 (pi 1) h) fun v3 h4 =>
 .nm (T24 x0 x1 v3) h4) (y0 r) (y3 r) (y9 r)
def k39_1 : KF := fun c i x r h => (fun (x0 x1 x2 : AV) =>
 tR (b_lt x2 (pi 16) h) fun v3 h4 =>
 ifR v3 (x (T24 x0 x1 x2) h4) (.ex 0 T38 h4)) (y0 r) (y3 r) (y9 r)
def k39_0 : KF := fun c i x r h => (fun (x0 x1 : AV) =>
 tR (o_box 106 (.c x1) .nil h) fun v2 h3 =>
 x (T24 x0 v2 (pi 0)) h3) (y0 r) (y1 r)
def x39 : AC := (.shal k39_0 (.block 0 (.loop (.shal k39_1 (.seq (.block 1 (.shal k39_2 (.seq (.seq (.drw [q 0 (m d17 r5),
 q 0 (o d18 (.nilc r17)),
 q 0 (o d19 (.fad 0 r18)),
 q 0 (o d20 (.ld1 r19)),
 q 0 (o d21 (.un .not r20)),
 q 0 (m d22 r21),
 q 0 (.g .h1 .h6 false d23 (.op (.mv r5))),
 q 0 (.g .h1 .h6 false d24 (.op (.nilc r23))),
 q 0 (.g .h1 .h6 false d25 (.op (.fad 1 r24))),
 q 0 (.g .h1 .h6 false d26 (.op (.ld1 r25))),
 q 0 (.g .h1 .h6 false d27 (.op (.un .not r26))),
 q 0 (o d28 (.pick r22 (.c (.bool true)) r27)),
 q 0 (m d29 r28),
 q 0 (.g .h1 .hd false d30 (.op (.mv r5))),
 q 0 (.g .h1 .hd false d31 (.op (.nilc r30))),
 q 0 (.g .h1 .hd false d32 (.op (.fad 16 r31))),
 q 0 (.g .h1 .hd false d33 (.op (.ld1 r32))),
 q 0 (.g .h1 .hd false d34 (.op (.fad 1 r3))),
 q 0 (.g .h1 .hd false d35 (.op (.ld1 r34))),
 q 0 (.g .h1 .hd false d36 (.op (.bin .ne r33 r35))),
 q 0 (o d37 (.pick r29 (.c (.bool true)) r36)),
 q 0 (m d38 r37),
 q 0 (.g .h2 .h6 false d39 (.op (.mv r5))),
 q 0 (.g .h2 .h6 false d40 (.op (.nilc r39))),
 q 0 (.g .h2 .h6 false d41 (.op (.fad 15 r40))),
 q 0 (.g .h2 .h6 false d42 (.op (.ld1 r41))),
 q 0 (.g .h2 .h6 false d43 (.op (.fad 2 r3))),
 q 0 (.g .h2 .h6 false d44 (.op (.ld1 r43))),
 q 0 (.g .h2 .h6 false d45 (.op (.bin .sne r42 r44))),
 q 0 (o d46 (.pick r38 (.c (.bool true)) r45))]) (.shal k39_3 .skip)) (.shal k39_4 (.shal k39_5 (.shal k39_6 .skip)))))) (.shal k39_7 .skip))))))
def z39 : List Rs := []
def f39 : AF := .mk x39 z39
def k40_0 : KF := fun c i x r h => (fun (x0 x1 x2 x3 : AV) =>
 tT (c 50 [x0,x1] h) fun v4 h5 =>
 ifR v4 (tR (nic x0 h5) fun v6 h7 =>
 tR (fa 1 v6 h7) fun v8 h9 =>
 tR (ld v8 h9) fun v10 h11 =>
 tR (ix 1 v10 x1 h11) fun v12 h13 =>
 tR (ld v12 h13) fun v14 h15 =>
 tT (c 74 [v14,x2,x3] h15) fun v16 h17 =>
 .nm T38 h17) (.nm T38 h5)) (y0 r) (y1 r) (y2 r) (y3 r)
def x40 : AC := (.shal k40_0 .skip)
def z40 : List Rs := []
def f40 : AF := .mk x40 z40
def k41_2 : KF := fun c i x r h => (fun (x0 x1 : AV) =>
 tQ (nic x0 h) fun v2 =>
 tQ (fa 1 v2 h) fun v3 =>
 tQ (ld v3 h) fun v4 =>
 tQ (fa 1 x1 h) fun v5 =>
 tQ (ld v5 h) fun v6 =>
 tQ (ix 1 v4 v6 h) fun v7 =>
 tQ (ld v7 h) fun v8 =>
 tQ (nic v8 h) fun v9 =>
 tQ (fa 4 v9 h) fun v10 =>
 tQ (ld v10 h) fun v11 =>
 ifR v11 (tQ (nic x0 h) fun v12 =>
 tQ (fa 1 v12 h) fun v13 =>
 tQ (ld v13 h) fun v14 =>
 tQ (fa 1 x1 h) fun v15 =>
 tQ (ld v15 h) fun v16 =>
 tQ (ix 1 v14 v16 h) fun v17 =>
 tQ (ld v17 h) fun v18 =>
 tQ (o_ldn 3 (.c x1) .nil h) fun v19 =>
 tX (c 77 [v18,v19] h) fun v20 h21 =>
 x (T22 (.bool true)) h21) (x (T22 (.bool true)) h)) (y0 r) (y6 r)
def k41_1 : KF := fun c i x r h => (fun (x0 x1 x2 : AV) =>
 tR (nic x0 h) fun v3 h4 =>
 tR (fa 0 v3 h4) fun v5 h6 =>
 tR (ld v5 h6) fun v7 h8 =>
 tR (b_add x1 (pi 1) h8) fun v9 h10 =>
 tT (c 76 [v7,x1,v9] h10) fun v11 h12 =>
 tR (nic x0 h12) fun v13 h14 =>
 tR (fa 0 v13 h14) fun v15 h16 =>
 tR (sto v15 v11 h16) fun v17 h18 =>
 x (T8 x0 x2) h18) (y0 r) (y5 r) (y6 r)
def k41_0 : KF := fun c i x r h => (fun (x0 x1 : AV) =>
 tT (c 75 [x0,x1] h) fun v2 h3 =>
 tR (b_lt v2 (pi 0) h3) fun v4 h5 =>
 ifR v4 (.ret (T22 (.bool false)) h5) (tR (nic x0 h5) fun v6 h7 =>
 tR (fa 0 v6 h7) fun v8 h9 =>
 tR (ld v8 h9) fun v10 h11 =>
 tR (ix 3 v10 v2 h11) fun v12 h13 =>
 tR (o_ldn 3 (.c v12) .nil h13) fun v14 h15 =>
 tR (o_alloc 172 3 (.k1 (.mk (pi 0) (pi 0) .nils .undef .undef .undef .undef .undef .undef .undef .undef .undef .undef .undef .undef .undef)) .nil h15) fun v16 h17 =>
 tR (o_stn 3 (.c v16) (.c v14) .nil h17) fun v18 h19 =>
 x (T74 x0 v2 v16) h19)) (y0 r) (y1 r)
def x41 : AC := (.shal k41_0 (.shal k41_1 (.shal k41_2 .ret)))
def z41 : List Rs := [.t .h0 .h4]
def f41 : AF := .mk x41 z41
def k44_0 : KF := fun c i x r h => (fun (x0 x1 x2 x3 : AV) =>
 ifR x3 (tR (nic x0 h) fun v4 h5 =>
 tR (fa 1 v4 h5) fun v6 h7 =>
 tR (ld v6 h7) fun v8 h9 =>
 tR (ix 1 v8 x1 h9) fun v10 h11 =>
 tR (ld v10 h11) fun v12 h13 =>
 tT (c 80 [v12,x2] h13) fun v14 h15 =>
 .nm T38 h15) (.nm T38 h)) (y0 r) (y1 r) (y2 r) (y16 r)
def x44 : AC := (.seq (.ops [m d6 r0,
 m d7 r1,
 .o d8 (.call 79 [r6,r7]),
 m d9 r8,
 .g .h0 .h9 true d10 (.op (.mv r2)),
 .g .h0 .h9 true d11 (.op (.bin .ge r10 a1)),
 o d12 (.pick r9 r11 (.c (.bool false))),
 m d13 r12,
 .g .h0 .hd true d14 (.op (.mv r2)),
 .g .h0 .hd true d15 (.op (.bin .le r14 (.c (pi 1000)))),
 o d16 (.pick r13 r15 (.c (.bool false)))]) (.shal k44_0 .skip))
def z44 : List Rs := []
def f44 : AF := .mk x44 z44
def k45_1 : KF := fun c i x r h => (fun (x0 x1 x2 x3 : AV) =>
 ifR x3 (tR (nic x0 h) fun v4 h5 =>
 tR (fa 1 v4 h5) fun v6 h7 =>
 tR (ld v6 h7) fun v8 h9 =>
 tR (ix 1 v8 x1 h9) fun v10 h11 =>
 tR (ld v10 h11) fun v12 h13 =>
 tR (nic v12 h13) fun v14 h15 =>
 tR (fa 4 v14 h15) fun v16 h17 =>
 tR (sto v16 (.bool false) h17) fun v18 h19 =>
 tR (nic v12 h19) fun v20 h21 =>
 tR (fa 17 v20 h21) fun v22 h23 =>
 tR (sto v22 .nils h23) fun v24 h25 =>
 tR (nic v12 h25) fun v26 h27 =>
 tR (fa 2 v26 h27) fun v28 h29 =>
 tR (ld v28 h29) fun v30 h31 =>
 tT (c 81 [v30,x2] h31) fun v32 h33 =>
 .nm T38 h33) (.nm T38 h)) (y0 r) (y1 r) (y2 r) (y9 r)
def k45_0 : KF := fun c i x r h => (fun (x0 x1 x2 : AV) =>
 tT (c 50 [x0,x1] h) fun v3 h4 =>
 x (T75 x0 x1 x2 v3) h4) (y0 r) (y1 r) (y2 r)
def x45 : AC := (.shal k45_0 (.shal k45_1 .skip))
def z45 : List Rs := []
def f45 : AF := .mk x45 z45
def k46_1 : KF := fun c i x r h => (fun (x0 x1 x2 : AV) =>
 ifR x2 (.ret (T22 (.bool false)) h) (.nm (T50 x0 x1) h)) (y0 r) (y1 r) (y20 r)
def k46_2 : KF := fun c i x r h => (fun (x0 x1 : AV) =>
 tR (nic x0 h) fun v2 h3 =>
 tR (fa 1 v2 h3) fun v4 h5 =>
 tR (ld v4 h5) fun v6 h7 =>
 tR (ix 1 v6 x1 h7) fun v8 h9 =>
 tR (ld v8 h9) fun v10 h11 =>
 tT (c 57 [v10,(.bool true)] h11) fun v12 h13 =>
 .ret (T22 (.bool true)) h13) (y0 r) (y1 r)
def k46_0 : KF := fun c i x r h => (fun (x0 x1 : AV) =>
 x (T50 x0 x1) h) (y0 r) (y1 r)
def x46 : AC := (.shal k46_0 (.seq (.seq (.ops [m d5 r0,
 m d6 r1,
 .o d7 (.call 79 [r5,r6]),
 o d8 (.un .not r7),
 m d9 r8,
 .g .h0 .h9 false d10 (.op (.mv r0)),
 .g .h0 .h9 false d11 (.op (.nilc r10)),
 .g .h0 .h9 false d12 (.op (.fad 1 r11)),
 .g .h0 .h9 false d13 (.op (.ld1 r12)),
 .g .h0 .h9 false d14 (.op (.mv r1)),
 .g .h0 .h9 false d15 (.op (.ixs 1 r13 r14)),
 .g .h0 .h9 false d16 (.op (.ld1 r15)),
 .g .h0 .h9 false d17 (.op (.nilc r16)),
 .g .h0 .h9 false d18 (.op (.fad 4 r17)),
 .g .h0 .h9 false d19 (.op (.ld1 r18)),
 o d20 (.pick r9 (.c (.bool true)) r19)]) (.shal k46_1 .skip)) (.shal k46_2 .skip)))
def z46 : List Rs := [.t .h0 .h4]
def f46 : AF := .mk x46 z46
def k48_0 : KF := fun c i x r h => (fun (x0 : AV) =>
 tR (nic x0 h) fun v1 h2 =>
 tR (fa 1 v1 h2) fun v3 h4 =>
 tR (ld v3 h4) fun v5 h6 =>
 tR (nic v5 h6) fun v7 h8 =>
 tR (fa 15 v7 h8) fun v9 h10 =>
 tR (ld v9 h10) fun v11 h12 =>
 tR (nic x0 h12) fun v13 h14 =>
 tR (fa 1 v13 h14) fun v15 h16 =>
 tR (ld v15 h16) fun v17 h18 =>
 tR (nic v17 h18) fun v19 h20 =>
 tR (fa 15 v19 h20) fun v21 h22 =>
 tR (sto v21 .nils h22) fun v23 h24 =>
 .ret (T23 v11) h24) (y0 r)
def x48 : AC := (.shal k48_0 .skip)
def z48 : List Rs := [.t .h0 .h2]
def f48 : AF := .mk x48 z48
def k49_0 : KF := fun c i x r h => (fun (x0 x1 : AV) =>
 tR (o_box 62 (.c x1) .nil h) fun v2 h3 =>
 x (T11 x0 v2) h3) (y0 r) (y1 r)
def x49 : AC := (.shal k49_0 (.seq (.drw [q 0 (o d5 (.fad 16 r3)),
 q 0 (o d6 (.ld1 r5)),
 q 0 (o d7 (.bin .lt r6 a0)),
 q 0 (m d8 r7),
 q 0 (.g .h0 .h8 false d9 (.op (.mv r0))),
 q 0 (.g .h0 .h8 false d10 (.op (.nilc r9))),
 q 0 (.g .h0 .h8 false d11 (.op (.fad 0 r10))),
 q 0 (.g .h0 .h8 false d12 (.op (.ld1 r11))),
 q 0 (.g .h0 .h8 false d13 (.op (.fad 16 r3))),
 q 0 (.g .h0 .h8 false d14 (.op (.ld1 r13))),
 w (.g .h0 .h8 false d15 (.call 26 [r12,r14])),
 q 0 (.g .h0 .h8 false d16 (.op (.un .not r15))),
 q 0 (o d17 (.pick r8 (.c (.bool true)) r16)),
 q 0 (m d18 r17),
 q 0 (.g .h1 .h2 false d19 (.op (.mv r0))),
 q 0 (.g .h1 .h2 false d20 (.op (.nilc r19))),
 q 0 (.g .h1 .h2 false d21 (.op (.fad 3 r20))),
 q 0 (.g .h1 .h2 false d22 (.op (.ld1 r21))),
 q 0 (.g .h1 .h2 false d23 (.op (.fad 16 r3))),
 q 0 (.g .h1 .h2 false d24 (.op (.ld1 r23))),
 q 0 (.g .h1 .h2 false d25 (.op (.ixs 1 r22 r24))),
 q 0 (.g .h1 .h2 false d26 (.op (.ld1 r25))),
 q 0 (.g .h1 .h2 false d27 (.op (.fad 17 r3))),
 q 0 (.g .h1 .h2 false d28 (.op (.ld1 r27))),
 q 0 (.g .h1 .h2 false d29 (.op (.bin .ne r26 r28))),
 q 0 (o d30 (.pick r18 (.c (.bool true)) r29)),
 q 0 (m d4 r30)]) .ret))
def z49 : List Rs := [.t .h0 .h4]
def f49 : AF := .mk x49 z49
def k50_0 : KF := fun c i x r h => (fun (x0 x1 : AV) =>
 x (T50 x0 x1) h) (y0 r) (y1 r)
def x50 : AC := (.shal k50_0 (.seq (.ops [m d5 r0,
 m d6 r1,
 .o d7 (.call 79 [r5,r6]),
 m d8 r7,
 .g .h0 .h8 true d9 (.op (.mv r0)),
 .g .h0 .h8 true d10 (.op (.nilc r9)),
 .g .h0 .h8 true d11 (.op (.fad 1 r10)),
 .g .h0 .h8 true d12 (.op (.ld1 r11)),
 .g .h0 .h8 true d13 (.op (.mv r1)),
 .g .h0 .h8 true d14 (.op (.ixs 1 r12 r13)),
 .g .h0 .h8 true d15 (.op (.ld1 r14)),
 .g .h0 .h8 true d16 (.op (.nilc r15)),
 .g .h0 .h8 true d17 (.op (.fad 4 r16)),
 .g .h0 .h8 true d18 (.op (.ld1 r17)),
 o d19 (.pick r8 r18 (.c (.bool false))),
 m d4 r19]) .ret))
def z50 : List Rs := [.t .h0 .h4]
def f50 : AF := .mk x50 z50
def k51_0 : KF := fun c i x r h => tR (o_build [.nils] [] .nil h) fun v0 h1 =>
 tR (o_box 178 (.c v0) .nil h1) fun v2 h3 =>
 .ret (T1 v2) h3
def x51 : AC := (.shal k51_0 .skip)
def z51 : List Rs := [.t .h0 .h0]
def f51 : AF := .mk x51 z51
def k52_0 : KF := fun c i x r h => (fun (x0 x1 : AV) =>
 tR (cK (.toInt .u64) x1 h) fun v2 h3 =>
 tT (c 83 [x0,v2,(pi 8)] h3) fun v4 h5 =>
 .nm T38 h5) (y0 r) (y1 r)
def x52 : AC := (.shal k52_0 .skip)
def z52 : List Rs := []
def f52 : AF := .mk x52 z52
def k53_0 : KF := fun c i x r h => (fun (x0 : AV) =>
 tR (nic x0 h) fun v1 h2 =>
 tR (fa 0 v1 h2) fun v3 h4 =>
 tR (ld v3 h4) fun v5 h6 =>
 tT (c 84 [v5] h6) fun v7 h8 =>
 .ret (T23 v7) h8) (y0 r)
def x53 : AC := (.shal k53_0 .skip)
def z53 : List Rs := [.t .h0 .h2]
def f53 : AF := .mk x53 z53
def k55_2 : KF := fun c i x r h => (fun (x0 x1 x2 x3 : AV) =>
 ifR x3 (tR (b_add x2 (pi 1) h) fun v4 h5 =>
 .go 0 (T53 x0 x1 v4) h5) (.nm (T53 x0 x1 x2) h)) (y0 r) (y1 r) (y6 r) (y19 r)
def k55_3 : KF := fun c i x r h => (fun (x0 x1 x2 x3 : AV) =>
 ifR x3 (tR (nic x0 h) fun v4 h5 =>
 tR (fa 0 v4 h5) fun v6 h7 =>
 tR (ld v6 h7) fun v8 h9 =>
 tT (c 90 [v8] h9) fun v10 h11 =>
 tR (b_add x2 (pi 1) h11) fun v12 h13 =>
 .go 0 (T53 x0 x1 v12) h13) (.nm (T53 x0 x1 x2) h)) (y0 r) (y1 r) (y6 r) (y31 r)
def k55_4 : KF := fun c i x r h => (fun (x0 x1 : AV) =>
 tT (c 48 [x0] h) fun v2 h3 =>
 .ret (T33 v2 x1) h3) (y0 r) (y6 r)
def k55_1 : KF := fun c i x r h => (fun (x0 x1 : AV) =>
 tR (maxV false [x1,(pi 0)] h) fun v2 h3 =>
 tR (maxV true [v2,(pi 20000)] h3) fun v4 h5 =>
 x (T53 x0 v4 (pi 0)) h5) (y0 r) (y1 r)
def k55_0 : KF := fun c i x r h => (fun (x0 x1 : AV) =>
 x (T50 x0 x1) h) (y0 r) (y1 r)
def x55 : AC := (.shal k55_0 (.scope (.shal k55_1 (.seq (.label 0) (.seq (.seq (.ops [m d10 r6,
 m d11 r1,
 o d12 (.bin .lt r10 r11),
 m d13 r12,
 .g .h0 .hd true d14 (.op (.mv r0)),
 .g .h0 .hd true d15 (.op (.nilc r14)),
 .g .h0 .hd true d16 (.op (.fad 0 r15)),
 .g .h0 .hd true d17 (.op (.ld1 r16)),
 .g .h0 .hd true d18 (.call 41 [r17,a0]),
 o d19 (.pick r13 r18 (.c (.bool false)))]) (.shal k55_2 .skip)) (.seq (.seq (.ops [m d22 r6,
 m d23 r1,
 o d24 (.bin .lt r22 r23),
 m d25 r24,
 .g .h1 .h9 true d26 (.op (.mv r0)),
 .g .h1 .h9 true d27 (.op (.nilc r26)),
 .g .h1 .h9 true d28 (.op (.fad 0 r27)),
 .g .h1 .h9 true d29 (.op (.ld1 r28)),
 .g .h1 .h9 true d30 (.call 89 [r29]),
 o d31 (.pick r25 r30 (.c (.bool false)))]) (.shal k55_3 .skip)) (.shal k55_4 .skip)))))))
def z55 : List Rs := [.t .h0 .h4,.t .h0 .h5]
def f55 : AF := .mk x55 z55
def k56_0 : KF := fun c i x r h => tR (o_build [.nils,(pi 0)] [] .nil h) fun v0 h1 =>
 tR (o_box 187 (.c v0) .nil h1) fun v2 h3 =>
 .ret (T1 v2) h3
def x56 : AC := (.shal k56_0 .skip)
def z56 : List Rs := [.t .h0 .h0]
def f56 : AF := .mk x56 z56
def k57_6 : KF := fun c i x r h => (fun (x0 x1 x2 x3 : AV) =>
 tR (b_lt x3 x2 h) fun v4 h5 =>
 ifR v4 (tR (ix 1 x1 x3 h5) fun v6 h7 =>
 tR (ld v6 h7) fun v8 h9 =>
 tT (c 98 [v8] h9) fun v10 h11 =>
 tT (c 97 [x0,v10] h11) fun v12 h13 =>
 tR (b_add x3 (pi 1) h13) fun v14 h15 =>
 .nm (T77 x0 x1 x2 v14) h15) (.ex 0 (T77 x0 x1 x2 x3) h5)) (y0 r) (y81 r) (y82 r) (y83 r)
def k57_5 : KF := fun c i x r h => (fun (x0 x1 : AV) =>
 tR (len x1 h) fun v2 h3 =>
 x (T77 x0 x1 v2 (pi 0)) h3) (y0 r) (y4 r)
def k57_9 : KF := fun c i x r h => (fun (x0 : AV) =>
 tT (c 100 [x0] h) fun v1 h2 =>
 .nm T38 h2) (y0 r)
def k57_8 : KF := fun c i x r h => (fun (x0 : AV) =>
 tQ (nic x0 h) fun v1 =>
 tQ (fa 0 v1 h) fun v2 =>
 tQ (ld v2 h) fun v3 =>
 tQ (nic v3 h) fun v4 =>
 tQ (fa 2 v4 h) fun v5 =>
 tQ (ld v5 h) fun v6 =>
 tQ (nic x0 h) fun v7 =>
 tQ (fa 1 v7 h) fun v8 =>
 tQ (ld v8 h) fun v9 =>
 tQ (nic x0 h) fun v10 =>
 tQ (fa 13 v10 h) fun v11 =>
 tQ (fa 1 v11 h) fun v12 =>
 tQ (ld v12 h) fun v13 =>
 tQ (nic x0 h) fun v14 =>
 tQ (fa 13 v14 h) fun v15 =>
 tQ (fa 3 v15 h) fun v16 =>
 tQ (ld v16 h) fun v17 =>
 tQ (nic v6 h) fun v18 =>
 tX (i 0 v6 [v9,v13,v17] h) fun v19 h20 =>
 x (T1 x0) h20) (y0 r)
def k57_7 : KF := fun c i x r h => (fun (x0 : AV) =>
 tR (nic x0 h) fun v1 h2 =>
 tR (fa 6 v1 h2) fun v3 h4 =>
 tR (ld v3 h4) fun v5 h6 =>
 tR (b_add v5 (pi 1) h6) fun v7 h8 =>
 tR (nic x0 h8) fun v9 h10 =>
 tR (fa 6 v9 h10) fun v11 h12 =>
 tR (sto v11 v7 h12) fun v13 h14 =>
 tT (c 99 [x0] h14) fun v15 h16 =>
 x (T1 x0) h16) (y0 r)
def k57_4 : KF := fun c i x r h => (fun (x0 : AV) =>
 tR (nic x0 h) fun v1 h2 =>
 tR (fa 2 v1 h2) fun v3 h4 =>
 tR (ld v3 h4) fun v5 h6 =>
 tT (c 96 [v5] h6) fun v7 h8 =>
 tT (c 95 [v7] h8) fun v9 h10 =>
 tR (o_ext 0 (.c v9) .nil h10) fun v11 h12 =>
 tR (o_ext 1 (.c v9) .nil h12) fun v13 h14 =>
 x (T76 x0 v11) h14) (y0 r)
def k57_3 : KF := fun c i x r h => (fun (x0 x1 : AV) =>
 tR (nic x0 h) fun v2 h3 =>
 tR (fa 3 v2 h3) fun v4 h5 =>
 tR (ld v4 h5) fun v6 h7 =>
 tR (nic x0 h7) fun v8 h9 =>
 tR (fa 19 v8 h9) fun v10 h11 =>
 tR (sto v10 (pi 0) h11) fun v12 h13 =>
 tR (nic x0 h13) fun v14 h15 =>
 tR (fa 22 v14 h15) fun v16 h17 =>
 tR (sto v16 (pi 0) h17) fun v18 h19 =>
 tR (nic x0 h19) fun v20 h21 =>
 tR (fa 23 v20 h21) fun v22 h23 =>
 tR (sto v22 v6 h23) fun v24 h25 =>
 tR (nic x0 h25) fun v26 h27 =>
 tR (fa 24 v26 h27) fun v28 h29 =>
 tR (sto v28 x1 h29) fun v30 h31 =>
 x (T1 x0) h31) (y0 r) (y1 r)
def k57_2 : KF := fun c i x r h => (fun (x0 x1 : AV) =>
 tR (o_build [(pi 0),(pi 0),.nilm,(.str [])] [] .nil h) fun v2 h3 =>
 tR (nic x0 h3) fun v4 h5 =>
 tR (fa 13 v4 h5) fun v6 h7 =>
 tR (o_stn 4 (.c v6) (.c v2) .nil h7) fun v8 h9 =>
 x (T50 x0 x1) h9) (y0 r) (y1 r)
def k57_1 : KF := fun c i x r h => (fun (x0 x1 : AV) =>
 tR (o_mkmap .nil h) fun v2 h3 =>
 tR (nic x0 h3) fun v4 h5 =>
 tR (fa 11 v4 h5) fun v6 h7 =>
 tR (sto v6 v2 h7) fun v8 h9 =>
 tR (nic x0 h9) fun v10 h11 =>
 tR (fa 17 v10 h11) fun v12 h13 =>
 tR (sto v12 .nils h13) fun v14 h15 =>
 tR (nic x0 h15) fun v16 h17 =>
 tR (fa 18 v16 h17) fun v18 h19 =>
 tR (sto v18 (pi 0) h19) fun v20 h21 =>
 tR (nic x0 h21) fun v22 h23 =>
 tR (fa 6 v22 h23) fun v24 h25 =>
 tR (sto v24 (pi 0) h25) fun v26 h27 =>
 tR (nic x0 h27) fun v28 h29 =>
 tR (fa 10 v28 h29) fun v30 h31 =>
 tR (sto v30 (pi 0) h31) fun v32 h33 =>
 tR (nic x0 h33) fun v34 h35 =>
 tR (fa 12 v34 h35) fun v36 h37 =>
 tR (sto v36 (pi 0) h37) fun v38 h39 =>
 x (T50 x0 x1) h39) (y0 r) (y1 r)
def k57_0 : KF := fun c i x r h => (fun (x0 x1 : AV) =>
 tR (nic x0 h) fun v2 h3 =>
 tR (fa 4 v2 h3) fun v4 h5 =>
 tR (sto v4 (.bool true) h5) fun v6 h7 =>
 x (T50 x0 x1) h7) (y0 r) (y1 r)
def x57 : AC := (.shal k57_0 (.seq (.drw [w (.o d14 (.call 91 [])),
 w (.o d15 (.call 92 [])),
 q 2 (m d20 r0),
 q 2 (o d21 (.nilc r20)),
 q 2 (o d22 (.fad 0 r21)),
 q 2 (o d23 (.ld1 r22)),
 w (.o d24 (.call 94 [r23])),
 q 3 (m d16 r0),
 q 3 (o d17 (.nilc r16)),
 q 3 (o d18 (.fad 1 r17)),
 q 3 (o d19 (.ld1 r18)),
 w (.o d25 (.call 93 [r19,r24])),
 q 4 (m d11 r0),
 q 0 (o d26 (.nilc r11)),
 q 0 (o d27 (.fad 7 r26)),
 w (o .no (.st1 r27 r14)),
 q 5 (m d12 r0),
 q 0 (o d28 (.nilc r12)),
 q 0 (o d29 (.fad 9 r28)),
 w (o .no (.st1 r29 r15)),
 q 6 (m d13 r0),
 q 0 (o d30 (.nilc r13)),
 q 0 (o d31 (.fad 8 r30)),
 w (o .no (.st1 r31 r25))]) (.shal k57_1 (.shal k57_2 (.shal k57_3 (.shal k57_4 (.seq (.shal k57_5 (.block 0 (.loop (.shal k57_6 .skip)))) (.shal k57_7 (.shal k57_8 (.shal k57_9 .skip))))))))))
def z57 : List Rs := []
def f57 : AF := .mk x57 z57
def k58_0 : KF := fun c i x r h => tR (o_build [.nils,.nils] [] .nil h) fun v0 h1 =>
 tR (o_box 200 (.c v0) .nil h1) fun v2 h3 =>
 .ret (T1 v2) h3
def x58 : AC := (.shal k58_0 .skip)
def z58 : List Rs := [.t .h0 .h0]
def f58 : AF := .mk x58 z58
def k59_0 : KF := fun c i x r h => tR (o_build [(pi 0),(pi 0),(pi 0),(.str []),(pi 0),(pi 0),(pi 0),(.str []),(pi 0),(pi 0),(pi 0),(.str []),(pi 0),(pi 0),(pi 0),(.str []),(pi 0),(pi 0),(pi 0),(.str []),(pi 0),(pi 0),(pi 0),(.str []),(pi 0),(pi 0),(pi 0),(.str []),(pi 0),(pi 0),(pi 0),(.str []),(pi 0),(pi 0),(pi 0),(.str []),(pi 0),(pi 0),(pi 0),(.str []),(pi 0),(pi 0),(pi 0),(.str []),(pi 0),(pi 0),(pi 0),(.str []),(pi 0),(pi 0),(pi 0),(.str []),(pi 0),(pi 0),(pi 0),(.str []),(pi 0),(pi 0),(pi 0),(.str []),(pi 0),(pi 0),(pi 0),(.str [])] [] .nil h) fun v0 h1 =>
 tR (o_box 205 (.c v0) .nil h1) fun v2 h3 =>
 .ret (T1 v2) h3
def x59 : AC := (.shal k59_0 .skip)
def z59 : List Rs := [.t .h0 .h0]
def f59 : AF := .mk x59 z59
def k60_2 : KF := fun c i x r h => (fun (x0 x1 x2 x3 : AV) =>
 tR (b_lt x3 x2 h) fun v4 h5 =>
 ifR v4 (tR (ix 2 x1 x3 h5) fun v6 h7 =>
 tR (o_ldn 2 (.c v6) .nil h7) fun v8 h9 =>
 tR (o_alloc 208 2 (.k1 (.mk .nils (.cplx .f64 0 0) .undef .undef .undef .undef .undef .undef .undef .undef .undef .undef .undef .undef .undef .undef)) .nil h9) fun v10 h11 =>
 tR (o_stn 2 (.c v10) (.c v8) .nil h11) fun v12 h13 =>
 tR (fa 0 v10 h13) fun v14 h15 =>
 tR (ld v14 h15) fun v16 h17 =>
 tR (fa 1 v10 h17) fun v18 h19 =>
 tR (ld v18 h19) fun v20 h21 =>
 tT (c 101 [v16,v20] h21) fun v22 h23 =>
 tR (o_bslice 208 2 1 [.nils,(.cplx .f64 0 0)] [.mk 0 2 (.c v22)] .nil h23) fun v24 h25 =>
 tR (appV 208 2 x0 v24 h25) fun v26 h27 =>
 tR (b_add x3 (pi 1) h27) fun v28 h29 =>
 .nm (T78 v26 x1 x2 v28) h29) (.ex 0 (T78 x0 x1 x2 x3) h5)) (y3 r) (y6 r) (y7 r) (y8 r)
def k60_1 : KF := fun c i x r h => (fun (x0 x1 : AV) =>
 tR (len x0 h) fun v2 h3 =>
 x (T78 x1 x0 v2 (pi 0)) h3) (y0 r) (y3 r)
def k60_3 : KF := fun c i x r h => (fun (x0 : AV) =>
 .ret (T23 x0) h) (y3 r)
def k60_0 : KF := fun c i x r h => (fun (x0 : AV) =>
 x (T11 x0 .nils) h) (y0 r)
def x60 : AC := (.shal k60_0 (.seq (.shal k60_1 (.block 0 (.loop (.shal k60_2 .skip)))) (.shal k60_3 .skip)))
def z60 : List Rs := [.t .h0 .h2]
def f60 : AF := .mk x60 z60
def k61_1 : KF := fun c i x r h => (fun (x0 x1 : AV) =>
 ifR x1 (.ret (T23 (.bool false)) h) (.nm (T31 x0) h)) (y1 r) (y36 r)
def k61_5 : KF := fun c i x r h => (fun (x0 x1 x2 x3 x4 : AV) =>
 ifR x4 (.ret (T23 (.bool false)) h) (.nm (T79 x0 x1 x2 x3) h)) (y1 r) (y38 r) (y39 r) (y40 r) (y55 r)
def k61_4 : KF := fun c i x r h => (fun (x0 x1 x2 x3 : AV) =>
 tR (ix 2 x1 x3 h) fun v4 h5 =>
 tR (o_ldn 2 (.c v4) .nil h5) fun v6 h7 =>
 tR (o_alloc 80 2 (.k1 (.mk (.str []) (pi 0) .undef .undef .undef .undef .undef .undef .undef .undef .undef .undef .undef .undef .undef .undef)) .nil h7) fun v8 h9 =>
 tR (o_stn 2 (.c v8) (.c v6) .nil h9) fun v10 h11 =>
 x (T80 x0 v8 x1 x2 x3) h11) (y1 r) (y38 r) (y39 r) (y40 r)
def k61_6 : KF := fun c i x r h => (fun (x0 x1 x2 x3 : AV) =>
 tR (b_add x3 (pi 1) h) fun v4 h5 =>
 .nm (T79 x0 x1 x2 v4) h5) (y1 r) (y38 r) (y39 r) (y40 r)
def k61_3 : KF := fun c i x r h => (fun (x0 x1 x2 x3 : AV) =>
 tR (b_lt x3 x2 h) fun v4 h5 =>
 ifR v4 (x (T79 x0 x1 x2 x3) h5) (.ex 0 (T31 x0) h5)) (y1 r) (y38 r) (y39 r) (y40 r)
def k61_2 : KF := fun c i x r h => (fun (x0 : AV) =>
 tR (fa 5 x0 h) fun v1 h2 =>
 tR (ld v1 h2) fun v3 h4 =>
 tR (len v3 h4) fun v5 h6 =>
 x (T79 x0 v3 v5 (pi 0)) h6) (y1 r)
def k61_10 : KF := fun c i x r h => (fun (x0 x1 x2 x3 : AV) =>
 ifR x3 (.ret (T23 (.bool false)) h) (.nm (T81 x0 x1 x2) h)) (y58 r) (y59 r) (y60 r) (y74 r)
def k61_9 : KF := fun c i x r h => (fun (x0 x1 x2 : AV) =>
 tR (ix 3 x0 x2 h) fun v3 h4 =>
 tR (o_ldn 3 (.c v3) .nil h4) fun v5 h6 =>
 tR (o_alloc 153 3 (.k1 (.mk (.str []) .nils (.bool false) .undef .undef .undef .undef .undef .undef .undef .undef .undef .undef .undef .undef .undef)) .nil h6) fun v7 h8 =>
 tR (o_stn 3 (.c v7) (.c v5) .nil h8) fun v9 h10 =>
 x (T82 v7 x0 x1 x2) h10) (y58 r) (y59 r) (y60 r)
def k61_11 : KF := fun c i x r h => (fun (x0 x1 x2 : AV) =>
 tR (b_add x2 (pi 1) h) fun v3 h4 =>
 .nm (T81 x0 x1 v3) h4) (y58 r) (y59 r) (y60 r)
def k61_8 : KF := fun c i x r h => (fun (x0 x1 x2 : AV) =>
 tR (b_lt x2 x1 h) fun v3 h4 =>
 ifR v3 (x (T81 x0 x1 x2) h4) (.ex 2 T38 h4)) (y58 r) (y59 r) (y60 r)
def k61_7 : KF := fun c i x r h => (fun (x0 : AV) =>
 tR (fa 6 x0 h) fun v1 h2 =>
 tR (ld v1 h2) fun v3 h4 =>
 tR (len v3 h4) fun v5 h6 =>
 x (T81 v3 v5 (pi 0)) h6) (y1 r)
def k61_12 : KF := fun c i x r h => .ret (T23 (.bool true)) h
def k61_0 : KF := fun c i x r h => (fun (x0 : AV) =>
 tR (o_box 30 (.c x0) .nil h) fun v1 h2 =>
 x (T31 v1) h2) (y0 r)
def x61 : AC := (.shal k61_0 (.seq (.seq (.ops [o d7 (.fad 0 r1),
 o d8 (.ld1 r7),
 o d9 (.fad 1 r1),
 o d10 (.ld1 r9),
 o d11 (.fad 2 r1),
 o d12 (.ld1 r11),
 o d13 (.bslice 3 1 3 [(pi 0),(pi 0),(pi 0)] [.mk 0 1 r8,.mk 1 1 r10,.mk 2 1 r12]),
 .o d14 (.call 102 [r13]),
 o d15 (.un .not r14),
 m d16 r15,
 .g .h1 .h0 false d17 (.op (.fad 3 r1)),
 .g .h1 .h0 false d18 (.op (.ld1 r17)),
 .g .h1 .h0 false d19 (.op (.fad 4 r1)),
 .g .h1 .h0 false d20 (.op (.ld1 r19)),
 .g .h1 .h0 false d21 (.op (.bslice 9 1 2 [(.str []),(.str [])] [.mk 0 1 r18,.mk 1 1 r20])),
 .g .h1 .h0 false d22 (.call 103 [r21]),
 .g .h1 .h0 false d23 (.op (.un .not r22)),
 o d24 (.pick r16 (.c (.bool true)) r23),
 m d25 r24,
 .g .h1 .h9 false d26 (.op (.fad 5 r1)),
 .g .h1 .h9 false d27 (.op (.ld1 r26)),
 .g .h1 .h9 false d28 (.op (.len r27)),
 .g .h1 .h9 false d29 (.op (.bin .gt r28 (.c (pi 255)))),
 o d30 (.pick r25 (.c (.bool true)) r29),
 m d31 r30,
 .g .h1 .hf false d32 (.op (.fad 6 r1)),
 .g .h1 .hf false d33 (.op (.ld1 r32)),
 .g .h1 .hf false d34 (.op (.len r33)),
 .g .h1 .hf false d35 (.op (.bin .gt r34 (.c (pi 255)))),
 o d36 (.pick r31 (.c (.bool true)) r35)]) (.shal k61_1 .skip)) (.seq (.shal k61_2 (.block 0 (.loop (.shal k61_3 (.seq (.block 1 (.shal k61_4 (.seq (.ops [o d44 (.fad 1 r4),
 o d45 (.ld1 r44),
 o d46 (.bslice 3 1 1 [(pi 0)] [.mk 0 1 r45]),
 .o d47 (.call 102 [r46]),
 o d48 (.un .not r47),
 m d49 r48,
 .g .h3 .h1 false d50 (.op (.fad 0 r4)),
 .g .h3 .h1 false d51 (.op (.ld1 r50)),
 .g .h3 .h1 false d52 (.op (.bslice 9 1 1 [(.str [])] [.mk 0 1 r51])),
 .g .h3 .h1 false d53 (.call 103 [r52]),
 .g .h3 .h1 false d54 (.op (.un .not r53)),
 o d55 (.pick r49 (.c (.bool true)) r54)]) (.shal k61_5 .skip)))) (.shal k61_6 .skip)))))) (.seq (.shal k61_7 (.block 2 (.loop (.shal k61_8 (.seq (.block 3 (.shal k61_9 (.seq (.ops [o d64 (.fad 0 r6),
 o d65 (.ld1 r64),
 o d66 (.bslice 9 1 1 [(.str [])] [.mk 0 1 r65]),
 .o d67 (.call 103 [r66]),
 o d68 (.un .not r67),
 m d69 r68,
 .g .h4 .h5 false d70 (.op (.fad 1 r6)),
 .g .h4 .h5 false d71 (.op (.ld1 r70)),
 .g .h4 .h5 false d72 (.call 104 [r71]),
 .g .h4 .h5 false d73 (.op (.un .not r72)),
 o d74 (.pick r69 (.c (.bool true)) r73)]) (.shal k61_10 .skip)))) (.shal k61_11 .skip)))))) (.shal k61_12 .skip)))))
def z61 : List Rs := [.t .h0 .h2]
def f61 : AF := .mk x61 z61
def k62_0 : KF := fun c i x r h => (fun (x0 x1 : AV) =>
 tR (lent x1 h) fun v2 h3 =>
 tT (c 105 [x0,v2] h3) fun v4 h5 =>
 tR (nic x0 h5) fun v6 h7 =>
 tR (fa 0 v6 h7) fun v8 h9 =>
 tR (ld v8 h9) fun v10 h11 =>
 tR (o_apps 5 (.c v10) (.c x1) .nil h11) fun v12 h13 =>
 tR (nic x0 h13) fun v14 h15 =>
 tR (fa 0 v14 h15) fun v16 h17 =>
 tR (sto v16 v12 h17) fun v18 h19 =>
 .nm T38 h19) (y0 r) (y1 r)
def x62 : AC := (.shal k62_0 .skip)
def z62 : List Rs := []
def f62 : AF := .mk x62 z62
def k63_0 : KF := fun c i x r h => (fun (x0 x1 : AV) =>
 tR (cK (.toInt .u64) x1 h) fun v2 h3 =>
 tT (c 83 [x0,v2,(pi 1)] h3) fun v4 h5 =>
 .nm T38 h5) (y0 r) (y1 r)
def x63 : AC := (.shal k63_0 .skip)
def z63 : List Rs := []
def f63 : AF := .mk x63 z63
def k64_0 : KF := fun c i x r h => (fun (x0 : AV) =>
 tR (bK (.isnil .s) x0 .nils h) fun v1 h2 =>
 ifR v1 (.ret (T23 .nils) h2) (tR (o_bslice 80 2 0 [] [] .nil h2) fun v3 h4 =>
 tR (appV 80 2 v3 x0 h4) fun v5 h6 =>
 .ret (T23 v5) h6)) (y0 r)
def x64 : AC := (.shal k64_0 .skip)
def z64 : List Rs := [.t .h0 .h2]
def f64 : AF := .mk x64 z64
def k65_0 : KF := fun c i x r h => (fun (x0 : AV) =>
 tR (bK (.isnil .s) x0 .nils h) fun v1 h2 =>
 ifR v1 (.ret (T23 .nils) h2) (tR (o_bslice 153 3 0 [] [] .nil h2) fun v3 h4 =>
 tR (appV 153 3 v3 x0 h4) fun v5 h6 =>
 .ret (T23 v5) h6)) (y0 r)
def x65 : AC := (.shal k65_0 .skip)
def z65 : List Rs := [.t .h0 .h2]
def f65 : AF := .mk x65 z65
def k67_0 : KF := fun c i x r h => (fun (x0 : AV) =>
 tT (c 106 [x0,(pi 10)] h) fun v1 h2 =>
 .ret (T23 v1) h2) (y0 r)
def x67 : AC := (.shal k67_0 .skip)
def z67 : List Rs := [.t .h0 .h2]
def f67 : AF := .mk x67 z67
def k68_1 : KF := fun c i x r h => (fun (x0 x1 : AV) =>
 tQ (nic x0 h) fun v2 =>
 tQ (fa 1 v2 h) fun v3 =>
 tQ (ld v3 h) fun v4 =>
 tQ (nic v4 h) fun v5 =>
 tQ (fa 0 v5 h) fun v6 =>
 tQ (o_ixa 5 3 (.c v6) (.c x1) .nil h) fun v7 =>
 tQ (fa 0 v7 h) fun v8 =>
 tQ (ld v8 h) fun v9 =>
 tQ (nic x0 h) fun v10 =>
 tQ (fa 1 v10 h) fun v11 =>
 tQ (ld v11 h) fun v12 =>
 tQ (nic v12 h) fun v13 =>
 tQ (fa 0 v13 h) fun v14 =>
 tQ (o_ixa 5 3 (.c v14) (.c x1) .nil h) fun v15 =>
 tQ (fa 1 v15 h) fun v16 =>
 tQ (ld v16 h) fun v17 =>
 .ret (T33 v9 v17) h) (y0 r) (y1 r)
def k68_0 : KF := fun c i x r h => (fun (x0 x1 : AV) =>
 tR (nic x0 h) fun v2 h3 =>
 tR (fa 0 v2 h3) fun v4 h5 =>
 tR (ld v4 h5) fun v6 h7 =>
 tT (c 50 [v6,x1] h7) fun v8 h9 =>
 tR (u_not v8 h9) fun v10 h11 =>
 ifR v10 (.ret (T33 (pi 0) (.str [])) h11) (x (T50 x0 x1) h11)) (y0 r) (y1 r)
def x68 : AC := (.shal k68_0 (.shal k68_1 .skip))
def z68 : List Rs := [.t .h0 .h4,.t .h0 .h5]
def f68 : AF := .mk x68 z68
def k70_2 : KF := fun c i x r h => (fun (x0 x1 x2 x3 : AV) =>
 ifR x3 (.ret (T5 x2 .nils) h) (.nm (T84 x0 x1 x2) h)) (y2 r) (y8 r) (y9 r) (y40 r)
def k70_3 : KF := fun c i x r h => (fun (x0 x1 x2 : AV) =>
 tR (fa 2 x1 h) fun v3 h4 =>
 tR (ld v3 h4) fun v5 h6 =>
 tR (fa 0 x1 h6) fun v7 h8 =>
 tR (ld v7 h8) fun v9 h10 =>
 tR (b_sub x0 v9 h10) fun v11 h12 =>
 tR (o_slc 1 (.c v5) (.some (.c v11)) .none .none .nil h12) fun v13 h14 =>
 tT (c 109 [v13] h14) fun v15 h16 =>
 .ret (T5 x2 v15) h16) (y2 r) (y8 r) (y9 r)
def k70_1 : KF := fun c i x r h => (fun (x0 x1 : AV) =>
 tR (fa 0 x1 h) fun v2 h3 =>
 tR (ld v2 h3) fun v4 h5 =>
 tR (fa 2 x1 h5) fun v6 h7 =>
 tR (ld v6 h7) fun v8 h9 =>
 tR (len v8 h9) fun v10 h11 =>
 tR (b_add v4 v10 h11) fun v12 h13 =>
 x (T84 x0 x1 v12) h13) (y2 r) (y8 r)
def k70_0 : KF := fun c i x r h => (fun (x0 x1 x2 : AV) =>
 tR (nic x0 h) fun v3 h4 =>
 tR (fa 0 v3 h4) fun v5 h6 =>
 tR (ld v5 h6) fun v7 h8 =>
 tT (c 50 [v7,x1] h8) fun v9 h10 =>
 tR (u_not v9 h10) fun v11 h12 =>
 ifR v11 (.ret (T5 (pi 0) .nils) h12) (tR (nic x0 h12) fun v13 h14 =>
 tR (fa 1 v13 h14) fun v15 h16 =>
 tR (ld v15 h16) fun v17 h18 =>
 tR (nic v17 h18) fun v19 h20 =>
 tR (fa 0 v19 h20) fun v21 h22 =>
 tR (o_ixa 5 3 (.c v21) (.c x1) .nil h22) fun v23 h24 =>
 tR (o_ldn 3 (.c v23) .nil h24) fun v25 h26 =>
 tR (o_alloc 87 3 (.k1 (.mk (pi 0) (.str []) .nils .undef .undef .undef .undef .undef .undef .undef .undef .undef .undef .undef .undef .undef)) .nil h26) fun v27 h28 =>
 tR (o_stn 3 (.c v27) (.c v25) .nil h28) fun v29 h30 =>
 x (T83 x2 v27) h30)) (y0 r) (y1 r) (y2 r)
def x70 : AC := (.shal k70_0 (.shal k70_1 (.seq (.seq (.ops [m d32 r2,
 o d33 (.fad 0 r8),
 o d34 (.ld1 r33),
 o d35 (.bin .lt r32 r34),
 m d36 r35,
 .g .h2 .h4 false d37 (.op (.mv r2)),
 .g .h2 .h4 false d38 (.op (.mv r9)),
 .g .h2 .h4 false d39 (.op (.bin .ge r37 r38)),
 o d40 (.pick r36 (.c (.bool true)) r39)]) (.shal k70_2 .skip)) (.shal k70_3 .skip))))
def z70 : List Rs := [.t .h0 .h6,.t .h0 .h7]
def f70 : AF := .mk x70 z70
def k71_1 : KF := fun c i x r h => (fun (x0 x1 x2 : AV) =>
 tR (cK (.s2b 5) x1 h) fun v3 h4 =>
 tT (c 110 [v3] h4) fun v5 h6 =>
 tR (o_ext 0 (.c v5) .nil h6) fun v7 h8 =>
 tR (o_ext 1 (.c v5) .nil h8) fun v9 h10 =>
 tR (o_alloc 30 7 (.k1 (.mk (pi 0) (pi 0) (pi 0) (.str []) (.str []) .nils .nils .undef .undef .undef .undef .undef .undef .undef .undef .undef)) .nil h10) fun v11 h12 =>
 tR (o_stn 7 (.c v11) (.c v7) .nil h12) fun v13 h14 =>
 tR (b_ne v9 (pi 0) h14) fun v15 h16 =>
 ifR v15 (tR (o_build [(pi 0),(pi 0),(.str [])] [.mk 0 1 (.c (pi 12))] .nil h16) fun v17 h18 =>
 tR (o_stn 3 (.c x2) (.c v17) .nil h18) fun v19 h20 =>
 .ret (T5 x2 (pi 0)) h20) (tQ (nic x0 h16) fun v21 =>
 tQ (fa 0 v21 h16) fun v22 =>
 tQ (ld v22 h16) fun v23 =>
 tQ (o_ldn 7 (.c v11) .nil h16) fun v24 =>
 tX (c 111 [v23,v24] h16) fun v25 h26 =>
 tX (RV.toT (o_stn 3 (.c x2) (.c v25) .nil h26)) fun v27 h28 =>
 x (T5 x2 (pi 0)) h28)) (y0 r) (y2 r) (y6 r)
def k71_0 : KF := fun c i x r h => (fun (x0 x1 x2 : AV) =>
 tR (o_alloc 24 3 (.k1 (.mk (pi 0) (pi 0) (.str []) .undef .undef .undef .undef .undef .undef .undef .undef .undef .undef .undef .undef .undef)) .nil h) fun v3 h4 =>
 tR (nic x0 h4) fun v5 h6 =>
 tR (fa 1 v5 h6) fun v7 h8 =>
 tR (ld v7 h8) fun v9 h10 =>
 tR (b_ne x1 v9 h10) fun v11 h12 =>
 ifR v11 (tR (o_build [(pi 0),(pi 0),(.str [])] [] .nil h12) fun v13 h14 =>
 tR (o_stn 3 (.c v3) (.c v13) .nil h14) fun v15 h16 =>
 .ret (T5 v3 (pi 1)) h16) (tR (nic x0 h12) fun v17 h18 =>
 tR (fa 1 v17 h18) fun v19 h20 =>
 tR (ld v19 h20) fun v21 h22 =>
 tR (b_add v21 (pi 1) h22) fun v23 h24 =>
 tR (nic x0 h24) fun v25 h26 =>
 tR (fa 1 v25 h26) fun v27 h28 =>
 tR (sto v27 v23 h28) fun v29 h30 =>
 x (T85 x0 x2 v3) h30)) (y0 r) (y1 r) (y2 r)
def x71 : AC := (.shal k71_0 (.shal k71_1 .ret))
def z71 : List Rs := [.agg 3 .h0 .h6,.t .h0 .h7]
def f71 : AF := .mk x71 z71
def k72_0 : KF := fun c i x r h => (fun (x0 x1 x2 : AV) =>
 tR (o_alloc 24 3 (.k1 (.mk (pi 0) (pi 0) (.str []) .undef .undef .undef .undef .undef .undef .undef .undef .undef .undef .undef .undef .undef)) .nil h) fun v3 h4 =>
 tR (nic x0 h4) fun v5 h6 =>
 tR (fa 0 v5 h6) fun v7 h8 =>
 tR (ld v7 h8) fun v9 h10 =>
 tT (c 112 [v9,x1,x2] h10) fun v11 h12 =>
 tR (o_ext 0 (.c v11) .nil h12) fun v13 h14 =>
 tR (o_ext 1 (.c v11) .nil h14) fun v15 h16 =>
 tR (o_stn 3 (.c v3) (.c v13) .nil h16) fun v17 h18 =>
 .ret (T5 v3 v15) h18) (y0 r) (y1 r) (y2 r)
def x72 : AC := (.shal k72_0 .skip)
def z72 : List Rs := [.agg 3 .h0 .h6,.t .h0 .h7]
def f72 : AF := .mk x72 z72
def k73_0 : KF := fun c i x r h => (fun (x0 x1 : AV) =>
 tR (nic x0 h) fun v2 h3 =>
 tR (fa 0 v2 h3) fun v4 h5 =>
 tR (ld v4 h5) fun v6 h7 =>
 tT (c 113 [v6,x1] h7) fun v8 h9 =>
 tR (o_ext 0 (.c v8) .nil h9) fun v10 h11 =>
 tR (o_ext 1 (.c v8) .nil h11) fun v12 h13 =>
 .ret (T33 v10 v12) h13) (y0 r) (y1 r)
def x73 : AC := (.shal k73_0 .skip)
def z73 : List Rs := [.t .h0 .h4,.t .h0 .h5]
def f73 : AF := .mk x73 z73
def k74_3 : KF := fun c i x r h => (fun (x0 x1 x2 x3 x4 x5 x6 x7 : AV) =>
 ifR x7 (.ex 1 (T89 x0 x1 x2 x3 x4 x5 x6) h) (.nm (T89 x0 x1 x2 x3 x4 x5 x6) h)) (y0 r) (y1 r) (y2 r) (y6 r) (y11 r) (y12 r) (y13 r) (y27 r)
def k74_4 : KF := fun c i x r h => (fun (x0 x1 x2 x3 : AV) =>
 tR (u_not x2 h) fun v4 h5 =>
 ifR v4 (.ret T38 h5) (x (T90 x0 x1 x2 x3) h5)) (y0 r) (y1 r) (y2 r) (y6 r)
def k74_2 : KF := fun c i x r h => (fun (x0 x1 x2 x3 x4 x5 : AV) =>
 tR (ix 6 x3 x5 h) fun v6 h7 =>
 tR (o_ldn 6 (.c v6) .nil h7) fun v8 h9 =>
 tR (o_alloc 224 6 (.k1 (.mk (pi 0) (pi 0) (pi 0) (.bool false) (.str []) (pi 0) .undef .undef .undef .undef .undef .undef .undef .undef .undef .undef)) .nil h9) fun v10 h11 =>
 tR (o_stn 6 (.c v10) (.c v8) .nil h11) fun v12 h13 =>
 x (T88 x0 x1 x2 x5 v10 x3 x4 x5) h13) (y0 r) (y1 r) (y2 r) (y11 r) (y12 r) (y13 r)
def k74_5 : KF := fun c i x r h => (fun (x0 x1 x2 x3 x4 x5 : AV) =>
 tR (b_add x5 (pi 1) h) fun v6 h7 =>
 .nm (T86 x0 x1 x2 x3 x4 v6) h7) (y0 r) (y1 r) (y2 r) (y11 r) (y12 r) (y13 r)
def k74_1 : KF := fun c i x r h => (fun (x0 x1 x2 x3 x4 x5 : AV) =>
 tR (b_lt x5 x4 h) fun v6 h7 =>
 ifR v6 (x (T86 x0 x1 x2 x3 x4 x5) h7) (.ex 0 (T87 x0 x1 x2) h7)) (y0 r) (y1 r) (y2 r) (y11 r) (y12 r) (y13 r)
def k74_0 : KF := fun c i x r h => (fun (x0 x1 x2 : AV) =>
 tR (nic x0 h) fun v3 h4 =>
 tR (fa 17 v3 h4) fun v5 h6 =>
 tR (ld v5 h6) fun v7 h8 =>
 tR (len v7 h8) fun v9 h10 =>
 x (T86 x0 x1 x2 v7 v9 (pi 0)) h10) (y0 r) (y1 r) (y2 r)
def k74_7 : KF := fun c i x r h => (fun (x0 : AV) =>
 tR (nic x0 h) fun v1 h2 =>
 tR (fa 19 v1 h2) fun v3 h4 =>
 tR (ld v3 h4) fun v5 h6 =>
 tR (b_eq v5 (pi 2) h6) fun v7 h8 =>
 ifR v7 (tT (c 114 [x0] h8) fun v9 h10 =>
 .nm T38 h10) (tR (b_eq v5 (pi 0) h8) fun v11 h12 =>
 ifR v11 (tR (nic x0 h12) fun v13 h14 =>
 tR (fa 3 v13 h14) fun v15 h16 =>
 tR (ld v15 h16) fun v17 h18 =>
 tR (nic x0 h18) fun v19 h20 =>
 tR (fa 23 v19 h20) fun v21 h22 =>
 tR (sto v21 v17 h22) fun v23 h24 =>
 tT (c 115 [x0] h24) fun v25 h26 =>
 .nm T38 h26) (.nm T38 h12))) (y0 r)
def k74_6 : KF := fun c i x r h => (fun (x0 x1 x2 : AV) =>
 tR (nic x0 h) fun v3 h4 =>
 tR (fa 18 v3 h4) fun v5 h6 =>
 tR (ld v5 h6) fun v7 h8 =>
 tR (b_add v7 (pi 1) h8) fun v9 h10 =>
 tR (nic x0 h10) fun v11 h12 =>
 tR (fa 18 v11 h12) fun v13 h14 =>
 tR (sto v13 v9 h14) fun v15 h16 =>
 x (T87 x0 x1 x2) h16) (y0 r) (y1 r) (y2 r)
def x74 : AC := (.seq (.shal k74_0 (.block 0 (.loop (.shal k74_1 (.seq (.block 1 (.shal k74_2 (.seq (.seq (.ops [o d18 (.fad 4 r7),
 o d19 (.ld1 r18),
 m d20 r1,
 o d21 (.bin .sne r19 r20),
 m d22 r21,
 .g .h1 .h6 false d23 (.op (.fad 3 r7)),
 .g .h1 .h6 false d24 (.op (.ld1 r23)),
 .g .h1 .h6 false d25 (.op (.mv r2)),
 .g .h1 .h6 false d26 (.op (.bin .bne r24 r25)),
 o d27 (.pick r22 (.c (.bool true)) r26)]) (.shal k74_3 .skip)) (.shal k74_4 (.seq (.drw [q 0 (m d31 r0),
 q 0 (o d32 (.nilc r31)),
 q 0 (o d33 (.fad 17 r32)),
 q 0 (o d34 (.ld1 r33)),
 q 0 (m d35 r6),
 q 0 (m d36 r6),
 q 0 (o d37 (.slc 6 r34 .none (.some r35) (.some r36))),
 q 0 (m d38 r0),
 q 0 (o d39 (.nilc r38)),
 q 0 (o d40 (.fad 17 r39)),
 q 0 (o d41 (.ld1 r40)),
 q 0 (m d42 r6),
 q 0 (o d43 (.bin .add r42 a1)),
 q 0 (o d44 (.slc 6 r41 (.some r43) .none .none)),
 w (o d45 (.app 224 6 r37 r44)),
 q 1 (m d30 r0),
 q 0 (o d46 (.nilc r30)),
 q 0 (o d47 (.fad 17 r46)),
 w (o .no (.st1 r47 r45))]) (.exit 0)))))) (.shal k74_5 .skip)))))) (.shal k74_6 (.seq (.drw [q 0 (m d61 r0),
 q 0 (o d62 (.nilc r61)),
 q 0 (o d63 (.fad 1 r62)),
 q 0 (o d64 (.ld1 r63)),
 q 0 (m d65 r0),
 q 0 (o d66 (.nilc r65)),
 q 0 (o d67 (.fad 6 r66)),
 q 0 (o d68 (.ld1 r67)),
 q 0 (m d69 r0),
 q 0 (o d70 (.nilc r69)),
 q 0 (o d71 (.fad 18 r70)),
 q 0 (o d72 (.ld1 r71)),
 q 0 (o d73 (.build [(pi 0),(pi 0),(pi 0)] [.mk 0 1 r64,.mk 1 1 r68,.mk 2 1 r72])),
 q 0 (m d74 r2),
 q 0 (m d75 r1),
 q 0 (o d76 (.build [(pi 0),(pi 0),(pi 0),(.bool false),(.str []),(pi 0)] [.mk 0 3 r73,.mk 3 1 r74,.mk 4 1 r75,.mk 5 1 (.c (ni 0))])),
 w (o d77 (.bslice 224 6 1 [(pi 0),(pi 0),(pi 0),(.bool false),(.str []),(pi 0)] [.mk 0 6 r76])),
 q 1 (m d57 r0),
 q 1 (o d58 (.nilc r57)),
 q 1 (o d59 (.fad 17 r58)),
 q 1 (o d60 (.ld1 r59)),
 w (o d78 (.app 224 6 r60 r77)),
 q 2 (m d56 r0),
 q 0 (o d79 (.nilc r56)),
 q 0 (o d80 (.fad 17 r79)),
 w (o .no (.st1 r80 r78))]) (.shal k74_7 .skip))))
def z74 : List Rs := []
def f74 : AF := .mk x74 z74
def k75_1 : KF := fun c i x r h => (fun (x0 x1 : AV) =>
 tR (nic x0 h) fun v2 h3 =>
 tR (fa 0 v2 h3) fun v4 h5 =>
 tR (ld v4 h5) fun v6 h7 =>
 tR (len v6 h7) fun v8 h9 =>
 tR (b_rem x1 v8 h9) fun v10 h11 =>
 .ret (T22 v10) h11) (y0 r) (y1 r)
def k75_0 : KF := fun c i x r h => (fun (x0 x1 : AV) =>
 tR (nic x0 h) fun v2 h3 =>
 tR (fa 0 v2 h3) fun v4 h5 =>
 tR (ld v4 h5) fun v6 h7 =>
 tR (len v6 h7) fun v8 h9 =>
 tR (b_eq v8 (pi 0) h9) fun v10 h11 =>
 ifR v10 (.ret (T22 (ni 0)) h11) (tR (b_lt x1 (pi 0) h11) fun v12 h13 =>
 ifR v12 (tR (b_add x1 (pi 1) h13) fun v14 h15 =>
 tR (u_neg v14 h15) fun v16 h17 =>
 x (T50 x0 v16) h17) (x (T50 x0 x1) h13))) (y0 r) (y1 r)
def x75 : AC := (.shal k75_0 (.shal k75_1 .skip))
def z75 : List Rs := [.t .h0 .h4]
def f75 : AF := .mk x75 z75
def k76_1 : KF := fun c i x r h => (fun (x0 x1 x2 x3 : AV) =>
 tQ (o_slc 3 (.c x0) .none (.some (.c x1)) .none .nil h) fun v4 =>
 tQ (o_slc 3 (.c x0) (.some (.c x2)) .none .none .nil h) fun v5 =>
 tX (RV.toT (appV 172 3 v4 v5 h)) fun v6 h7 =>
 tR (len v6 h7) fun v8 h9 =>
 tR (o_slc 3 (.c v6) (.some (.c v8)) (.some (.c x3)) .none .nil h9) fun v10 h11 =>
 tR (o_clr [(pi 0),(pi 0),.nils] (.c v10) .nil h11) fun v12 h13 =>
 .ret (T10 v6) h13) (y0 r) (y1 r) (y2 r) (y7 r)
def k76_0 : KF := fun c i x r h => (fun (x0 x1 x2 : AV) =>
 tR (len x0 h) fun v3 h4 =>
 tR (o_slc 3 (.c x0) (.some (.c x1)) (.some (.c x2)) (.some (.c v3)) .nil h4) fun v5 h6 =>
 tR (b_eq x1 x2 h6) fun v7 h8 =>
 ifR v7 (.ret (T10 x0) h8) (tR (len x0 h8) fun v9 h10 =>
 x (T91 x0 x1 x2 v9) h10)) (y0 r) (y1 r) (y2 r)
def x76 : AC := (.shal k76_0 (.shal k76_1 .skip))
def z76 : List Rs := [.t .h0 .h6]
def f76 : AF := .mk x76 z76
def k77_5 : KF := fun c i x r h => (fun (x0 x1 x2 x3 : AV) =>
 tR (fa 0 x1 h) fun v4 h5 =>
 tR (ld v4 h5) fun v6 h7 =>
 tR (o_ldn 2 (.c x3) .nil h7) fun v8 h9 =>
 tT (c 119 [x0,v6,v8,x2] h9) fun v10 h11 =>
 .nm T38 h11) (y0 r) (y3 r) (y4 r) (y6 r)
def k77_7 : KF := fun c i x r h => (fun (x0 x1 x2 x3 : AV) =>
 tR (fa 0 x1 h) fun v4 h5 =>
 tR (ld v4 h5) fun v6 h7 =>
 tR (o_ldn 2 (.c x3) .nil h7) fun v8 h9 =>
 tT (c 120 [x0,v6,v8,x2] h9) fun v10 h11 =>
 .nm T38 h11) (y0 r) (y3 r) (y4 r) (y6 r)
def k77_9 : KF := fun c i x r h => (fun (x0 x1 x2 x3 : AV) =>
 tR (fa 0 x1 h) fun v4 h5 =>
 tR (ld v4 h5) fun v6 h7 =>
 tR (o_ldn 2 (.c x3) .nil h7) fun v8 h9 =>
 tT (c 121 [x0,v6,v8,x2] h9) fun v10 h11 =>
 .nm T38 h11) (y0 r) (y3 r) (y4 r) (y6 r)
def k77_11 : KF := fun c i x r h => (fun (x0 x1 x2 : AV) =>
 tR (b_eq x2 (pi 5) h) fun v3 h4 =>
 ifR v3 (tR (o_ldn 2 (.c x1) .nil h4) fun v5 h6 =>
 tT (c 123 [x0,v5] h6) fun v7 h8 =>
 .nm T38 h8) (.nm T38 h4)) (y0 r) (y6 r) (y29 r)
def k77_10 : KF := fun c i x r h => (fun (x0 x1 x2 x3 x4 : AV) =>
 tR (b_eq x4 (pi 4) h) fun v5 h6 =>
 x (T97 x0 x1 x2 x3 x4 v5) h6) (y0 r) (y3 r) (y4 r) (y6 r) (y29 r)
def k77_8 : KF := fun c i x r h => (fun (x0 x1 x2 x3 x4 : AV) =>
 tR (b_eq x4 (pi 3) h) fun v5 h6 =>
 x (T96 x0 x1 x2 x3 x4 v5) h6) (y0 r) (y3 r) (y4 r) (y6 r) (y29 r)
def k77_6 : KF := fun c i x r h => (fun (x0 x1 x2 x3 x4 : AV) =>
 tR (b_eq x4 (pi 2) h) fun v5 h6 =>
 x (T95 x0 x1 x2 x3 x4 v5) h6) (y0 r) (y3 r) (y4 r) (y6 r) (y29 r)
def k77_4 : KF := fun c i x r h => (fun (x0 x1 x2 x3 x4 : AV) =>
 tR (b_eq x4 (pi 1) h) fun v5 h6 =>
 x (T94 x0 x1 x2 x3 x4 v5) h6) (y0 r) (y3 r) (y4 r) (y6 r) (y29 r)
def k77_3 : KF := fun c i x r h => (fun (x0 x1 x2 x3 x4 : AV) =>
 x (T93 x0 x1 x2 x4 x3) h) (y0 r) (y3 r) (y4 r) (y5 r) (y6 r)
def k77_13 : KF := fun c i x r h => (fun (x0 x1 x2 x3 : AV) =>
 tR (b_lt x3 x2 h) fun v4 h5 =>
 ifR v4 (tR (ix 4 x1 x3 h5) fun v6 h7 =>
 tR (o_ldn 4 (.c v6) .nil h7) fun v8 h9 =>
 tR (o_alloc 234 4 (.k1 (.mk (pi 0) (pi 0) (pi 0) (.str []) .undef .undef .undef .undef .undef .undef .undef .undef .undef .undef .undef .undef)) .nil h9) fun v10 h11 =>
 tR (o_stn 4 (.c v10) (.c v8) .nil h11) fun v12 h13 =>
 tR (fa 0 v10 h13) fun v14 h15 =>
 tR (ld v14 h15) fun v16 h17 =>
 tR (fa 3 v10 h17) fun v18 h19 =>
 tR (ld v18 h19) fun v20 h21 =>
 tT (c 125 [x0,v16,v20] h21) fun v22 h23 =>
 tR (b_add x3 (pi 1) h23) fun v24 h25 =>
 .nm (T98 x0 x1 x2 v24) h25) (.ex 2 (T98 x0 x1 x2 x3) h5)) (y0 r) (y69 r) (y70 r) (y71 r)
def k77_12 : KF := fun c i x r h => (fun (x0 x1 : AV) =>
 tT (c 124 [x1] h) fun v2 h3 =>
 tR (len v2 h3) fun v4 h5 =>
 x (T98 x0 v2 v4 (pi 0)) h5) (y0 r) (y4 r)
def k77_14 : KF := fun c i x r h => (fun (x0 x1 : AV) =>
 tT (c 128 [x1] h) fun v2 h3 =>
 tT (c 127 [x0,v2] h3) fun v4 h5 =>
 .nm T38 h5) (y0 r) (y4 r)
def k77_2 : KF := fun c i x r h => (fun (x0 x1 x2 x3 x4 : AV) =>
 tT (c 117 [x2] h) fun v5 h6 =>
 tR (o_stn 2 (.c x4) (.c v5) .nil h6) fun v7 h8 =>
 tQ (nic x0 h8) fun v9 =>
 tQ (fa 8 v9 h8) fun v10 =>
 tQ (ld v10 h8) fun v11 =>
 tQ (o_ldn 2 (.c x4) .nil h8) fun v12 =>
 tX (c 118 [v11,v12] h8) fun v13 h14 =>
 x (T92 x0 x1 x2 x3 x4) h14) (y0 r) (y3 r) (y4 r) (y5 r) (y6 r)
def k77_1 : KF := fun c i x r h => (fun (x0 x1 : AV) =>
 tR (fa 2 x1 h) fun v2 h3 =>
 tR (ld v2 h3) fun v4 h5 =>
 tT (c 98 [v4] h5) fun v6 h7 =>
 tT (c 116 [v6] h7) fun v8 h9 =>
 tR (o_alloc 226 2 (.k1 (.mk (pi 0) (pi 0) .undef .undef .undef .undef .undef .undef .undef .undef .undef .undef .undef .undef .undef .undef)) .nil h9) fun v10 h11 =>
 tR (b_eq v8 (pi 6) h11) fun v12 h13 =>
 ifR v12 (.go 0 (T39 x0 x1 v6) h13) (tR (b_eq v8 (pi 7) h13) fun v14 h15 =>
 ifR v14 (.go 1 (T39 x0 x1 v6) h15) (tR (b_eq v8 (pi 8) h15) fun v16 h17 =>
 ifR v16 (.go 2 (T39 x0 x1 v6) h17) (x (T92 x0 x1 v6 v8 v10) h17)))) (y0 r) (y3 r)
def k77_0 : KF := fun c i x r h => (fun (x0 x1 : AV) =>
 tR (o_box 172 (.c x1) .nil h) fun v2 h3 =>
 x (T11 x0 v2) h3) (y0 r) (y1 r)
def x77 : AC := (.shal k77_0 (.scope (.shal k77_1 (.shal k77_2 (.seq (.shal k77_3 (.block 1 (.shal k77_4 (.cond r30 (.shal k77_5 .skip) (.shal k77_6 (.cond r38 (.shal k77_7 .skip) (.shal k77_8 (.cond r46 (.shal k77_9 .skip) (.shal k77_10 (.cond r54 (.drw [q 0 (m d60 r4),
 w (.o d61 (.call 107 [r60])),
 q 1 (m d56 r0),
 q 1 (o d57 (.fad 0 r3)),
 q 1 (o d58 (.ld1 r57)),
 q 1 (o d59 (.ldn 2 r6)),
 w (.o d62 (.call 122 [r56,r58,r59,r61]))]) (.shal k77_11 .skip))))))))))) (.seq .ret (.seq (.label 0) (.seq (.shal k77_12 (.block 2 (.loop (.shal k77_13 .skip)))) (.seq .ret (.seq (.label 1) (.seq (.drw [q 0 (m d85 r4),
 w (.o d86 (.call 107 [r85])),
 q 1 (m d82 r0),
 q 1 (o d83 (.fad 0 r3)),
 q 1 (o d84 (.ld1 r83)),
 w (.o d87 (.call 126 [r82,r84,r86]))]) (.seq .ret (.seq (.label 2) (.shal k77_14 .skip))))))))))))))
def z77 : List Rs := []
def f77 : AF := .mk x77 z77
def k78_0 : KF := fun c i x r h => (fun (x0 x1 x2 x3 : AV) =>
 tR (nic x0 h) fun v4 h5 =>
 tR (fa 0 v4 h5) fun v6 h7 =>
 tR (ld v6 h7) fun v8 h9 =>
 tR (len v8 h9) fun v10 h11 =>
 tR (b_lt v10 (pi 4000) h11) fun v12 h13 =>
 ifR v12 (tR (nic x0 h13) fun v14 h15 =>
 tR (fa 0 v14 h15) fun v16 h17 =>
 tR (ld v16 h17) fun v18 h19 =>
 tR (o_build [(pi 0),(pi 0),.nils] [.mk 0 1 (.c x1),.mk 1 1 (.c x2),.mk 2 1 (.c x3)] .nil h19) fun v20 h21 =>
 tR (o_bslice 172 3 1 [(pi 0),(pi 0),.nils] [.mk 0 3 (.c v20)] .nil h21) fun v22 h23 =>
 tR (appV 172 3 v18 v22 h23) fun v24 h25 =>
 tR (nic x0 h25) fun v26 h27 =>
 tR (fa 0 v26 h27) fun v28 h29 =>
 tR (sto v28 v24 h29) fun v30 h31 =>
 .nm T38 h31) (.nm T38 h13)) (y0 r) (y1 r) (y2 r) (y3 r)
def x78 : AC := (.shal k78_0 .skip)
def z78 : List Rs := []
def f78 : AF := .mk x78 z78
def k79_0 : KF := fun c i x r h => (fun (x0 x1 : AV) =>
 x (T50 x0 x1) h) (y0 r) (y1 r)
def x79 : AC := (.shal k79_0 (.seq (.ops [m d5 r1,
 o d6 (.bin .ge r5 a0),
 m d7 r6,
 .g .h0 .h7 true d8 (.op (.mv r1)),
 .g .h0 .h7 true d9 (.op (.mv r0)),
 .g .h0 .h7 true d10 (.op (.nilc r9)),
 .g .h0 .h7 true d11 (.op (.fad 1 r10)),
 .g .h0 .h7 true d12 (.op (.ld1 r11)),
 .g .h0 .h7 true d13 (.op (.len r12)),
 .g .h0 .h7 true d14 (.op (.bin .lt r8 r13)),
 o d15 (.pick r7 r14 (.c (.bool false))),
 m d4 r15]) .ret))
def z79 : List Rs := [.t .h0 .h4]
def f79 : AF := .mk x79 z79
def k80_1 : KF := fun c i x r h => (fun (x0 x1 x2 : AV) =>
 ifR x2 (.ret T38 h) (.nm (T76 x0 x1) h)) (y0 r) (y4 r) (y59 r)
def k80_5 : KF := fun c i x r h => (fun (x0 x1 : AV) =>
 ifR x1 (tT (c 134 [x0] h) fun v2 h3 =>
 .nm T38 h3) (tT (c 115 [x0] h) fun v4 h5 =>
 .nm T38 h5)) (y0 r) (y94 r)
def k80_4 : KF := fun c i x r h => (fun (x0 x1 : AV) =>
 tR (u_not x1 h) fun v2 h3 =>
 x (T99 x0 v2) h3) (y0 r) (y4 r)
def k80_3 : KF := fun c i x r h => (fun (x0 x1 : AV) =>
 tR (nic x0 h) fun v2 h3 =>
 tR (fa 24 v2 h3) fun v4 h5 =>
 tR (ld v4 h5) fun v6 h7 =>
 ifR v6 (tR (nic x0 h7) fun v8 h9 =>
 tR (fa 24 v8 h9) fun v10 h11 =>
 tR (sto v10 (.bool false) h11) fun v12 h13 =>
 tR (nic x0 h13) fun v14 h15 =>
 tR (fa 9 v14 h15) fun v16 h17 =>
 tR (ld v16 h17) fun v18 h19 =>
 tT (c 131 [v18] h19) fun v20 h21 =>
 tR (o_alloc 3 1 (.k1 (.mk (pi 0) .undef .undef .undef .undef .undef .undef .undef .undef .undef .undef .undef .undef .undef .undef .undef)) .nil h21) fun v22 h23 =>
 tR (sto v22 v20 h23) fun v24 h25 =>
 tT (c 132 [x0,(pi 7),(.fn 133 [v22])] h25) fun v26 h27 =>
 x (T76 x0 x1) h27) (x (T76 x0 x1) h7)) (y0 r) (y4 r)
def k80_2 : KF := fun c i x r h => (fun (x0 x1 : AV) =>
 tR (nic x0 h) fun v2 h3 =>
 tR (fa 3 v2 h3) fun v4 h5 =>
 tR (ld v4 h5) fun v6 h7 =>
 tR (nic x0 h7) fun v8 h9 =>
 tR (fa 23 v8 h9) fun v10 h11 =>
 tR (sto v10 v6 h11) fun v12 h13 =>
 tR (nic x0 h13) fun v14 h15 =>
 tR (fa 22 v14 h15) fun v16 h17 =>
 tR (ld v16 h17) fun v18 h19 =>
 tR (b_add v18 (pi 1) h19) fun v20 h21 =>
 tR (nic x0 h21) fun v22 h23 =>
 tR (fa 22 v22 h23) fun v24 h25 =>
 tR (sto v24 v20 h25) fun v26 h27 =>
 x (T76 x0 x1) h27) (y0 r) (y4 r)
def k80_0 : KF := fun c i x r h => (fun (x0 x1 : AV) =>
 tR (nic x0 h) fun v2 h3 =>
 tR (fa 3 v2 h3) fun v4 h5 =>
 tR (ld v4 h5) fun v6 h7 =>
 tR (b_add v6 x1 h7) fun v8 h9 =>
 tR (nic x0 h9) fun v10 h11 =>
 tR (fa 3 v10 h11) fun v12 h13 =>
 tR (sto v12 v8 h13) fun v14 h15 =>
 x (T1 x0) h15) (y0 r) (y1 r)
def x80 : AC := (.shal k80_0 (.seq (.ops [m d14 r0,
 o d15 (.nilc r14),
 o d16 (.fad 4 r15),
 o d17 (.ld1 r16),
 m d18 r17,
 .g .h1 .h2 true d19 (.op (.mv r0)),
 .g .h1 .h2 true d20 (.op (.nilc r19)),
 .g .h1 .h2 true d21 (.op (.fad 17 r20)),
 .g .h1 .h2 true d22 (.op (.ld1 r21)),
 .g .h1 .h2 true d23 (.op (.len r22)),
 .g .h1 .h2 true d24 (.op (.bin .gt r23 a0)),
 .g .h1 .h2 true d25 (.op (.mv r24)),
 .g .h1 .h9 false d26 (.op (.mv r0)),
 .g .h1 .h9 false d27 (.call 129 [r26]),
 .g .h1 .h2 true d28 (.op (.pick r25 (.c (.bool true)) r27)),
 o d29 (.pick r18 r28 (.c (.bool false))),
 m d4 r29]) (.seq (.seq (.drw [q 0 (m d30 r0),
 q 0 (o d31 (.nilc r30)),
 q 0 (o d32 (.fad 4 r31)),
 q 0 (o d33 (.ld1 r32)),
 q 0 (o d34 (.un .not r33)),
 q 0 (m d35 r34),
 q 0 (.g .h2 .h3 false d36 (.op (.mv r4))),
 q 0 (.g .h2 .h3 false d37 (.op (.un .not r36))),
 q 0 (.g .h2 .h3 false d38 (.op (.mv r37))),
 q 0 (.g .h2 .h6 true d39 (.op (.mv r0))),
 q 0 (.g .h2 .h6 true d40 (.op (.nilc r39))),
 q 0 (.g .h2 .h6 true d41 (.op (.fad 24 r40))),
 q 0 (.g .h2 .h6 true d42 (.op (.ld1 r41))),
 q 0 (.g .h2 .h6 true d43 (.op (.un .not r42))),
 q 0 (.g .h2 .h3 false d44 (.op (.pick r38 r43 (.c (.bool false))))),
 q 0 (o d45 (.pick r35 (.c (.bool true)) r44)),
 q 0 (m d46 r45),
 q 0 (.g .h2 .he false d56 (.op (.mv r0))),
 w (.g .h2 .he false d57 (.call 130 [r56])),
 q 1 (.g .h2 .he false d47 (.op (.mv r0))),
 q 1 (.g .h2 .he false d48 (.op (.nilc r47))),
 q 1 (.g .h2 .he false d49 (.op (.fad 3 r48))),
 q 1 (.g .h2 .he false d50 (.op (.ld1 r49))),
 q 1 (.g .h2 .he false d51 (.op (.mv r0))),
 q 1 (.g .h2 .he false d52 (.op (.nilc r51))),
 q 1 (.g .h2 .he false d53 (.op (.fad 23 r52))),
 q 1 (.g .h2 .he false d54 (.op (.ld1 r53))),
 q 1 (.g .h2 .he false d55 (.op (.bin .sub r50 r54))),
 q 0 (.g .h2 .he false d58 (.op (.bin .lt r55 r57))),
 q 0 (o d59 (.pick r46 (.c (.bool true)) r58))]) (.shal k80_1 .skip)) (.shal k80_2 (.shal k80_3 (.block 0 (.shal k80_4 (.cond r91 .skip (.seq (.ops [m d95 r0,
 o d96 (.nilc r95),
 o d97 (.fad 19 r96),
 o d98 (.ld1 r97),
 o d99 (.bin .eq r98 a2),
 m d100 r99,
 .g .h6 .h4 true d101 (.op (.mv r0)),
 .g .h6 .h4 true d102 (.op (.nilc r101)),
 .g .h6 .h4 true d103 (.op (.fad 22 r102)),
 .g .h6 .h4 true d104 (.op (.ld1 r103)),
 .g .h6 .h4 true d105 (.op (.bin .rem r104 (.c (pi 3)))),
 .g .h6 .h4 true d106 (.op (.bin .ne r105 a0)),
 o d107 (.pick r100 r106 (.c (.bool false))),
 m d94 r107]) (.shal k80_5 .skip))))))))))
def z80 : List Rs := []
def f80 : AF := .mk x80 z80
def k81_1 : KF := fun c i x r h => (fun (x0 : AV) =>
 tR (nic x0 h) fun v1 h2 =>
 tR (fa 0 v1 h2) fun v3 h4 =>
 tR (ld v3 h4) fun v5 h6 =>
 tR (len v5 h6) fun v7 h8 =>
 tR (nic x0 h8) fun v9 h10 =>
 tR (fa 1 v9 h10) fun v11 h12 =>
 tR (sto v11 v7 h12) fun v13 h14 =>
 .nm T38 h14) (y0 r)
def k81_0 : KF := fun c i x r h => (fun (x0 x1 : AV) =>
 tQ (nic x0 h) fun v2 =>
 tQ (fa 0 v2 h) fun v3 =>
 tQ (ld v3 h) fun v4 =>
 tQ (nic x0 h) fun v5 =>
 tQ (fa 1 v5 h) fun v6 =>
 tQ (ld v6 h) fun v7 =>
 tQ (maxV false [x1,(pi 0)] h) fun v8 =>
 tQ (nic x0 h) fun v9 =>
 tQ (fa 0 v9 h) fun v10 =>
 tQ (ld v10 h) fun v11 =>
 tQ (len v11 h) fun v12 =>
 tQ (nic x0 h) fun v13 =>
 tQ (fa 1 v13 h) fun v14 =>
 tQ (ld v14 h) fun v15 =>
 tQ (b_sub v12 v15 h) fun v16 =>
 tQ (maxV true [v8,v16] h) fun v17 =>
 tQ (b_add v7 v17 h) fun v18 =>
 tQ (o_slc 1 (.c v4) .none (.some (.c v18)) .none .nil h) fun v19 =>
 tQ (nic x0 h) fun v20 =>
 tQ (fa 0 v20 h) fun v21 =>
 tX (RV.toT (sto v21 v19 h)) fun v22 h23 =>
 x (T1 x0) h23) (y0 r) (y1 r)
def x81 : AC := (.shal k81_0 (.shal k81_1 .skip))
def z81 : List Rs := []
def f81 : AF := .mk x81 z81
def k83_1 : KF := fun c i x r h => (fun (x0 x1 x2 : AV) =>
 tR (b_eq x2 (pi 0) h) fun v3 h4 =>
 ifR v3 (.ret T38 h4) (tR (nic x0 h4) fun v5 h6 =>
 tR (fa 0 v5 h6) fun v7 h8 =>
 tR (ld v7 h8) fun v9 h10 =>
 tR (cK (.toInt .u8) x1 h10) fun v11 h12 =>
 tR (o_bslice 5 1 1 [(.int .u8 (.ofNat 0))] [.mk 0 1 (.c v11)] .nil h12) fun v13 h14 =>
 tR (appV 5 1 v9 v13 h14) fun v15 h16 =>
 tR (nic x0 h16) fun v17 h18 =>
 tR (fa 0 v17 h18) fun v19 h20 =>
 tR (sto v19 v15 h20) fun v21 h22 =>
 tR (bK .shr x1 (.int .u64 (.ofNat 8)) h22) fun v23 h24 =>
 tR (b_sub x2 (pi 1) h24) fun v25 h26 =>
 .go 0 (T53 x0 v23 v25) h26)) (y0 r) (y1 r) (y6 r)
def k83_0 : KF := fun c i x r h => (fun (x0 x1 x2 : AV) =>
 x (T53 x0 x1 x2) h) (y0 r) (y1 r) (y2 r)
def x83 : AC := (.scope (.shal k83_0 (.seq (.label 0) (.shal k83_1 .skip))))
def z83 : List Rs := []
def f83 : AF := .mk x83 z83
def k84_0 : KF := fun c i x r h => (fun (x0 : AV) =>
 tR (bK (.isnil .s) x0 .nils h) fun v1 h2 =>
 ifR v1 (.ret (T23 .nils) h2) (tR (o_bslice 5 1 0 [] [] .nil h2) fun v3 h4 =>
 tR (appV 5 1 v3 x0 h4) fun v5 h6 =>
 .ret (T23 v5) h6)) (y0 r)
def x84 : AC := (.shal k84_0 .skip)
def z84 : List Rs := [.t .h0 .h2]
def f84 : AF := .mk x84 z84
def k89_2 : KF := fun c i x r h => (fun (x0 x1 x2 x3 x4 : AV) =>
 tR (b_lt x4 x3 h) fun v5 h6 =>
 ifR v5 (tR (ix 1 x2 x4 h6) fun v7 h8 =>
 tR (ld v7 h8) fun v9 h10 =>
 tR (nic v9 h10) fun v11 h12 =>
 tR (fa 4 v11 h12) fun v13 h14 =>
 tR (ld v13 h14) fun v15 h16 =>
 ifR v15 (tR (nic v9 h16) fun v17 h18 =>
 tR (fa 10 v17 h18) fun v19 h20 =>
 tR (ld v19 h20) fun v21 h22 =>
 tR (maxV false [x1,v21] h22) fun v23 h24 =>
 tR (b_add x4 (pi 1) h24) fun v25 h26 =>
 .nm (T100 x0 v23 x2 x3 v25) h26) (tR (b_add x4 (pi 1) h16) fun v27 h28 =>
 .nm (T100 x0 x1 x2 x3 v27) h28)) (.ex 0 (T100 x0 x1 x2 x3 x4) h6)) (y0 r) (y3 r) (y12 r) (y13 r) (y14 r)
def k89_1 : KF := fun c i x r h => (fun (x0 x1 : AV) =>
 tR (nic x0 h) fun v2 h3 =>
 tR (fa 1 v2 h3) fun v4 h5 =>
 tR (ld v4 h5) fun v6 h7 =>
 tR (len v6 h7) fun v8 h9 =>
 x (T100 x0 x1 v6 v8 (pi 0)) h9) (y0 r) (y3 r)
def k89_6 : KF := fun c i x r h => (fun (x0 x1 x2 x3 x4 : AV) =>
 tR (ix 1 x2 x4 h) fun v5 h6 =>
 tR (ld v5 h6) fun v7 h8 =>
 tR (nic v7 h8) fun v9 h10 =>
 tR (fa 4 v9 h10) fun v11 h12 =>
 tR (ld v11 h12) fun v13 h14 =>
 tR (u_not v13 h14) fun v15 h16 =>
 ifR v15 (.ex 3 (T101 x0 x1 x2 x3 x4) h16) (tR (nic v7 h16) fun v17 h18 =>
 tR (fa 9 v17 h18) fun v19 h20 =>
 tR (ld v19 h20) fun v21 h22 =>
 tT (c 131 [v21] h22) fun v23 h24 =>
 tR (b_lt v23 x0 h24) fun v25 h26 =>
 ifR v25 (tR (nic v7 h26) fun v27 h28 =>
 tR (fa 24 v27 h28) fun v29 h30 =>
 tR (sto v29 (.bool true) h30) fun v31 h32 =>
 x (T102 x0 (.bool true) v7 x2 x3 x4) h32) (x (T102 x0 x1 v7 x2 x3 x4) h26))) (y3 r) (y6 r) (y32 r) (y33 r) (y34 r)
def k89_7 : KF := fun c i x r h => (fun (x0 x1 x2 x3 x4 : AV) =>
 tR (b_add x4 (pi 1) h) fun v5 h6 =>
 .nm (T101 x0 x1 x2 x3 v5) h6) (y3 r) (y6 r) (y32 r) (y33 r) (y34 r)
def k89_5 : KF := fun c i x r h => (fun (x0 x1 x2 x3 x4 : AV) =>
 tR (b_lt x4 x3 h) fun v5 h6 =>
 ifR v5 (x (T101 x0 x1 x2 x3 x4) h6) (.ex 2 (T10 x1) h6)) (y3 r) (y6 r) (y32 r) (y33 r) (y34 r)
def k89_4 : KF := fun c i x r h => (fun (x0 x1 x2 : AV) =>
 tR (nic x0 h) fun v3 h4 =>
 tR (fa 1 v3 h4) fun v5 h6 =>
 tR (ld v5 h6) fun v7 h8 =>
 tR (len v7 h8) fun v9 h10 =>
 x (T101 x1 x2 v7 v9 (pi 0)) h10) (y0 r) (y3 r) (y6 r)
def k89_8 : KF := fun c i x r h => (fun (x0 : AV) =>
 .ret (T23 x0) h) (y6 r)
def k89_3 : KF := fun c i x r h => (fun (x0 x1 : AV) =>
 x (T43 x0 x1 (.bool false)) h) (y0 r) (y3 r)
def k89_0 : KF := fun c i x r h => (fun (x0 : AV) =>
 x (T11 x0 (pi 0)) h) (y0 r)
def x89 : AC := (.shal k89_0 (.seq (.shal k89_1 (.block 0 (.loop (.shal k89_2 .skip)))) (.shal k89_3 (.seq (.shal k89_4 (.block 2 (.loop (.shal k89_5 (.seq (.block 3 (.shal k89_6 (.ops [m d53 r6,
 m d54 r53,
 .g .h3 .h6 false d55 (.op (.mv r8)),
 .g .h3 .h6 false d56 (.call 129 [r55]),
 o d57 (.pick r54 (.c (.bool true)) r56),
 m d58 r57,
 .g .h3 .ha false d59 (.op (.mv r8)),
 .g .h3 .ha false d60 (.op (.nilc r59)),
 .g .h3 .ha false d61 (.op (.fad 17 r60)),
 .g .h3 .ha false d62 (.op (.ld1 r61)),
 .g .h3 .ha false d63 (.op (.len r62)),
 .g .h3 .ha false d64 (.op (.bin .gt r63 a0)),
 o d65 (.pick r58 (.c (.bool true)) r64),
 m d6 r65]))) (.shal k89_7 .skip)))))) (.shal k89_8 .skip)))))
def z89 : List Rs := [.t .h0 .h2]
def f89 : AF := .mk x89 z89
def k90_1 : KF := fun c i x r h => (fun (x0 x1 x2 x3 : AV) =>
 tR (b_lt x3 x2 h) fun v4 h5 =>
 ifR v4 (tR (ix 1 x1 x3 h5) fun v6 h7 =>
 tR (ld v6 h7) fun v8 h9 =>
 tR (nic v8 h9) fun v10 h11 =>
 tR (fa 4 v10 h11) fun v12 h13 =>
 tR (ld v12 h13) fun v14 h15 =>
 ifR v14 (tT (c 44 [x0,x3,(pi 250)] h15) fun v16 h17 =>
 tR (b_add x3 (pi 1) h17) fun v18 h19 =>
 .nm (T103 x0 x1 x2 v18) h19) (tR (b_add x3 (pi 1) h15) fun v20 h21 =>
 .nm (T103 x0 x1 x2 v20) h21)) (.ex 0 (T103 x0 x1 x2 x3) h5)) (y0 r) (y7 r) (y8 r) (y9 r)
def k90_0 : KF := fun c i x r h => (fun (x0 : AV) =>
 tR (nic x0 h) fun v1 h2 =>
 tR (fa 1 v1 h2) fun v3 h4 =>
 tR (ld v3 h4) fun v5 h6 =>
 tR (len v5 h6) fun v7 h8 =>
 x (T103 x0 v5 v7 (pi 0)) h8) (y0 r)
def x90 : AC := (.shal k90_0 (.block 0 (.loop (.shal k90_1 .skip))))
def z90 : List Rs := []
def f90 : AF := .mk x90 z90
def k91_0 : KF := fun c i x r h => tR (o_mkmap .nil h) fun v0 h1 =>
 tR (o_build [(pi 0),(pi 0),.nilm,(pi 0)] [.mk 2 1 (.c v0)] .nil h1) fun v2 h3 =>
 tR (o_box 255 (.c v2) .nil h3) fun v4 h5 =>
 .ret (T1 v4) h5
def x91 : AC := (.shal k91_0 .skip)
def z91 : List Rs := [.t .h0 .h0]
def f91 : AF := .mk x91 z91
def k92_0 : KF := fun c i x r h => tR (o_mkmap .nil h) fun v0 h1 =>
 tR (o_build [.nilm,(pi 0)] [.mk 0 1 (.c v0)] .nil h1) fun v2 h3 =>
 tR (o_box 258 (.c v2) .nil h3) fun v4 h5 =>
 .ret (T1 v4) h5
def x92 : AC := (.shal k92_0 .skip)
def z92 : List Rs := [.t .h0 .h0]
def f92 : AF := .mk x92 z92
def k93_0 : KF := fun c i x r h => (fun (x0 x1 : AV) =>
 tR (o_build [(pi 0),(pi 0),(pi 0),(pi 0),(pi 0),(pi 0),.nilm,.nilm,.nilm] [.mk 0 1 (.c x0),.mk 1 1 (.c x1)] .nil h) fun v2 h3 =>
 tR (o_box 261 (.c v2) .nil h3) fun v4 h5 =>
 .ret (T22 v4) h5) (y0 r) (y1 r)
def x93 : AC := (.shal k93_0 .skip)
def z93 : List Rs := [.t .h0 .h4]
def f93 : AF := .mk x93 z93
def k94_0 : KF := fun c i x r h => (fun (x0 : AV) =>
 tR (nic x0 h) fun v1 h2 =>
 tR (fa 1 v1 h2) fun v3 h4 =>
 tR (ld v3 h4) fun v5 h6 =>
 tR (len v5 h6) fun v7 h8 =>
 .ret (T23 v7) h8) (y0 r)
def x94 : AC := (.shal k94_0 .skip)
def z94 : List Rs := [.t .h0 .h2]
def f94 : AF := .mk x94 z94
def k95_3 : KF := fun c i x r h => (fun (x0 x1 x2 x3 x4 : AV) =>
 ifR x4 (.ex 0 (T105 x0 x1 x2 x3) h) (.nm (T105 x0 x1 x2 x3) h)) (y0 r) (y4 r) (y5 r) (y6 r) (y35 r)
def k95_5 : KF := fun c i x r h => (fun (x0 x1 x2 x3 : AV) =>
 tR (b_add (pi 8) x3 h) fun v4 h5 =>
 tR (b_add x2 v4 h5) fun v6 h7 =>
 .nm (T104 x0 x1 v6) h7) (y0 r) (y4 r) (y5 r) (y6 r)
def k95_4 : KF := fun c i x r h => (fun (x0 x1 x2 x3 : AV) =>
 tR (b_add x2 (pi 8) h) fun v4 h5 =>
 tR (b_add x2 (pi 8) h5) fun v6 h7 =>
 tR (b_add v6 x3 h7) fun v8 h9 =>
 tR (o_slc 1 (.c x0) (.some (.c v4)) (.some (.c v8)) .none .nil h9) fun v10 h11 =>
 tT (c 139 [v10] h11) fun v12 h13 =>
 tR (o_ext 0 (.c v12) .nil h13) fun v14 h15 =>
 tR (o_ext 1 (.c v12) .nil h15) fun v16 h17 =>
 tR (u_not v16 h17) fun v18 h19 =>
 ifR v18 (.ex 0 (T33 x1 x2) h19) (tR (o_bslice 101 1 1 [.nils] [.mk 0 1 (.c v14)] .nil h19) fun v20 h21 =>
 tR (appV 101 1 x1 v20 h21) fun v22 h23 =>
 x (T105 x0 v22 x2 x3) h23)) (y0 r) (y4 r) (y5 r) (y6 r)
def k95_2 : KF := fun c i x r h => (fun (x0 x1 x2 : AV) =>
 tR (b_add x2 (pi 8) h) fun v3 h4 =>
 tR (o_slc 1 (.c x0) (.some (.c x2)) (.some (.c v3)) .none .nil h4) fun v5 h6 =>
 tT (c 98 [v5] h6) fun v7 h8 =>
 tT (c 107 [v7] h8) fun v9 h10 =>
 x (T105 x0 x1 x2 v9) h10) (y0 r) (y4 r) (y5 r)
def k95_1 : KF := fun c i x r h => (fun (x0 x1 x2 : AV) =>
 tR (len x0 h) fun v3 h4 =>
 tR (b_sub v3 x2 h4) fun v5 h6 =>
 tR (b_ge v5 (pi 8) h6) fun v7 h8 =>
 ifR v7 (x (T104 x0 x1 x2) h8) (.ex 0 (T33 x1 x2) h8)) (y0 r) (y4 r) (y5 r)
def k95_6 : KF := fun c i x r h => (fun (x0 x1 : AV) =>
 .ret (T7 x0 x1) h) (y4 r) (y5 r)
def k95_0 : KF := fun c i x r h => (fun (x0 : AV) =>
 x (T104 x0 .nils (pi 0)) h) (y0 r)
def x95 : AC := (.shal k95_0 (.seq (.block 0 (.loop (.shal k95_1 (.block 1 (.shal k95_2 (.seq (.seq (.ops [m d21 r6,
 o d22 (.bin .lt r21 a0),
 m d23 r22,
 .g .h1 .h7 false d24 (.op (.mv r6)),
 .g .h1 .h7 false d25 (.op (.bin .gt r24 (.c (pi 1048576)))),
 o d26 (.pick r23 (.c (.bool true)) r25),
 m d27 r26,
 .g .h1 .hb false d28 (.op (.mv r6)),
 .g .h1 .hb false d29 (.op (.mv r0)),
 .g .h1 .hb false d30 (.op (.len r29)),
 .g .h1 .hb false d31 (.op (.mv r5)),
 .g .h1 .hb false d32 (.op (.bin .sub r30 r31)),
 .g .h1 .hb false d33 (.op (.bin .sub r32 (.c (pi 8)))),
 .g .h1 .hb false d34 (.op (.bin .gt r28 r33)),
 o d35 (.pick r27 (.c (.bool true)) r34)]) (.shal k95_3 .skip)) (.shal k95_4 (.shal k95_5 .skip)))))))) (.shal k95_6 .skip)))
def z95 : List Rs := [.t .h0 .h2,.t .h0 .h3]
def f95 : AF := .mk x95 z95
def k96_0 : KF := fun c i x r h => (fun (x0 : AV) =>
 tR (nic x0 h) fun v1 h2 =>
 tR (fa 0 v1 h2) fun v3 h4 =>
 tR (ld v3 h4) fun v5 h6 =>
 tT (c 84 [v5] h6) fun v7 h8 =>
 .ret (T23 v7) h8) (y0 r)
def x96 : AC := (.shal k96_0 .skip)
def z96 : List Rs := [.t .h0 .h2]
def f96 : AF := .mk x96 z96
def k97_2 : KF := fun c i x r h => (fun (x0 x1 : AV) =>
 tT (c 107 [x1] h) fun v2 h3 =>
 tR (nic x0 h3) fun v4 h5 =>
 tR (fa 6 v4 h5) fun v6 h7 =>
 tR (sto v6 v2 h7) fun v8 h9 =>
 .nm T38 h9) (y0 r) (y1 r)
def k97_6 : KF := fun c i x r h => (fun (x0 x1 x2 x3 : AV) =>
 tQ (nic x0 h) fun v4 =>
 tQ (fa 7 v4 h) fun v5 =>
 tQ (ld v5 h) fun v6 =>
 tQ (o_ldn 2 (.c x1) .nil h) fun v7 =>
 tQ (o_build [(pi 0),(pi 0),(pi 0),(.str [])] [.mk 0 1 (.c x2),.mk 1 2 (.c v7),.mk 3 1 (.c x3)] .nil h) fun v8 =>
 tX (c 143 [v6,v8] h) fun v9 h10 =>
 .nm T38 h10) (y0 r) (y5 r) (y6 r) (y7 r)
def k97_5 : KF := fun c i x r h => (fun (x0 x1 x2 : AV) =>
 tT (c 117 [x1] h) fun v3 h4 =>
 tT (c 107 [x1] h4) fun v5 h6 =>
 tR (o_alloc 226 2 (.k1 (.mk (pi 0) (pi 0) .undef .undef .undef .undef .undef .undef .undef .undef .undef .undef .undef .undef .undef .undef)) .nil h6) fun v7 h8 =>
 tR (o_stn 2 (.c v7) (.c v3) .nil h8) fun v9 h10 =>
 tT (c 141 [x0,v5] h10) fun v11 h12 =>
 tR (b_eq x2 (pi 2) h12) fun v13 h14 =>
 ifR v13 (tT (c 142 [x1] h14) fun v15 h16 =>
 x (T110 x0 v7 v5 v15) h16) (x (T110 x0 v7 v5 v11) h14)) (y0 r) (y1 r) (y4 r)
def k97_4 : KF := fun c i x r h => (fun (x0 x1 x2 x3 : AV) =>
 tR (b_eq x3 (pi 2) h) fun v4 h5 =>
 ifR v4 (x (T109 x0 x1 x2 v4) h5) (tR (b_eq x3 (pi 3) h5) fun v6 h7 =>
 x (T109 x0 x1 x2 v6) h7)) (y0 r) (y1 r) (y4 r) (y12 r)
def k97_3 : KF := fun c i x r h => (fun (x0 x1 x2 x3 : AV) =>
 tR (b_eq x3 (pi 1) h) fun v4 h5 =>
 x (T108 x0 x1 x2 x3 v4) h5) (y0 r) (y1 r) (y4 r) (y12 r)
def k97_1 : KF := fun c i x r h => (fun (x0 x1 x2 x3 : AV) =>
 tR (b_eq x3 (pi 0) h) fun v4 h5 =>
 x (T107 x0 x1 x2 x3 v4) h5) (y0 r) (y1 r) (y4 r) (y12 r)
def k97_0 : KF := fun c i x r h => (fun (x0 x1 : AV) =>
 tT (c 116 [x1] h) fun v2 h3 =>
 x (T106 x0 x1 v2 v2) h3) (y0 r) (y1 r)
def x97 : AC := (.shal k97_0 (.block 0 (.shal k97_1 (.cond r13 (.shal k97_2 .skip) (.shal k97_3 (.cond r20 (.drw [q 0 (m d26 r1),
 w (.o d27 (.call 117 [r26])),
 q 1 (m d22 r0),
 q 1 (o d23 (.nilc r22)),
 q 1 (o d24 (.fad 7 r23)),
 q 1 (o d25 (.ld1 r24)),
 w (.o d28 (.call 140 [r25,r27,(.c (pi 1048576))]))]) (.shal k97_4 (.cond r29 (.shal k97_5 (.shal k97_6 .skip)) (.bad 0)))))))))
def z97 : List Rs := []
def f97 : AF := .mk x97 z97
def k98_0 : KF := fun c i x r h => (fun (x0 : AV) =>
 tT (c 84 [x0] h) fun v1 h2 =>
 tR (o_build [.nils,(pi 0),(pi 0),(pi 0)] [.mk 0 1 (.c v1)] .nil h2) fun v3 h4 =>
 tR (o_box 271 (.c v3) .nil h4) fun v5 h6 =>
 .ret (T23 v5) h6) (y0 r)
def x98 : AC := (.shal k98_0 .skip)
def z98 : List Rs := [.t .h0 .h2]
def f98 : AF := .mk x98 z98
def k99_1 : KF := fun c i x r h => (fun (x0 x1 x2 x3 x4 : AV) =>
 tR (b_lt x4 x3 h) fun v5 h6 =>
 ifR v5 (tR (ix 4 x2 x4 h6) fun v7 h8 =>
 tR (o_ldn 4 (.c v7) .nil h8) fun v9 h10 =>
 tR (o_alloc 234 4 (.k1 (.mk (pi 0) (pi 0) (pi 0) (.str []) .undef .undef .undef .undef .undef .undef .undef .undef .undef .undef .undef .undef)) .nil h10) fun v11 h12 =>
 tR (o_stn 4 (.c v11) (.c v9) .nil h12) fun v13 h14 =>
 tT (c 146 [(pi 2),(.fn 151 [v11])] h14) fun v15 h16 =>
 tR (appV 5 1 x1 v15 h16) fun v17 h18 =>
 tR (b_add x4 (pi 1) h18) fun v19 h20 =>
 .nm (T111 x0 v17 x2 x3 v19) h20) (.ex 0 (T111 x0 x1 x2 x3 x4) h6)) (y1 r) (y2 r) (y29 r) (y30 r) (y31 r)
def k99_5 : KF := fun c i x r h => (fun (x0 x1 x2 x3 x4 x5 x6 x7 : AV) =>
 ifR x7 (.nm (T113 x0 x1 x2 (pi 5) x4 x5 x6) h) (.nm (T113 x0 x1 x2 x3 x4 x5 x6) h)) (y1 r) (y2 r) (y6 r) (y7 r) (y50 r) (y51 r) (y52 r) (y68 r)
def k99_6 : KF := fun c i x r h => (fun (x0 x1 x2 x3 x4 x5 x6 : AV) =>
 tR (ld x0 h) fun v7 h8 =>
 tR (o_ldn 4 (.c x2) .nil h8) fun v9 h10 =>
 tT (c 158 [v7,x3,v9] h10) fun v11 h12 =>
 tR (appV 5 1 x1 v11 h12) fun v13 h14 =>
 .nm (T112 x0 v13 x4 x5 x6) h14) (y1 r) (y2 r) (y6 r) (y7 r) (y50 r) (y51 r) (y52 r)
def k99_4 : KF := fun c i x r h => (fun (x0 x1 x2 x3 x4 : AV) =>
 tR (ix 4 x2 x4 h) fun v5 h6 =>
 tR (o_ldn 4 (.c v5) .nil h6) fun v7 h8 =>
 tR (o_alloc 234 4 (.k1 (.mk (pi 0) (pi 0) (pi 0) (.str []) .undef .undef .undef .undef .undef .undef .undef .undef .undef .undef .undef .undef)) .nil h8) fun v9 h10 =>
 tR (o_stn 4 (.c v9) (.c v7) .nil h10) fun v11 h12 =>
 x (T113 x0 x1 v9 (pi 4) x2 x3 x4) h12) (y1 r) (y2 r) (y50 r) (y51 r) (y52 r)
def k99_7 : KF := fun c i x r h => (fun (x0 x1 x2 x3 x4 : AV) =>
 tR (b_add x4 (pi 1) h) fun v5 h6 =>
 .nm (T112 x0 x1 x2 x3 v5) h6) (y1 r) (y2 r) (y50 r) (y51 r) (y52 r)
def k99_3 : KF := fun c i x r h => (fun (x0 x1 x2 x3 x4 : AV) =>
 tR (b_lt x4 x3 h) fun v5 h6 =>
 ifR v5 (x (T112 x0 x1 x2 x3 x4) h6) (.ex 2 (T30 x0 x1) h6)) (y1 r) (y2 r) (y50 r) (y51 r) (y52 r)
def k99_8 : KF := fun c i x r h => (fun (x0 x1 : AV) =>
 tR (ld x0 h) fun v2 h3 =>
 tR (nic v2 h3) fun v4 h5 =>
 tR (fa 2 v4 h5) fun v6 h7 =>
 tR (ld v6 h7) fun v8 h9 =>
 tT (c 159 [v8,x1] h9) fun v10 h11 =>
 tR (b_eq v10 (pi 0) h11) fun v12 h13 =>
 ifR v12 (tR (ld x0 h13) fun v14 h15 =>
 tR (len x1 h15) fun v16 h17 =>
 tR (nic v14 h17) fun v18 h19 =>
 tR (fa 5 v18 h19) fun v20 h21 =>
 tR (sto v20 v16 h21) fun v22 h23 =>
 .nm T38 h23) (.nm T38 h13)) (y1 r) (y2 r)
def k99_2 : KF := fun c i x r h => (fun (x0 x1 : AV) =>
 tT (c 146 [(pi 1),(.fn 154 [x0])] h) fun v2 h3 =>
 tR (appV 5 1 x1 v2 h3) fun v4 h5 =>
 x (T30 x0 v4) h5) (y1 r) (y2 r)
def k99_0 : KF := fun c i x r h => (fun (x0 : AV) =>
 tR (o_box 124 (.c x0) .nil h) fun v1 h2 =>
 tT (c 146 [(pi 0),(.fn 147 [v1])] h2) fun v3 h4 =>
 tR (ld v1 h4) fun v5 h6 =>
 tR (nic v5 h6) fun v7 h8 =>
 tR (fa 13 v7 h8) fun v9 h10 =>
 tR (fa 0 v9 h10) fun v11 h12 =>
 tR (ld v11 h12) fun v13 h14 =>
 tR (b_gt v13 (pi 0) h14) fun v15 h16 =>
 ifR v15 (tT (c 146 [(pi 6),(.fn 148 [v1])] h16) fun v17 h18 =>
 tR (appV 5 1 v3 v17 h18) fun v19 h20 =>
 x (T30 v1 v19) h20) (x (T30 v1 v3) h16)) (y0 r)
def x99 : AC := (.shal k99_0 (.seq (.seq (.drw [q 0 (o d20 (.ld1 r1)),
 q 0 (o d21 (.nilc r20)),
 q 0 (o d22 (.fad 7 r21)),
 q 0 (o d23 (.ld1 r22)),
 q 0 (o d24 (.ld1 r1)),
 q 0 (o d25 (.nilc r24)),
 q 0 (o d26 (.fad 13 r25)),
 q 0 (o d27 (.fad 0 r26)),
 q 0 (o d28 (.ld1 r27)),
 w (.o d29 (.call 150 [r23,r28])),
 q 0 (o d30 (.len r29)),
 q 1 (m d31 a0)]) (.block 0 (.loop (.shal k99_1 .skip)))) (.shal k99_2 (.seq (.seq (.drw [q 0 (o d44 (.ld1 r1)),
 q 0 (o d45 (.ld1 r1)),
 q 0 (o d46 (.nilc r45)),
 q 0 (o d47 (.fad 13 r46)),
 q 0 (o d48 (.fad 0 r47)),
 q 0 (o d49 (.ld1 r48)),
 w (.o d50 (.call 156 [r44,r49])),
 q 0 (o d51 (.len r50)),
 q 1 (m d52 a0)]) (.block 2 (.loop (.shal k99_3 (.seq (.block 3 (.shal k99_4 (.seq (.seq (.drw [q 0 (o d56 (.ld1 r1)),
 q 0 (o d57 (.fad 0 r6)),
 q 0 (o d58 (.ld1 r57)),
 w (.o d59 (.call 157 [r56,r58])),
 q 0 (m d60 r59),
 q 0 (.g .h3 .hc true d61 (.op (.ld1 r1))),
 q 0 (.g .h3 .hc true d62 (.op (.fad 0 r6))),
 q 0 (.g .h3 .hc true d63 (.op (.ld1 r62))),
 w (.g .h3 .hc true d64 (.call 141 [r61,r63])),
 q 1 (.g .h3 .hc true d65 (.op (.fad 3 r6))),
 q 1 (.g .h3 .hc true d66 (.op (.ld1 r65))),
 q 0 (.g .h3 .hc true d67 (.op (.bin .seq r64 r66))),
 q 0 (o d68 (.pick r60 r67 (.c (.bool false))))]) (.shal k99_5 .skip)) (.shal k99_6 .skip)))) (.shal k99_7 .skip)))))) (.shal k99_8 .skip)))))
def z99 : List Rs := []
def f99 : AF := .mk x99 z99
def k100_2 : KF := fun c i x r h => (fun (x0 x1 x2 x3 x4 : AV) =>
 tR (b_add x4 (pi 1) h) fun v5 h6 =>
 .nm (T114 x0 x1 x2 x3 v5) h6) (y0 r) (y2 r) (y14 r) (y15 r) (y16 r)
def k100_1 : KF := fun c i x r h => (fun (x0 x1 x2 x3 x4 : AV) =>
 tR (b_lt x4 x3 h) fun v5 h6 =>
 ifR v5 (tR (ix 1 x2 x4 h6) fun v7 h8 =>
 tR (ld v7 h8) fun v9 h10 =>
 tR (b_sne v9 (.str []) h10) fun v11 h12 =>
 ifR v11 (tT (c 161 [x0,x1,v9] h12) fun v13 h14 =>
 tR (b_add x1 (pi 1) h14) fun v15 h16 =>
 x (T114 x0 v15 x2 x3 x4) h16) (tR (b_add x1 (pi 1) h12) fun v17 h18 =>
 x (T114 x0 v17 x2 x3 x4) h18)) (.ex 0 T38 h6)) (y0 r) (y2 r) (y14 r) (y15 r) (y16 r)
def k100_0 : KF := fun c i x r h => (fun (x0 : AV) =>
 tR (nic x0 h) fun v1 h2 =>
 tR (fa 9 v1 h2) fun v3 h4 =>
 tR (ld v3 h4) fun v5 h6 =>
 tT (c 135 [v5] h6) fun v7 h8 =>
 tR (nic x0 h8) fun v9 h10 =>
 tR (fa 9 v9 h10) fun v11 h12 =>
 tR (ld v11 h12) fun v13 h14 =>
 tT (c 160 [v13] h14) fun v15 h16 =>
 tR (len v15 h16) fun v17 h18 =>
 x (T114 x0 v7 v15 v17 (pi 0)) h18) (y0 r)
def x100 : AC := (.shal k100_0 (.block 0 (.loop (.shal k100_1 (.shal k100_2 .skip)))))
def z100 : List Rs := []
def f100 : AF := .mk x100 z100
def k102_3 : KF := fun c i x r h => (fun (x0 x1 x2 : AV) =>
 tR (b_add x2 (pi 1) h) fun v3 h4 =>
 .nm (T115 x0 x1 v3) h4) (y5 r) (y6 r) (y7 r)
def k102_2 : KF := fun c i x r h => (fun (x0 x1 x2 : AV) =>
 tR (b_lt x2 x1 h) fun v3 h4 =>
 ifR v3 (tR (ix 1 x0 x2 h4) fun v5 h6 =>
 tR (ld v5 h6) fun v7 h8 =>
 tR (b_lt v7 (ni 2147483647) h8) fun v9 h10 =>
 (fun (k11 : AV → Hp → RS) => gd v9 false (k11 v7 h10) (k11 .undef h10)) fun v12 h13 =>
 (fun (k14 : AV → Hp → RS) => gd v9 false (tR (b_gt v12 (pi 2147483647) h13) fun v17 h18 =>
 k14 v17 h18) (k14 .undef h13)) fun v15 h16 =>
 tR (o_pick (.c v9) (.c (.bool true)) (.c v15) .nil h16) fun v19 h20 =>
 ifR v19 (.ret (T23 (.bool false)) h20) (x (T115 x0 x1 x2) h20)) (.ex 0 T38 h4)) (y5 r) (y6 r) (y7 r)
def k102_1 : KF := fun c i x r h => (fun (x0 : AV) =>
 tR (len x0 h) fun v1 h2 =>
 x (T115 x0 v1 (pi 0)) h2) (y0 r)
def k102_4 : KF := fun c i x r h => .ret (T23 (.bool true)) h
def k102_0 : KF := fun c i x r h => (fun (x0 : AV) =>
 x (T1 x0) h) (y0 r)
def x102 : AC := (.shal k102_0 (.seq (.shal k102_1 (.block 0 (.loop (.shal k102_2 (.shal k102_3 .skip))))) (.shal k102_4 .skip)))
def z102 : List Rs := [.t .h0 .h2]
def f102 : AF := .mk x102 z102
def k103_2 : KF := fun c i x r h => (fun (x0 x1 x2 : AV) =>
 tR (b_lt x2 x1 h) fun v3 h4 =>
 ifR v3 (tR (ix 1 x0 x2 h4) fun v5 h6 =>
 tR (ld v5 h6) fun v7 h8 =>
 tR (lent v7 h8) fun v9 h10 =>
 tR (b_gt v9 (pi 65535) h10) fun v11 h12 =>
 ifR v11 (.ret (T23 (.bool false)) h12) (tR (b_add x2 (pi 1) h12) fun v13 h14 =>
 .nm (T115 x0 x1 v13) h14)) (.ex 0 (T115 x0 x1 x2) h4)) (y5 r) (y6 r) (y7 r)
def k103_1 : KF := fun c i x r h => (fun (x0 : AV) =>
 tR (len x0 h) fun v1 h2 =>
 x (T115 x0 v1 (pi 0)) h2) (y0 r)
def k103_3 : KF := fun c i x r h => .ret (T23 (.bool true)) h
def k103_0 : KF := fun c i x r h => (fun (x0 : AV) =>
 x (T1 x0) h) (y0 r)
def x103 : AC := (.shal k103_0 (.seq (.shal k103_1 (.block 0 (.loop (.shal k103_2 .skip)))) (.shal k103_3 .skip)))
def z103 : List Rs := [.t .h0 .h2]
def f103 : AF := .mk x103 z103
def k105_0 : KF := fun c i x r h => (fun (x0 x1 : AV) =>
 tR (cK (.toInt .u64) x1 h) fun v2 h3 =>
 tT (c 83 [x0,v2,(pi 2)] h3) fun v4 h5 =>
 .nm T38 h5) (y0 r) (y1 r)
def x105 : AC := (.shal k105_0 .skip)
def z105 : List Rs := []
def f105 : AF := .mk x105 z105
def k106_4 : KF := fun c i x r h => (fun (x0 x1 x2 x3 : AV) =>
 tR (b_add (pi 1) x3 h) fun v4 h5 =>
 tR (o_slca 24 1 (.c x1) (.some (.c (pi 1))) (.some (.c v4)) .none .nil h5) fun v6 h7 =>
 tT (c 164 [v6,x2] h7) fun v8 h9 =>
 tR (b_lt x0 (pi 0) h9) fun v10 h11 =>
 ifR v10 (tR (o_ixa 24 1 (.c x1) (.c (pi 0)) .nil h11) fun v12 h13 =>
 tR (sto v12 (.int .u8 (.ofNat 45)) h13) fun v14 h15 =>
 tR (b_add (pi 1) x3 h15) fun v16 h17 =>
 tR (o_slca 24 1 (.c x1) .none (.some (.c v16)) .none .nil h17) fun v18 h19 =>
 tR (cK .b2s v18 h19) fun v20 h21 =>
 .ret (T22 v20) h21) (tR (b_add (pi 1) x3 h11) fun v22 h23 =>
 tR (o_slca 24 1 (.c x1) (.some (.c (pi 1))) (.some (.c v22)) .none .nil h23) fun v24 h25 =>
 tR (cK .b2s v24 h25) fun v26 h27 =>
 .ret (T22 v26) h27)) (y0 r) (y5 r) (y6 r) (y7 r)
def k106_3 : KF := fun c i x r h => (fun (x0 : AV) =>
 tR (o_alloc 280 24 (.k2 (.mk (.mk (.int .u8 (.ofNat 0)) (.int .u8 (.ofNat 0)) (.int .u8 (.ofNat 0)) (.int .u8 (.ofNat 0)) (.int .u8 (.ofNat 0)) (.int .u8 (.ofNat 0)) (.int .u8 (.ofNat 0)) (.int .u8 (.ofNat 0)) (.int .u8 (.ofNat 0)) (.int .u8 (.ofNat 0)) (.int .u8 (.ofNat 0)) (.int .u8 (.ofNat 0)) (.int .u8 (.ofNat 0)) (.int .u8 (.ofNat 0)) (.int .u8 (.ofNat 0)) (.int .u8 (.ofNat 0))) (.mk (.int .u8 (.ofNat 0)) (.int .u8 (.ofNat 0)) (.int .u8 (.ofNat 0)) (.int .u8 (.ofNat 0)) (.int .u8 (.ofNat 0)) (.int .u8 (.ofNat 0)) (.int .u8 (.ofNat 0)) (.int .u8 (.ofNat 0)) .undef .undef .undef .undef .undef .undef .undef .undef) .nil .nil .nil .nil .nil .nil .nil .nil .nil .nil .nil .nil .nil .nil)) .nil h) fun v1 h2 =>
 tR (cK (.toInt .u64) x0 h2) fun v3 h4 =>
 tR (b_lt x0 (pi 0) h4) fun v5 h6 =>
 ifR v5 (tR (u_neg v3 h6) fun v7 h8 =>
 tT (c 163 [v7] h8) fun v9 h10 =>
 x (T110 x0 v1 v7 v9) h10) (tT (c 163 [v3] h6) fun v11 h12 =>
 x (T110 x0 v1 v3 v11) h12)) (y0 r)
def k106_2 : KF := fun c i x r h => (fun (x0 : AV) =>
 tR (b_le (pi 0) x0 h) fun v1 h2 =>
 (fun (k3 : AV → Hp → RS) => gd v1 true (k3 x0 h2) (k3 .undef h2)) fun v4 h5 =>
 (fun (k6 : AV → Hp → RS) => gd v1 true (tR (b_lt v4 (pi 100) h5) fun v9 h10 =>
 k6 v9 h10) (k6 .undef h5)) fun v7 h8 =>
 tR (o_pick (.c v1) (.c v7) (.c (.bool false)) .nil h8) fun v11 h12 =>
 ifR v11 (tT (c 162 [x0] h12) fun v13 h14 =>
 .ret (T22 v13) h14) (x (T1 x0) h12)) (y0 r)
def k106_1 : KF := fun c i x r h => (fun (x0 x1 : AV) =>
 tR (b_eq x1 (pi 10) h) fun v2 h3 =>
 x (T116 x0 x1 v2) h3) (y0 r) (y1 r)
def k106_5 : KF := fun c i x r h => (fun (x0 x1 : AV) =>
 tR (cK (.toInt .u64) x0 h) fun v2 h3 =>
 tR (b_lt x0 (pi 0) h3) fun v4 h5 =>
 tT (c 165 [.nils,v2,x1,v4,(.bool false)] h5) fun v6 h7 =>
 tR (o_ext 0 (.c v6) .nil h7) fun v8 h9 =>
 tR (o_ext 1 (.c v6) .nil h9) fun v10 h11 =>
 .ret (T22 v10) h11) (y0 r) (y1 r)
def k106_0 : KF := fun c i x r h => (fun (x0 x1 : AV) =>
 x (T50 x0 x1) h) (y0 r) (y1 r)
def x106 : AC := (.shal k106_0 (.seq (.shal k106_1 (.cond r11 (.shal k106_2 (.shal k106_3 (.shal k106_4 .skip))) .skip)) (.shal k106_5 .skip)))
def z106 : List Rs := [.t .h0 .h4]
def f106 : AF := .mk x106 z106
def k107_0 : KF := fun c i x r h => (fun (x0 : AV) =>
 tT (c 166 [x0,(pi 8)] h) fun v1 h2 =>
 tR (cK (.toInt .i64) v1 h2) fun v3 h4 =>
 .ret (T23 v3) h4) (y0 r)
def x107 : AC := (.shal k107_0 .skip)
def z107 : List Rs := [.t .h0 .h2]
def f107 : AF := .mk x107 z107
def k109_0 : KF := fun c i x r h => (fun (x0 : AV) =>
 tR (bK (.isnil .s) x0 .nils h) fun v1 h2 =>
 ifR v1 (.ret (T23 .nils) h2) (tR (o_bslice 9 1 0 [] [] .nil h2) fun v3 h4 =>
 tR (appV 9 1 v3 x0 h4) fun v5 h6 =>
 .ret (T23 v5) h6)) (y0 r)
def x109 : AC := (.shal k109_0 .skip)
def z109 : List Rs := [.t .h0 .h2]
def f109 : AF := .mk x109 z109
def k110_3 : KF := fun c i x r h => (fun (x0 x1 x2 x3 x4 : AV) =>
 tR (b_sub x4 (pi 1) h) fun v5 h6 =>
 .nm (T118 x0 x1 x2 x3 v5) h6) (y0 r) (y2 r) (y4 r) (y5 r) (y6 r)
def k110_2 : KF := fun c i x r h => (fun (x0 x1 x2 x3 x4 : AV) =>
 tR (b_gt x4 (pi 0) h) fun v5 h6 =>
 ifR v5 (tT (c 175 [x2,(pi 65535)] h6) fun v7 h8 =>
 tR (o_build [(.str []),(pi 0)] [.mk 0 1 (.c v7)] .nil h8) fun v9 h10 =>
 tR (o_alloc 80 2 (.k1 (.mk (.str []) (pi 0) .undef .undef .undef .undef .undef .undef .undef .undef .undef .undef .undef .undef .undef .undef)) .nil h10) fun v11 h12 =>
 tR (o_stn 2 (.c v11) (.c v9) .nil h12) fun v13 h14 =>
 tT (c 107 [x2] h14) fun v15 h16 =>
 tR (fa 1 v11 h16) fun v17 h18 =>
 tR (sto v17 v15 h18) fun v19 h20 =>
 tR (fa 5 x3 h20) fun v21 h22 =>
 tR (ld v21 h22) fun v23 h24 =>
 tR (o_ldn 2 (.c v11) .nil h24) fun v25 h26 =>
 tR (o_bslice 80 2 1 [(.str []),(pi 0)] [.mk 0 2 (.c v25)] .nil h26) fun v27 h28 =>
 tR (appV 80 2 v23 v27 h28) fun v29 h30 =>
 tR (fa 5 x3 h30) fun v31 h32 =>
 tR (sto v31 v29 h32) fun v33 h34 =>
 x (T118 x0 x1 x2 x3 x4) h34) (.ex 0 (T117 x0 x1 x2 x3) h6)) (y0 r) (y2 r) (y4 r) (y5 r) (y6 r)
def k110_1 : KF := fun c i x r h => (fun (x0 x1 x2 x3 : AV) =>
 tT (c 116 [x2] h) fun v4 h5 =>
 x (T118 x0 x1 x2 x3 v4) h5) (y0 r) (y2 r) (y4 r) (y5 r)
def k110_6 : KF := fun c i x r h => (fun (x0 x1 x2 x3 x4 : AV) =>
 tR (b_sub x4 (pi 1) h) fun v5 h6 =>
 .nm (T119 x0 x1 x2 x3 v5) h6) (y0 r) (y2 r) (y4 r) (y5 r) (y8 r)
def k110_5 : KF := fun c i x r h => (fun (x0 x1 x2 x3 x4 : AV) =>
 tR (b_gt x4 (pi 0) h) fun v5 h6 =>
 ifR v5 (x (T119 x0 x1 x2 x3 x4) h6) (.ex 2 (T117 x0 x1 x2 x3) h6)) (y0 r) (y2 r) (y4 r) (y5 r) (y8 r)
def k110_4 : KF := fun c i x r h => (fun (x0 x1 x2 x3 : AV) =>
 tT (c 116 [x2] h) fun v4 h5 =>
 x (T119 x0 x1 x2 x3 v4) h5) (y0 r) (y2 r) (y4 r) (y5 r)
def k110_8 : KF := fun c i x r h => (fun (x0 x1 x2 : AV) =>
 ifR x2 (tR (o_build [(pi 0),(pi 0),(pi 0),(.str []),(.str []),.nils,.nils] [] .nil h) fun v3 h4 =>
 tR (o_stn 7 (.c x0) (.c v3) .nil h4) fun v5 h6 =>
 .ret (T7 x0 (pi 12)) h6) (.nm (T121 x0 x1) h)) (y2 r) (y5 r) (y75 r)
def k110_7 : KF := fun c i x r h => (fun (x0 x1 x2 x3 : AV) =>
 tT (c 171 [x2] h) fun v4 h5 =>
 tR (o_ext 0 (.c v4) .nil h5) fun v6 h7 =>
 tR (o_ext 1 (.c v4) .nil h7) fun v8 h9 =>
 x (T120 x0 x1 x3 v6) h9) (y0 r) (y2 r) (y4 r) (y5 r)
def k110_9 : KF := fun c i x r h => (fun (x0 x1 : AV) =>
 tR (o_ldn 7 (.c x1) .nil h) fun v2 h3 =>
 tR (o_stn 7 (.c x0) (.c v2) .nil h3) fun v4 h5 =>
 .ret (T7 x0 (pi 0)) h5) (y2 r) (y5 r)
def k110_0 : KF := fun c i x r h => (fun (x0 : AV) =>
 tR (o_alloc 30 7 (.k1 (.mk (pi 0) (pi 0) (pi 0) (.str []) (.str []) .nils .nils .undef .undef .undef .undef .undef .undef .undef .undef .undef)) .nil h) fun v1 h2 =>
 tT (c 98 [x0] h2) fun v3 h4 =>
 tT (c 107 [v3] h4) fun v5 h6 =>
 tT (c 107 [v3] h6) fun v7 h8 =>
 tT (c 107 [v3] h8) fun v9 h10 =>
 tR (o_build [(pi 0),(pi 0),(pi 0),(.str []),(.str []),.nils,.nils] [.mk 0 1 (.c v5),.mk 1 1 (.c v7),.mk 2 1 (.c v9)] .nil h10) fun v11 h12 =>
 tR (o_alloc 30 7 (.k1 (.mk (pi 0) (pi 0) (pi 0) (.str []) (.str []) .nils .nils .undef .undef .undef .undef .undef .undef .undef .undef .undef)) .nil h12) fun v13 h14 =>
 tR (o_stn 7 (.c v13) (.c v11) .nil h14) fun v15 h16 =>
 tT (c 175 [v3,(pi 65535)] h16) fun v17 h18 =>
 tR (fa 3 v13 h18) fun v19 h20 =>
 tR (sto v19 v17 h20) fun v21 h22 =>
 tT (c 175 [v3,(pi 65535)] h22) fun v23 h24 =>
 tR (fa 4 v13 h24) fun v25 h26 =>
 tR (sto v25 v23 h26) fun v27 h28 =>
 x (T117 x0 v1 v3 v13) h28) (y0 r)
def x110 : AC := (.shal k110_0 (.seq (.shal k110_1 (.block 0 (.loop (.shal k110_2 (.shal k110_3 .skip))))) (.seq (.shal k110_4 (.block 2 (.loop (.shal k110_5 (.seq (.block 3 (.drw [q 0 (m d52 r4),
 w (.o d53 (.call 176 [r52])),
 w (o d54 (.bslice 153 3 1 [(.str []),.nils,(.bool false)] [.mk 0 3 r53])),
 q 2 (o d50 (.fad 6 r5)),
 q 2 (o d51 (.ld1 r50)),
 w (o d55 (.app 153 3 r51 r54)),
 q 0 (o d56 (.fad 6 r5)),
 w (o .no (.st1 r56 r55))])) (.shal k110_6 .skip)))))) (.seq (.shal k110_7 (.seq (.ops [m d62 r9,
 o d63 (.bin .ne r62 a0),
 m d64 r63,
 .g .h4 .h0 false d65 (.op (.ldn 7 r5)),
 .g .h4 .h0 false d66 (.call 61 [r65]),
 .g .h4 .h0 false d67 (.op (.un .not r66)),
 o d68 (.pick r64 (.c (.bool true)) r67),
 m d69 r68,
 .g .h4 .h5 false d70 (.op (.ldn 7 r5)),
 .g .h4 .h5 false d71 (.call 35 [r70]),
 .g .h4 .h5 false d72 (.op (.mv r0)),
 .g .h4 .h5 false d73 (.call 174 [r71,r72]),
 .g .h4 .h5 false d74 (.op (.un .not r73)),
 o d75 (.pick r69 (.c (.bool true)) r74)]) (.shal k110_8 .skip))) (.shal k110_9 .skip)))))
def z110 : List Rs := [.agg 7 .h0 .h2,.t .h0 .h3]
def f110 : AF := .mk x110 z110
def k111_2 : KF := fun c i x r h => (fun (x0 x1 : AV) =>
 tR (o_ldn 3 (.c x1) .nil h) fun v2 h3 =>
 tR (o_stn 3 (.c x0) (.c v2) .nil h3) fun v4 h5 =>
 .ret (T22 x0) h5) (y4 r) (y6 r)
def k111_1 : KF := fun c i x r h => (fun (x0 x1 x2 x3 x4 : AV) =>
 tR (b_eq x3 (pi 1) h) fun v5 h6 =>
 ifR v5 (tR (o_ldn 7 (.c x1) .nil h6) fun v7 h8 =>
 tT (c 178 [x0,v7] h8) fun v9 h10 =>
 tR (o_stn 3 (.c x4) (.c v9) .nil h10) fun v11 h12 =>
 tQ (nic x0 h12) fun v13 =>
 tQ (fa 3 v13 h12) fun v14 =>
 tQ (ld v14 h12) fun v15 =>
 tQ (fa 0 x1 h12) fun v16 =>
 tQ (ld v16 h12) fun v17 =>
 tQ (fa 1 x1 h12) fun v18 =>
 tQ (ld v18 h12) fun v19 =>
 tQ (o_ldn 3 (.c x4) .nil h12) fun v20 =>
 tX (c 179 [v15,v17,v19,v20] h12) fun v21 h22 =>
 x (T122 x2 x4) h22) (tR (b_eq x3 (pi 3) h6) fun v23 h24 =>
 ifR v23 (tR (o_build [(pi 0),(pi 0),(.str [])] [.mk 0 1 (.c (pi 28))] .nil h24) fun v25 h26 =>
 tR (o_stn 3 (.c x4) (.c v25) .nil h26) fun v27 h28 =>
 x (T122 x2 x4) h28) (tR (b_eq x3 (pi 0) h24) fun v29 h30 =>
 ifR v29 (tR (o_build [(pi 0),(pi 0),(.str [])] [.mk 0 1 (.c (pi 1))] .nil h30) fun v31 h32 =>
 tR (o_stn 3 (.c x4) (.c v31) .nil h32) fun v33 h34 =>
 x (T122 x2 x4) h34) (x (T122 x2 x4) h30)))) (y0 r) (y3 r) (y4 r) (y5 r) (y6 r)
def k111_0 : KF := fun c i x r h => (fun (x0 x1 : AV) =>
 tR (o_box 30 (.c x1) .nil h) fun v2 h3 =>
 tR (o_alloc 24 3 (.k1 (.mk (pi 0) (pi 0) (.str []) .undef .undef .undef .undef .undef .undef .undef .undef .undef .undef .undef .undef .undef)) .nil h3) fun v4 h5 =>
 tQ (nic x0 h5) fun v6 =>
 tQ (fa 3 v6 h5) fun v7 =>
 tQ (ld v7 h5) fun v8 =>
 tQ (fa 0 v2 h5) fun v9 =>
 tQ (ld v9 h5) fun v10 =>
 tQ (fa 1 v2 h5) fun v11 =>
 tQ (ld v11 h5) fun v12 =>
 tX (c 177 [v8,v10,v12] h5) fun v13 h14 =>
 tQ (o_ext 0 (.c v13) .nil h14) fun v15 =>
 tQ (o_ext 1 (.c v13) .nil h14) fun v16 =>
 tR (o_alloc 24 3 (.k1 (.mk (pi 0) (pi 0) (.str []) .undef .undef .undef .undef .undef .undef .undef .undef .undef .undef .undef .undef .undef)) .nil h14) fun v17 h18 =>
 tX (RV.toT (o_stn 3 (.c v17) (.c v16) .nil h18)) fun v19 h20 =>
 x (T92 x0 v2 v4 v15 v17) h20) (y0 r) (y1 r)
def x111 : AC := (.shal k111_0 (.shal k111_1 (.shal k111_2 .skip)))
def z111 : List Rs := [.agg 3 .h0 .h4]
def f111 : AF := .mk x111 z111
def k112_0 : KF := fun c i x r h => (fun (x0 x1 x2 : AV) =>
 tR (o_alloc 24 3 (.k1 (.mk (pi 0) (pi 0) (.str []) .undef .undef .undef .undef .undef .undef .undef .undef .undef .undef .undef .undef .undef)) .nil h) fun v3 h4 =>
 tR (nic x0 h4) fun v5 h6 =>
 tR (fa 3 v5 h6) fun v7 h8 =>
 tR (ld v7 h8) fun v9 h10 =>
 tT (c 177 [v9,x1,x2] h10) fun v11 h12 =>
 tR (o_ext 0 (.c v11) .nil h12) fun v13 h14 =>
 tR (o_ext 1 (.c v11) .nil h14) fun v15 h16 =>
 tR (o_alloc 24 3 (.k1 (.mk (pi 0) (pi 0) (.str []) .undef .undef .undef .undef .undef .undef .undef .undef .undef .undef .undef .undef .undef)) .nil h16) fun v17 h18 =>
 tR (o_stn 3 (.c v17) (.c v15) .nil h18) fun v19 h20 =>
 tR (o_ldn 3 (.c v17) .nil h20) fun v21 h22 =>
 tR (b_eq v13 (pi 2) h22) fun v23 h24 =>
 tR (o_stn 3 (.c v3) (.c v21) .nil h24) fun v25 h26 =>
 .ret (T5 v3 v23) h26) (y0 r) (y1 r) (y2 r)
def x112 : AC := (.shal k112_0 .skip)
def z112 : List Rs := [.agg 3 .h0 .h6,.t .h0 .h7]
def f112 : AF := .mk x112 z112
def k113_0 : KF := fun c i x r h => (fun (x0 x1 : AV) =>
 tR (nic x0 h) fun v2 h3 =>
 tR (fa 2 v2 h3) fun v4 h5 =>
 tR (ld v4 h5) fun v6 h7 =>
 tR (lkp (.one .s) .nilp false v6 x1 h7) fun v8 h9 =>
 tR (bK .peq v8 .nilp h9) fun v10 h11 =>
 ifR v10 (.ret (T33 .nils (.bool false)) h11) (tT (c 180 [v8] h11) fun v12 h13 =>
 .ret (T33 v12 (.bool true)) h13)) (y0 r) (y1 r)
def x113 : AC := (.shal k113_0 .skip)
def z113 : List Rs := [.t .h0 .h4,.t .h0 .h5]
def f113 : AF := .mk x113 z113
def k114_1 : KF := fun c i x r h => (fun (x0 x1 x2 : AV) =>
 ifR x2 (.nm (T123 x0 x1) h) (.ex 0 (T123 x0 x1) h)) (y0 r) (y2 r) (y17 r)
def k114_3 : KF := fun c i x r h => (fun (x0 x1 x2 x3 : AV) =>
 ifR x3 (.ex 1 (T124 x0 x1 x2) h) (.nm (T124 x0 x1 x2) h)) (y0 r) (y2 r) (y3 r) (y36 r)
def k114_5 : KF := fun c i x r h => (fun (x0 : AV) =>
 .nm (T123 x0 (ni 0)) h) (y0 r)
def k114_4 : KF := fun c i x r h => (fun (x0 x1 x2 : AV) =>
 tQ (nic x0 h) fun v3 =>
 tQ (fa 17 v3 h) fun v4 =>
 tQ (ld v4 h) fun v5 =>
 tQ (nic x0 h) fun v6 =>
 tQ (fa 21 v6 h) fun v7 =>
 tQ (ld v7 h) fun v8 =>
 tQ (ix 6 v5 x1 h) fun v9 =>
 tQ (fa 5 v9 h) fun v10 =>
 tX (RV.toT (sto v10 v8 h)) fun v11 h12 =>
 tR (nic x0 h12) fun v13 h14 =>
 tR (fa 21 v13 h14) fun v15 h16 =>
 tR (ld v15 h16) fun v17 h18 =>
 tR (b_add v17 (pi 1) h18) fun v19 h20 =>
 tR (nic x0 h20) fun v21 h22 =>
 tR (fa 21 v21 h22) fun v23 h24 =>
 tR (sto v23 v19 h24) fun v25 h26 =>
 x (T11 x0 x2) h26) (y0 r) (y2 r) (y3 r)
def k114_2 : KF := fun c i x r h => (fun (x0 x1 : AV) =>
 tR (nic x0 h) fun v2 h3 =>
 tR (fa 17 v2 h3) fun v4 h5 =>
 tR (ld v4 h5) fun v6 h7 =>
 tR (ix 6 v6 x1 h7) fun v8 h9 =>
 tR (o_ldn 6 (.c v8) .nil h9) fun v10 h11 =>
 tR (o_alloc 224 6 (.k1 (.mk (pi 0) (pi 0) (pi 0) (.bool false) (.str []) (pi 0) .undef .undef .undef .undef .undef .undef .undef .undef .undef .undef)) .nil h11) fun v12 h13 =>
 tR (o_stn 6 (.c v12) (.c v10) .nil h13) fun v14 h15 =>
 x (T124 x0 x1 v12) h15) (y0 r) (y2 r)
def k114_6 : KF := fun c i x r h => (fun (x0 x1 : AV) =>
 tR (b_add x1 (pi 1) h) fun v2 h3 =>
 .nm (T123 x0 v2) h3) (y0 r) (y2 r)
def k114_0 : KF := fun c i x r h => (fun (x0 : AV) =>
 x (T123 x0 (pi 0)) h) (y0 r)
def x114 : AC := (.shal k114_0 (.block 0 (.loop (.seq (.seq (.ops [m d4 r2,
 m d5 r0,
 o d6 (.nilc r5),
 o d7 (.fad 17 r6),
 o d8 (.ld1 r7),
 o d9 (.len r8),
 o d10 (.bin .lt r4 r9),
 m d11 r10,
 .g .h0 .hb true d12 (.op (.mv r0)),
 .g .h0 .hb true d13 (.op (.nilc r12)),
 .g .h0 .hb true d14 (.op (.fad 19 r13)),
 .g .h0 .hb true d15 (.op (.ld1 r14)),
 .g .h0 .hb true d16 (.op (.bin .eq r15 a2)),
 o d17 (.pick r11 r16 (.c (.bool false)))]) (.shal k114_1 .skip)) (.seq (.block 1 (.shal k114_2 (.seq (.seq (.ops [o d27 (.fad 5 r3),
 o d28 (.ld1 r27),
 o d29 (.bin .ge r28 a0),
 m d30 r29,
 .g .h1 .he false d31 (.op (.mv r0)),
 .g .h1 .he false d32 (.op (.nilc r31)),
 .g .h1 .he false d33 (.op (.fad 21 r32)),
 .g .h1 .he false d34 (.op (.ld1 r33)),
 .g .h1 .he false d35 (.op (.bin .ge r34 (.c (pi 1048576)))),
 o d36 (.pick r30 (.c (.bool true)) r35)]) (.shal k114_3 .skip)) (.shal k114_4 (.seq (.drw [q 0 (o d61 (.ldn 6 r3)),
 w (.o d62 (.call 182 [r61])),
 q 1 (m d55 r0),
 q 1 (m d56 r0),
 q 1 (o d57 (.nilc r56)),
 q 1 (o d58 (.fad 21 r57)),
 q 1 (o d59 (.ld1 r58)),
 q 1 (o d60 (.bin .sub r59 a1)),
 w (.o d63 (.call 181 [r55,r60,r62]))]) (.shal k114_5 .skip)))))) (.shal k114_6 .skip))))))
def z114 : List Rs := []
def f114 : AF := .mk x114 z114
def k115_1 : KF := fun c i x r h => (fun (x0 x1 x2 : AV) =>
 tR (ld x0 h) fun v3 h4 =>
 tT (c 132 [v3,(pi 1),(.fn 184 [x1,x2,x0])] h4) fun v5 h6 =>
 tR (ld x0 h6) fun v7 h8 =>
 tT (c 185 [v7] h8) fun v9 h10 =>
 .nm T38 h10) (y1 r) (y2 r) (y3 r)
def k115_0 : KF := fun c i x r h => (fun (x0 : AV) =>
 tR (o_box 124 (.c x0) .nil h) fun v1 h2 =>
 x (T31 v1) h2) (y0 r)
def x115 : AC := (.shal k115_0 (.seq (.drw [q 0 (o d8 (.ld1 r1)),
 q 0 (o d9 (.nilc r8)),
 q 0 (o d10 (.fad 7 r9)),
 q 0 (o d11 (.ld1 r10)),
 w (.o d12 (.call 155 [r11])),
 q 1 (o d4 (.ld1 r1)),
 q 1 (o d5 (.nilc r4)),
 q 1 (o d6 (.fad 8 r5)),
 q 1 (o d7 (.ld1 r6)),
 w (.o d13 (.call 118 [r7,r12]))]) (.seq (.drw [q 0 (o d14 (.ld1 r1)),
 q 0 (o d17 (.nilc r14)),
 q 0 (o d18 (.fad 19 r17)),
 w (o .no (.st1 r18 a1)),
 q 1 (o d15 (.ld1 r1)),
 q 0 (o d19 (.nilc r15)),
 q 0 (o d20 (.fad 20 r19)),
 n (o d16 (.mkmap)),
 w (o .no (.st1 r20 r16))]) (.seq (.drw [q 0 (o d25 (.ld1 r1)),
 q 0 (o d26 (.nilc r25)),
 q 0 (o d27 (.fad 9 r26)),
 q 0 (o d28 (.ld1 r27)),
 w (.o d29 (.call 131 [r28])),
 q 1 (o d21 (.ld1 r1)),
 q 1 (o d22 (.nilc r21)),
 q 1 (o d23 (.fad 8 r22)),
 q 1 (o d24 (.ld1 r23)),
 w (.o d30 (.call 183 [r24,r29])),
 q 2 (o d31 (.ld1 r1)),
 q 2 (o d32 (.nilc r31)),
 q 2 (o d33 (.fad 9 r32)),
 q 2 (o d34 (.ld1 r33)),
 w (.o d35 (.call 131 [r34])),
 n (o d2 (.alloc 226 2 (.k1 (.mk (pi 0) (pi 0) .undef .undef .undef .undef .undef .undef .undef .undef .undef .undef .undef .undef .undef .undef)))),
 n (o d3 (.alloc 3 1 (.k1 (.mk (pi 0) .undef .undef .undef .undef .undef .undef .undef .undef .undef .undef .undef .undef .undef .undef .undef)))),
 w (o .no (.stn 2 r2 r30)),
 w (o .no (.st1 r3 r35))]) (.shal k115_1 .skip)))))
def z115 : List Rs := []
def f115 : AF := .mk x115 z115
def k116_0 : KF := fun c i x r h => (fun (x0 : AV) =>
 tT (c 166 [x0,(pi 1)] h) fun v1 h2 =>
 tR (cK (.toInt .i64) v1 h2) fun v3 h4 =>
 .ret (T23 v3) h4) (y0 r)
def x116 : AC := (.shal k116_0 .skip)
def z116 : List Rs := [.t .h0 .h2]
def f116 : AF := .mk x116 z116
def k117_0 : KF := fun c i x r h => (fun (x0 : AV) =>
 tR (o_alloc 226 2 (.k1 (.mk (pi 0) (pi 0) .undef .undef .undef .undef .undef .undef .undef .undef .undef .undef .undef .undef .undef .undef)) .nil h) fun v1 h2 =>
 tT (c 107 [x0] h2) fun v3 h4 =>
 tT (c 107 [x0] h4) fun v5 h6 =>
 tR (o_build [(pi 0),(pi 0)] [.mk 0 1 (.c v3),.mk 1 1 (.c v5)] .nil h6) fun v7 h8 =>
 tR (o_stn 2 (.c v1) (.c v7) .nil h8) fun v9 h10 =>
 .ret (T23 v1) h10) (y0 r)
def x117 : AC := (.shal k117_0 .skip)
def z117 : List Rs := [.agg 2 .h0 .h2]
def f117 : AF := .mk x117 z117
def k118_0 : KF := fun c i x r h => (fun (x0 x1 : AV) =>
 tR (o_box 226 (.c x1) .nil h) fun v2 h3 =>
 tQ (nic x0 h3) fun v4 =>
 tQ (fa 2 v4 h3) fun v5 =>
 tQ (ld v5 h3) fun v6 =>
 tQ (fa 0 v2 h3) fun v7 =>
 tQ (ld v7 h3) fun v8 =>
 tQ (maxV false [v6,v8] h3) fun v9 =>
 tQ (nic x0 h3) fun v10 =>
 tQ (fa 2 v10 h3) fun v11 =>
 tX (RV.toT (sto v11 v9 h3)) fun v12 h13 =>
 .nm T38 h13) (y0 r) (y1 r)
def x118 : AC := (.shal k118_0 .skip)
def z118 : List Rs := []
def f118 : AF := .mk x118 z118
def k119_1 : KF := fun c i x r h => (fun (x0 x1 x2 x3 x4 : AV) =>
 tR (ld x1 h) fun v5 h6 =>
 tR (o_ldn 2 (.c x2) .nil h6) fun v7 h8 =>
 tR (ld x3 h8) fun v9 h10 =>
 tT (c 186 [v5,v7,v9] h10) fun v11 h12 =>
 tR (o_ext 0 (.c v11) .nil h12) fun v13 h14 =>
 tR (o_ext 1 (.c v11) .nil h14) fun v15 h16 =>
 tR (o_alloc 231 1 (.k1 (.mk .nils .undef .undef .undef .undef .undef .undef .undef .undef .undef .undef .undef .undef .undef .undef .undef)) .nil h16) fun v17 h18 =>
 tR (sto v17 v13 h18) fun v19 h20 =>
 tR (u_not v15 h20) fun v21 h22 =>
 ifR v21 (tR (ld x1 h22) fun v23 h24 =>
 tT (c 187 [v23,x0] h24) fun v25 h26 =>
 .ret T38 h26) (tR (ld x1 h22) fun v27 h28 =>
 tR (o_ldn 2 (.c x2) .nil h28) fun v29 h30 =>
 tT (c 123 [v27,v29] h30) fun v31 h32 =>
 tR (ld x1 h32) fun v33 h34 =>
 tT (c 188 [v33,x0,(pi 2),(.fn 189 [x2,x4,v17,x1,x3])] h34) fun v35 h36 =>
 .nm T38 h36)) (y1 r) (y4 r) (y6 r) (y8 r) (y9 r)
def k119_0 : KF := fun c i x r h => (fun (x0 x1 x2 x3 : AV) =>
 tR (o_box 124 (.c x0) .nil h) fun v4 h5 =>
 tR (o_box 226 (.c x2) .nil h5) fun v6 h7 =>
 tT (c 107 [x3] h7) fun v8 h9 =>
 tT (c 107 [x3] h9) fun v10 h11 =>
 tR (o_alloc 3 1 (.k1 (.mk (pi 0) .undef .undef .undef .undef .undef .undef .undef .undef .undef .undef .undef .undef .undef .undef .undef)) .nil h11) fun v12 h13 =>
 tR (o_alloc 2 1 (.k1 (.mk (pi 0) .undef .undef .undef .undef .undef .undef .undef .undef .undef .undef .undef .undef .undef .undef .undef)) .nil h13) fun v14 h15 =>
 tR (sto v12 v8 h15) fun v16 h17 =>
 tR (sto v14 v10 h17) fun v18 h19 =>
 tQ (ld v12 h19) fun v20 =>
 tQ (ld v4 h19) fun v21 =>
 tQ (nic v21 h19) fun v22 =>
 tQ (fa 13 v22 h19) fun v23 =>
 tQ (fa 0 v23 h19) fun v24 =>
 tQ (ld v24 h19) fun v25 =>
 tQ (b_lt v20 v25 h19) fun v26 =>
 ifR v26 (tR (ld v4 h19) fun v27 h28 =>
 tR (ld v12 h28) fun v29 h30 =>
 tT (c 126 [v27,x1,v29] h30) fun v31 h32 =>
 .ret T38 h32) (x (T125 x1 v4 v6 v12 v14) h19)) (y0 r) (y1 r) (y2 r) (y3 r)
def x119 : AC := (.shal k119_0 (.shal k119_1 .skip))
def z119 : List Rs := []
def f119 : AF := .mk x119 z119
def k120_2 : KF := fun c i x r h => (fun (x0 x1 x2 x3 x4 x5 x6 x7 : AV) =>
 ifR x7 (.nm (T127 x0 x1 x2 x3 x4 x5 x6) h) (.ex 0 (T127 x0 x1 x2 x3 x4 x5 x6) h)) (y0 r) (y1 r) (y3 r) (y6 r) (y8 r) (y9 r) (y10 r) (y24 r)
def k120_3 : KF := fun c i x r h => (fun (x0 x1 x2 x3 x4 x5 x6 : AV) =>
 tT (c 117 [x2] h) fun v7 h8 =>
 tR (o_build [(pi 0),(pi 0),(pi 0),(.str [])] [.mk 1 2 (.c v7)] .nil h8) fun v9 h10 =>
 tR (o_alloc 234 4 (.k1 (.mk (pi 0) (pi 0) (pi 0) (.str []) .undef .undef .undef .undef .undef .undef .undef .undef .undef .undef .undef .undef)) .nil h10) fun v11 h12 =>
 tR (o_stn 4 (.c v11) (.c v9) .nil h12) fun v13 h14 =>
 tT (c 107 [x2] h14) fun v15 h16 =>
 tR (fa 0 v11 h16) fun v17 h18 =>
 tR (sto v17 v15 h18) fun v19 h20 =>
 tT (c 142 [x2] h20) fun v21 h22 =>
 tR (fa 3 v11 h22) fun v23 h24 =>
 tR (sto v23 v21 h24) fun v25 h26 =>
 tR (o_ldn 4 (.c v11) .nil h26) fun v27 h28 =>
 tR (o_bslice 234 4 1 [(pi 0),(pi 0),(pi 0),(.str [])] [.mk 0 4 (.c v27)] .nil h28) fun v29 h30 =>
 tR (appV 234 4 x5 v29 h30) fun v31 h32 =>
 tR (b_sub x6 (pi 1) h32) fun v33 h34 =>
 .nm (T127 x0 x1 x2 x3 x4 v31 v33) h34) (y0 r) (y1 r) (y3 r) (y6 r) (y8 r) (y9 r) (y10 r)
def k120_1 : KF := fun c i x r h => (fun (x0 x1 x2 x3 x4 x5 : AV) =>
 tT (c 107 [x2] h) fun v6 h7 =>
 x (T127 x0 x1 x2 x3 x4 x5 v6) h7) (y0 r) (y1 r) (y3 r) (y6 r) (y8 r) (y9 r)
def k120_5 : KF := fun c i x r h => (fun (x0 x1 x2 x3 x4 x5 x6 x7 : AV) =>
 tR (b_lt x7 x6 h) fun v8 h9 =>
 ifR v8 (tR (ix 4 x5 x7 h9) fun v10 h11 =>
 tR (o_ldn 4 (.c v10) .nil h11) fun v12 h13 =>
 tR (o_alloc 234 4 (.k1 (.mk (pi 0) (pi 0) (pi 0) (.str []) .undef .undef .undef .undef .undef .undef .undef .undef .undef .undef .undef .undef)) .nil h13) fun v14 h15 =>
 tR (o_stn 4 (.c v14) (.c v12) .nil h15) fun v16 h17 =>
 tR (fa 0 v14 h17) fun v18 h19 =>
 tR (ld v18 h19) fun v20 h21 =>
 tR (fa 3 v14 h21) fun v22 h23 =>
 tR (ld v22 h23) fun v24 h25 =>
 tT (c 125 [x0,v20,v24] h25) fun v26 h27 =>
 tR (b_add x7 (pi 1) h27) fun v28 h29 =>
 .nm (T128 x0 x1 x2 x3 x4 x5 x6 v28) h29) (.ex 2 (T128 x0 x1 x2 x3 x4 x5 x6 x7) h9)) (y0 r) (y1 r) (y6 r) (y8 r) (y9 r) (y41 r) (y42 r) (y43 r)
def k120_4 : KF := fun c i x r h => (fun (x0 x1 x2 x3 x4 x5 : AV) =>
 tT (c 124 [x2] h) fun v6 h7 =>
 tR (len v6 h7) fun v8 h9 =>
 x (T128 x0 x1 x3 x4 x5 v6 v8 (pi 0)) h9) (y0 r) (y1 r) (y3 r) (y6 r) (y8 r) (y9 r)
def k120_6 : KF := fun c i x r h => (fun (x0 x1 x2 x3 x4 : AV) =>
 ifR x4 (.ret T38 h) (.nm (T129 x0 x1 x2 x3) h)) (y0 r) (y1 r) (y6 r) (y9 r) (y75 r)
def k120_7 : KF := fun c i x r h => (fun (x0 x1 x2 x3 : AV) =>
 tQ (nic x0 h) fun v4 =>
 tQ (fa 8 v4 h) fun v5 =>
 tQ (ld v5 h) fun v6 =>
 tQ (o_ldn 2 (.c x2) .nil h) fun v7 =>
 tX (c 193 [v6,x1,v7,x3] h) fun v8 h9 =>
 tR (nic x0 h9) fun v10 h11 =>
 tR (fa 20 v10 h11) fun v12 h13 =>
 tR (ld v12 h13) fun v14 h15 =>
 tR (mup (.one .i) v14 x1 (pi 1) h15) fun v16 h17 =>
 tT (c 185 [x0] h17) fun v18 h19 =>
 .nm T38 h19) (y0 r) (y1 r) (y6 r) (y9 r)
def k120_0 : KF := fun c i x r h => (fun (x0 x1 x2 x3 : AV) =>
 tR (o_box 226 (.c x2) .nil h) fun v4 h5 =>
 tT (c 107 [x3] h5) fun v6 h7 =>
 x (T126 x0 x1 x3 v4 v6 .nils) h7) (y0 r) (y1 r) (y2 r) (y3 r)
def x120 : AC := (.shal k120_0 (.seq (.shal k120_1 (.block 0 (.loop (.seq (.seq (.ops [m d18 r10,
 o d19 (.bin .gt r18 a0),
 m d20 r19,
 .g .h1 .h4 true d21 (.op (.mv r3)),
 .g .h1 .h4 true d22 (.call 191 [r21]),
 .g .h1 .h4 true d23 (.op (.un .not r22)),
 o d24 (.pick r20 r23 (.c (.bool false)))]) (.shal k120_2 .skip)) (.shal k120_3 .skip))))) (.seq (.shal k120_4 (.block 2 (.loop (.shal k120_5 .skip)))) (.seq (.seq (.drw [q 0 (m d54 r8),
 q 0 (m d55 r0),
 q 0 (o d56 (.nilc r55)),
 q 0 (o d57 (.fad 6 r56)),
 q 0 (o d58 (.ld1 r57)),
 q 0 (o d59 (.bin .ne r54 r58)),
 q 0 (m d60 r59),
 q 0 (.g .h3 .hc false d61 (.op (.mv r0))),
 q 0 (.g .h3 .hc false d62 (.op (.nilc r61))),
 q 0 (.g .h3 .hc false d63 (.op (.fad 19 r62))),
 q 0 (.g .h3 .hc false d64 (.op (.ld1 r63))),
 q 0 (.g .h3 .hc false d65 (.op (.bin .ne r64 a1))),
 q 0 (o d66 (.pick r60 (.c (.bool true)) r65)),
 q 0 (m d67 r66),
 q 0 (.g .h4 .h3 false d69 (.op (.mv r0))),
 q 0 (.g .h4 .h3 false d70 (.op (.nilc r69))),
 q 0 (.g .h4 .h3 false d71 (.op (.fad 8 r70))),
 q 0 (.g .h4 .h3 false d72 (.op (.ld1 r71))),
 w (.g .h4 .h3 false d73 (.call 192 [r72])),
 q 1 (.g .h4 .h3 false d68 (.op (.ldn 2 r6))),
 q 0 (.g .h4 .h3 false d74 (.op (.bin (.ane [.i,.i]) r68 r73))),
 q 0 (o d75 (.pick r67 (.c (.bool true)) r74))]) (.shal k120_6 .skip)) (.shal k120_7 .skip)))))
def z120 : List Rs := []
def f120 : AF := .mk x120 z120
def k121_1 : KF := fun c i x r h => (fun (x0 x1 x2 x3 x4 : AV) =>
 tR (o_ldn 2 (.c x2) .nil h) fun v5 h6 =>
 tR (ld x3 h6) fun v7 h8 =>
 tT (c 194 [x0,v5,v7,x4] h8) fun v9 h10 =>
 tR (u_not v9 h10) fun v11 h12 =>
 ifR v11 (tT (c 187 [x0,x1] h12) fun v13 h14 =>
 .ret T38 h14) (tR (o_ldn 2 (.c x2) .nil h12) fun v15 h16 =>
 tT (c 123 [x0,v15] h16) fun v17 h18 =>
 tT (c 188 [x0,x1,(pi 4),(.fn 195 [x2,x3])] h18) fun v19 h20 =>
 .nm T38 h20)) (y0 r) (y1 r) (y6 r) (y8 r) (y9 r)
def k121_0 : KF := fun c i x r h => (fun (x0 x1 x2 x3 : AV) =>
 tR (o_box 226 (.c x2) .nil h) fun v4 h5 =>
 tT (c 107 [x3] h5) fun v6 h7 =>
 tR (o_alloc 3 1 (.k1 (.mk (pi 0) .undef .undef .undef .undef .undef .undef .undef .undef .undef .undef .undef .undef .undef .undef .undef)) .nil h7) fun v8 h9 =>
 tR (sto v8 v6 h9) fun v10 h11 =>
 tT (c 142 [x3] h11) fun v12 h13 =>
 tQ (ld v8 h13) fun v14 =>
 tQ (nic x0 h13) fun v15 =>
 tQ (fa 13 v15 h13) fun v16 =>
 tQ (fa 0 v16 h13) fun v17 =>
 tQ (ld v17 h13) fun v18 =>
 tQ (b_lt v14 v18 h13) fun v19 =>
 ifR v19 (tR (ld v8 h13) fun v20 h21 =>
 tT (c 126 [x0,x1,v20] h21) fun v22 h23 =>
 .ret T38 h23) (x (T130 x0 x1 v4 v8 v12) h13)) (y0 r) (y1 r) (y2 r) (y3 r)
def x121 : AC := (.shal k121_0 (.shal k121_1 .skip))
def z121 : List Rs := []
def f121 : AF := .mk x121 z121
def k122_1 : KF := fun c i x r h => (fun (x0 x1 x2 : AV) =>
 ifR x2 (.ret T38 h) (.nm (T11 x0 x1) h)) (y0 r) (y3 r) (y25 r)
def k122_2 : KF := fun c i x r h => (fun (x0 x1 : AV) =>
 tR (nic x0 h) fun v2 h3 =>
 tR (fa 8 v2 h3) fun v4 h5 =>
 tR (ld v4 h5) fun v6 h7 =>
 tT (c 197 [v6,x1,(.str [])] h7) fun v8 h9 =>
 tR (o_ext 0 (.c v8) .nil h9) fun v10 h11 =>
 tR (o_ext 1 (.c v8) .nil h11) fun v12 h13 =>
 ifR v12 (tT (c 198 [x0,x1,v10] h13) fun v14 h15 =>
 .nm T38 h15) (.nm T38 h13)) (y0 r) (y3 r)
def k122_0 : KF := fun c i x r h => (fun (x0 x1 x2 x3 : AV) =>
 tR (o_box 226 (.c x2) .nil h) fun v4 h5 =>
 x (T131 x0 x1 x3 v4) h5) (y0 r) (y1 r) (y2 r) (y3 r)
def x122 : AC := (.shal k122_0 (.seq (.seq (.drw [q 0 (m d10 r0),
 q 0 (o d11 (.nilc r10)),
 q 0 (o d12 (.fad 19 r11)),
 q 0 (o d13 (.ld1 r12)),
 q 0 (o d14 (.bin .ne r13 a2)),
 q 0 (m d15 r14),
 q 0 (.g .h0 .hf false d16 (.op (.mv r0))),
 q 0 (.g .h0 .hf false d17 (.op (.nilc r16))),
 q 0 (.g .h0 .hf false d18 (.op (.fad 8 r17))),
 q 0 (.g .h0 .hf false d19 (.op (.ld1 r18))),
 q 0 (.g .h0 .hf false d20 (.op (.mv r1))),
 q 0 (.g .h0 .hf false d21 (.op (.ldn 2 r6))),
 q 0 (.g .h0 .hf false d22 (.op (.mv r3))),
 w (.g .h0 .hf false d23 (.call 196 [r19,r20,r21,r22])),
 q 0 (.g .h0 .hf false d24 (.op (.un .not r23))),
 q 0 (o d25 (.pick r15 (.c (.bool true)) r24))]) (.shal k122_1 .skip)) (.shal k122_2 .skip)))
def z122 : List Rs := []
def f122 : AF := .mk x122 z122
def k123_1 : KF := fun c i x r h => (fun (x0 x1 : AV) =>
 ifR x1 (tR (nic x0 h) fun v2 h3 =>
 tR (fa 19 v2 h3) fun v4 h5 =>
 tR (sto v4 (pi 0) h5) fun v6 h7 =>
 .nm T38 h7) (.nm T38 h)) (y0 r) (y17 r)
def k123_0 : KF := fun c i x r h => (fun (x0 x1 : AV) =>
 tR (o_box 226 (.c x1) .nil h) fun v2 h3 =>
 x (T11 x0 v2) h3) (y0 r) (y1 r)
def x123 : AC := (.shal k123_0 (.seq (.drw [q 0 (m d4 r0),
 q 0 (o d5 (.nilc r4)),
 q 0 (o d6 (.fad 19 r5)),
 q 0 (o d7 (.ld1 r6)),
 q 0 (o d8 (.bin .ne r7 a0)),
 q 0 (m d9 r8),
 q 0 (.g .h0 .h9 true d10 (.op (.mv r0))),
 q 0 (.g .h0 .h9 true d11 (.op (.nilc r10))),
 q 0 (.g .h0 .h9 true d12 (.op (.fad 8 r11))),
 q 0 (.g .h0 .h9 true d13 (.op (.ld1 r12))),
 w (.g .h0 .h9 true d14 (.call 192 [r13])),
 q 1 (.g .h0 .h9 true d15 (.op (.ldn 2 r3))),
 w (.g .h0 .h9 true d16 (.call 199 [r14,r15])),
 q 0 (o d17 (.pick r9 r16 (.c (.bool false))))]) (.shal k123_1 .skip)))
def z123 : List Rs := []
def f123 : AF := .mk x123 z123
def k124_2 : KF := fun c i x r h => (fun (x0 x1 x2 x3 : AV) =>
 ifR x3 (.nm (T39 x0 x1 x2) h) (.ex 0 (T39 x0 x1 x2) h)) (y0 r) (y3 r) (y4 r) (y14 r)
def k124_3 : KF := fun c i x r h => (fun (x0 x1 x2 : AV) =>
 tT (c 107 [x0] h) fun v3 h4 =>
 tT (c 142 [x0] h4) fun v5 h6 =>
 tR (o_build [(pi 0),(pi 0),(pi 0),(.str [])] [.mk 0 1 (.c v3),.mk 3 1 (.c v5)] .nil h6) fun v7 h8 =>
 tR (o_bslice 234 4 1 [(pi 0),(pi 0),(pi 0),(.str [])] [.mk 0 4 (.c v7)] .nil h8) fun v9 h10 =>
 tR (appV 234 4 x1 v9 h10) fun v11 h12 =>
 tR (b_sub x2 (pi 1) h12) fun v13 h14 =>
 .nm (T39 x0 v11 v13) h14) (y0 r) (y3 r) (y4 r)
def k124_1 : KF := fun c i x r h => (fun (x0 x1 : AV) =>
 tT (c 107 [x0] h) fun v2 h3 =>
 x (T39 x0 x1 v2) h3) (y0 r) (y3 r)
def k124_4 : KF := fun c i x r h => (fun (x0 : AV) =>
 .ret (T23 x0) h) (y3 r)
def k124_0 : KF := fun c i x r h => (fun (x0 : AV) =>
 x (T11 x0 .nils) h) (y0 r)
def x124 : AC := (.shal k124_0 (.seq (.shal k124_1 (.block 0 (.loop (.seq (.seq (.ops [m d8 r4,
 o d9 (.bin .gt r8 a0),
 m d10 r9,
 .g .h0 .ha true d11 (.op (.mv r0)),
 .g .h0 .ha true d12 (.call 191 [r11]),
 .g .h0 .ha true d13 (.op (.un .not r12)),
 o d14 (.pick r10 r13 (.c (.bool false)))]) (.shal k124_2 .skip)) (.shal k124_3 .skip))))) (.shal k124_4 .skip)))
def z124 : List Rs := [.t .h0 .h2]
def f124 : AF := .mk x124 z124
def k125_1 : KF := fun c i x r h => (fun (x0 x1 x2 x3 x4 : AV) =>
 ifR x4 (tR (sto x3 (pi 5) h) fun v5 h6 =>
 .nm (T105 x0 x1 x2 x3) h6) (.nm (T105 x0 x1 x2 x3) h)) (y0 r) (y4 r) (y5 r) (y6 r) (y21 r)
def k125_2 : KF := fun c i x r h => (fun (x0 x1 x2 x3 : AV) =>
 tR (ld x3 h) fun v4 h5 =>
 tT (c 200 [x0,(.bool false),v4,(.fn 201 [x1,x3,x2])] h5) fun v6 h7 =>
 tT (c 100 [x0] h7) fun v8 h9 =>
 x (T1 x0) h9) (y0 r) (y4 r) (y5 r) (y6 r)
def k125_0 : KF := fun c i x r h => (fun (x0 x1 x2 : AV) =>
 tR (o_box 3 (.c x1) .nil h) fun v3 h4 =>
 tR (o_box 9 (.c x2) .nil h4) fun v5 h6 =>
 tR (ld v3 h6) fun v7 h8 =>
 tR (ld v5 h8) fun v9 h10 =>
 tT (c 144 [x0,v7,v9] h10) fun v11 h12 =>
 tR (u_not v11 h12) fun v13 h14 =>
 ifR v13 (.ret T38 h14) (tR (o_alloc 3 1 (.k1 (.mk (pi 0) .undef .undef .undef .undef .undef .undef .undef .undef .undef .undef .undef .undef .undef .undef .undef)) .nil h14) fun v15 h16 =>
 tR (sto v15 (pi 4) h16) fun v17 h18 =>
 x (T105 x0 v3 v5 v15) h18)) (y0 r) (y1 r) (y2 r)
def x125 : AC := (.shal k125_0 (.seq (.seq (.drw [q 0 (m d12 r0),
 q 0 (o d13 (.ld1 r4)),
 w (.o d14 (.call 157 [r12,r13])),
 q 0 (m d15 r14),
 q 0 (.g .h0 .hf true d16 (.op (.mv r0))),
 q 0 (.g .h0 .hf true d17 (.op (.ld1 r4))),
 w (.g .h0 .hf true d18 (.call 141 [r16,r17])),
 q 1 (.g .h0 .hf true d19 (.op (.ld1 r5))),
 q 0 (.g .h0 .hf true d20 (.op (.bin .seq r18 r19))),
 q 0 (o d21 (.pick r15 r20 (.c (.bool false))))]) (.shal k125_1 .skip)) (.shal k125_2 (.drw [q 0 (m d29 r0),
 q 0 (o d30 (.nilc r29)),
 q 0 (o d31 (.fad 24 r30)),
 q 0 (o d32 (.ld1 r31)),
 q 0 (m d33 r32),
 q 0 (.g .h2 .h1 false d38 (.op (.mv r0))),
 q 0 (.g .h2 .h1 false d39 (.op (.nilc r38))),
 q 0 (.g .h2 .h1 false d40 (.op (.fad 9 r39))),
 q 0 (.g .h2 .h1 false d41 (.op (.ld1 r40))),
 w (.g .h2 .h1 false d42 (.call 131 [r41])),
 q 1 (m d28 r0),
 q 1 (.g .h2 .h1 false d34 (.op (.mv r0))),
 q 1 (.g .h2 .h1 false d35 (.op (.nilc r34))),
 q 1 (.g .h2 .h1 false d36 (.op (.fad 10 r35))),
 q 1 (.g .h2 .h1 false d37 (.op (.ld1 r36))),
 q 0 (.g .h2 .h1 false d43 (.op (.bin .gt r37 r42))),
 q 0 (o d44 (.pick r33 (.c (.bool true)) r43)),
 q 0 (o d45 (.nilc r28)),
 q 0 (o d46 (.fad 24 r45)),
 w (o .no (.st1 r46 r44))]))))
def z125 : List Rs := []
def f125 : AF := .mk x125 z125
def k126_1 : KF := fun c i x r h => (fun (x0 x1 x2 : AV) =>
 tR (ld x2 h) fun v3 h4 =>
 tR (len v3 h4) fun v5 h6 =>
 tR (b_gt v5 (pi 0) h6) fun v7 h8 =>
 ifR v7 (tR (ld x1 h8) fun v9 h10 =>
 tT (c 188 [v9,x0,(pi 6),(.fn 203 [x2])] h10) fun v11 h12 =>
 .nm T38 h12) (.nm T38 h8)) (y1 r) (y3 r) (y6 r)
def k126_0 : KF := fun c i x r h => (fun (x0 x1 x2 : AV) =>
 tR (o_box 124 (.c x0) .nil h) fun v3 h4 =>
 tR (ld v3 h4) fun v5 h6 =>
 tR (nic v5 h6) fun v7 h8 =>
 tR (fa 13 v7 h8) fun v9 h10 =>
 tR (fa 0 v9 h10) fun v11 h12 =>
 tR (ld v11 h12) fun v13 h14 =>
 tR (b_lt x2 v13 h14) fun v15 h16 =>
 ifR v15 (tR (ld v3 h16) fun v17 h18 =>
 tT (c 188 [v17,x1,(pi 8),(.fn 202 [v3])] h18) fun v19 h20 =>
 tR (ld v3 h20) fun v21 h22 =>
 tT (c 156 [v21,x2] h22) fun v23 h24 =>
 tR (o_alloc 231 1 (.k1 (.mk .nils .undef .undef .undef .undef .undef .undef .undef .undef .undef .undef .undef .undef .undef .undef .undef)) .nil h24) fun v25 h26 =>
 tR (sto v25 v23 h26) fun v27 h28 =>
 x (T132 x1 v3 v25) h28) (tR (ld v3 h16) fun v29 h30 =>
 tT (c 156 [v29,x2] h30) fun v31 h32 =>
 tR (o_alloc 231 1 (.k1 (.mk .nils .undef .undef .undef .undef .undef .undef .undef .undef .undef .undef .undef .undef .undef .undef .undef)) .nil h32) fun v33 h34 =>
 tR (sto v33 v31 h34) fun v35 h36 =>
 x (T132 x1 v3 v33) h36)) (y0 r) (y1 r) (y2 r)
def x126 : AC := (.shal k126_0 (.shal k126_1 .skip))
def z126 : List Rs := []
def f126 : AF := .mk x126 z126
def k129_2 : KF := fun c i x r h => (fun (x0 x1 x2 x3 : AV) =>
 tR (b_add x3 (pi 1) h) fun v4 h5 =>
 .nm (T133 x0 x1 x2 v4) h5) (y0 r) (y16 r) (y17 r) (y18 r)
def k129_1 : KF := fun c i x r h => (fun (x0 x1 x2 x3 : AV) =>
 tR (b_lt x3 x2 h) fun v4 h5 =>
 ifR v4 (tR (ix 4 x1 x3 h5) fun v6 h7 =>
 tR (o_ldn 4 (.c v6) .nil h7) fun v8 h9 =>
 tR (o_alloc 234 4 (.k1 (.mk (pi 0) (pi 0) (pi 0) (.str []) .undef .undef .undef .undef .undef .undef .undef .undef .undef .undef .undef .undef)) .nil h9) fun v10 h11 =>
 tR (o_stn 4 (.c v10) (.c v8) .nil h11) fun v12 h13 =>
 tQ (nic x0 h13) fun v14 =>
 tQ (fa 9 v14 h13) fun v15 =>
 tQ (ld v15 h13) fun v16 =>
 tQ (fa 0 v10 h13) fun v17 =>
 tQ (ld v17 h13) fun v18 =>
 tX (c 206 [v16,v18] h13) fun v19 h20 =>
 tQ (o_ext 0 (.c v19) .nil h20) fun v21 =>
 tQ (o_ext 1 (.c v19) .nil h20) fun v22 =>
 tR (u_not v22 h20) fun v23 h24 =>
 ifR v23 (.ret (T23 (.bool true)) h24) (x (T133 x0 x1 x2 x3) h24)) (.ex 0 (T1 x0) h5)) (y0 r) (y16 r) (y17 r) (y18 r)
def k129_0 : KF := fun c i x r h => (fun (x0 : AV) =>
 x (T1 x0) h) (y0 r)
def x129 : AC := (.shal k129_0 (.seq (.seq (.drw [q 0 (m d11 r0),
 q 0 (o d12 (.nilc r11)),
 q 0 (o d13 (.fad 9 r12)),
 q 0 (o d14 (.ld1 r13)),
 w (.o d15 (.call 131 [r14])),
 q 1 (m d7 r0),
 q 1 (o d8 (.nilc r7)),
 q 1 (o d9 (.fad 7 r8)),
 q 1 (o d10 (.ld1 r9)),
 w (.o d16 (.call 150 [r10,r15])),
 q 0 (o d17 (.len r16)),
 q 2 (m d18 a0)]) (.block 0 (.loop (.shal k129_1 (.shal k129_2 .skip))))) (.seq (.drw [q 0 (m d39 r0),
 q 0 (o d40 (.nilc r39)),
 q 0 (o d41 (.fad 9 r40)),
 q 0 (o d42 (.ld1 r41)),
 w (.o d43 (.call 131 [r42])),
 q 1 (m d35 r0),
 q 1 (o d36 (.nilc r35)),
 q 1 (o d37 (.fad 10 r36)),
 q 1 (o d38 (.ld1 r37)),
 q 0 (o d44 (.bin .gt r38 r43)),
 q 0 (m d2 r44)]) .ret)))
def z129 : List Rs := [.t .h0 .h2]
def f129 : AF := .mk x129 z129
def k130_0 : KF := fun c i x r h => (fun (x0 : AV) =>
 tQ (nic x0 h) fun v1 =>
 tQ (fa 1 v1 h) fun v2 =>
 tQ (ld v2 h) fun v3 =>
 tQ (b_mul (pi 150) v3 h) fun v4 =>
 tQ (b_add (pi 300) v4 h) fun v5 =>
 tQ (nic x0 h) fun v6 =>
 tQ (fa 22 v6 h) fun v7 =>
 tQ (ld v7 h) fun v8 =>
 tQ (maxV true [v8,(pi 7)] h) fun v9 =>
 tQ (bK .shl v5 v9 h) fun v10 =>
 .ret (T23 v10) h) (y0 r)
def x130 : AC := (.shal k130_0 .skip)
def z130 : List Rs := [.t .h0 .h2]
def f130 : AF := .mk x130 z130
def k131_1 : KF := fun c i x r h => (fun (x0 x1 : AV) =>
 tR (nic x0 h) fun v2 h3 =>
 tR (fa 0 v2 h3) fun v4 h5 =>
 tR (ld v4 h5) fun v6 h7 =>
 tR (lkp (.one .i) (.str []) true v6 x1 h7) fun v8 h9 =>
 tR (o_ext 0 (.c v8) .nil h9) fun v10 h11 =>
 tR (o_ext 1 (.c v8) .nil h11) fun v12 h13 =>
 tR (u_not v12 h13) fun v14 h15 =>
 ifR v14 (.ret (T23 x1) h15) (tR (b_add x1 (pi 1) h15) fun v16 h17 =>
 .nm (T11 x0 v16) h17)) (y0 r) (y3 r)
def k131_0 : KF := fun c i x r h => (fun (x0 : AV) =>
 tR (nic x0 h) fun v1 h2 =>
 tR (fa 1 v1 h2) fun v3 h4 =>
 tR (ld v3 h4) fun v5 h6 =>
 x (T11 x0 v5) h6) (y0 r)
def x131 : AC := (.shal k131_0 (.block 0 (.loop (.shal k131_1 .skip))))
def z131 : List Rs := [.t .h0 .h2]
def f131 : AF := .mk x131 z131
def k132_1 : KF := fun c i x r h => (fun (x0 x1 x2 x3 x4 : AV) =>
 tR (b_lt x4 x3 h) fun v5 h6 =>
 ifR v5 (tR (nic x0 h6) fun v7 h8 =>
 tR (fa 1 v7 h8) fun v9 h10 =>
 tR (ld v9 h10) fun v11 h12 =>
 tR (b_ne x4 v11 h12) fun v13 h14 =>
 ifR v13 (tT (c 188 [x0,x4,x1,x2] h14) fun v15 h16 =>
 tR (b_add x4 (pi 1) h16) fun v17 h18 =>
 .nm (T134 x0 x1 x2 x3 v17) h18) (tR (b_add x4 (pi 1) h14) fun v19 h20 =>
 .nm (T134 x0 x1 x2 x3 v19) h20)) (.ex 0 (T134 x0 x1 x2 x3 x4) h6)) (y0 r) (y1 r) (y2 r) (y11 r) (y12 r)
def k132_0 : KF := fun c i x r h => (fun (x0 x1 x2 : AV) =>
 tR (nic x0 h) fun v3 h4 =>
 tR (fa 0 v3 h4) fun v5 h6 =>
 tR (ld v5 h6) fun v7 h8 =>
 tT (c 94 [v7] h8) fun v9 h10 =>
 x (T134 x0 x1 x2 v9 (pi 0)) h10) (y0 r) (y1 r) (y2 r)
def x132 : AC := (.shal k132_0 (.block 0 (.loop (.shal k132_1 .skip))))
def z132 : List Rs := []
def f132 : AF := .mk x132 z132
def k133_0 : KF := fun c i x r h => (fun (x0 x1 : AV) =>
 tR (ld x1 h) fun v2 h3 =>
 tT (c 52 [x0,v2] h3) fun v4 h5 =>
 .nm T38 h5) (y0 r) (y1 r)
def x133 : AC := (.shal k133_0 .skip)
def z133 : List Rs := []
def f133 : AF := .mk x133 z133
def k135_0 : KF := fun c i x r h => (fun (x0 : AV) =>
 tR (nic x0 h) fun v1 h2 =>
 tR (fa 1 v1 h2) fun v3 h4 =>
 tR (ld v3 h4) fun v5 h6 =>
 .ret (T23 v5) h6) (y0 r)
def x135 : AC := (.shal k135_0 .skip)
def z135 : List Rs := [.t .h0 .h2]
def f135 : AF := .mk x135 z135
def k139_1 : KF := fun c i x r h => (fun (x0 x1 : AV) =>
 ifR x1 (.ret (T7 .nils (.bool false)) h) (.nm (T1 x0) h)) (y0 r) (y16 r)
def k139_2 : KF := fun c i x r h => (fun (x0 : AV) =>
 tR (o_slc 1 (.c x0) (.some (.c (pi 4))) .none .none .nil h) fun v1 h2 =>
 tT (c 84 [v1] h2) fun v3 h4 =>
 .ret (T7 v3 (.bool true)) h4) (y0 r)
def k139_0 : KF := fun c i x r h => (fun (x0 : AV) =>
 x (T1 x0) h) (y0 r)
def x139 : AC := (.shal k139_0 (.seq (.seq (.drw [q 0 (m d4 r0),
 q 0 (o d5 (.len r4)),
 q 0 (o d6 (.bin .lt r5 (.c (pi 4)))),
 q 0 (m d7 r6),
 q 0 (.g .h0 .h7 false d8 (.op (.mv r0))),
 q 0 (.g .h0 .h7 false d9 (.op (.slc 1 r8 (.some (.c (pi 4))) .none .none))),
 w (.g .h0 .h7 false d10 (.call 215 [r9])),
 q 0 (.g .h0 .h7 false d11 (.op (.slc 1 r10 .none (.some (.c (pi 4))) .none))),
 q 1 (.g .h0 .h7 false d12 (.op (.mv r0))),
 q 1 (.g .h0 .h7 false d13 (.op (.slc 1 r12 .none (.some (.c (pi 4))) .none))),
 w (.g .h0 .h7 false d14 (.call 214 [r11,r13])),
 q 0 (.g .h0 .h7 false d15 (.op (.un .not r14))),
 q 0 (o d16 (.pick r7 (.c (.bool true)) r15))]) (.shal k139_1 .skip)) (.shal k139_2 .skip)))
def z139 : List Rs := [.t .h0 .h2,.t .h0 .h3]
def f139 : AF := .mk x139 z139
def k140_0 : KF := fun c i x r h => (fun (x0 x1 x2 : AV) =>
 tR (o_box 226 (.c x1) .nil h) fun v3 h4 =>
 tQ (nic x0 h4) fun v5 =>
 tQ (fa 0 v5 h4) fun v6 =>
 tQ (o_ldn 2 (.c v6) .nil h4) fun v7 =>
 tQ (o_ldn 2 (.c v3) .nil h4) fun v8 =>
 tX (c 199 [v7,v8] h4) fun v9 h10 =>
 tQ (u_not v9 h10) fun v11 =>
 ifR v11 (.ret (T5 (.bool false) .nils) h10) (tR (o_ldn 2 (.c v3) .nil h10) fun v12 h13 =>
 tR (nic x0 h13) fun v14 h15 =>
 tR (fa 0 v14 h15) fun v16 h17 =>
 tR (o_stn 2 (.c v16) (.c v12) .nil h17) fun v18 h19 =>
 tT (c 150 [x0,x2] h19) fun v20 h21 =>
 x (T5 (.bool true) v20) h21)) (y0 r) (y1 r) (y2 r)
def x140 : AC := (.shal k140_0 .ret)
def z140 : List Rs := [.t .h0 .h6,.t .h0 .h7]
def f140 : AF := .mk x140 z140
def k141_0 : KF := fun c i x r h => (fun (x0 x1 : AV) =>
 tR (nic x0 h) fun v2 h3 =>
 tR (fa 7 v2 h3) fun v4 h5 =>
 tR (ld v4 h5) fun v6 h7 =>
 tT (c 216 [v6,x1] h7) fun v8 h9 =>
 tR (o_ext 0 (.c v8) .nil h9) fun v10 h11 =>
 tR (o_ext 1 (.c v8) .nil h11) fun v12 h13 =>
 tR (o_alloc 234 4 (.k1 (.mk (pi 0) (pi 0) (pi 0) (.str []) .undef .undef .undef .undef .undef .undef .undef .undef .undef .undef .undef .undef)) .nil h13) fun v14 h15 =>
 tR (o_stn 4 (.c v14) (.c v10) .nil h15) fun v16 h17 =>
 tR (fa 3 v14 h17) fun v18 h19 =>
 tR (ld v18 h19) fun v20 h21 =>
 .ret (T22 v20) h21) (y0 r) (y1 r)
def x141 : AC := (.shal k141_0 .skip)
def z141 : List Rs := [.t .h0 .h4]
def f141 : AF := .mk x141 z141
def k142_2 : KF := fun c i x r h => (fun (x0 x1 x2 x3 : AV) =>
 ifR x3 (.nm (T39 x0 x1 x2) h) (.ex 0 (T39 x0 x1 x2) h)) (y0 r) (y3 r) (y4 r) (y15 r)
def k142_3 : KF := fun c i x r h => (fun (x0 x1 x2 : AV) =>
 tT (c 175 [x0,(pi 65535)] h) fun v3 h4 =>
 tR (o_apps 5 (.c x1) (.c v3) .nil h4) fun v5 h6 =>
 .nm (T39 x0 v5 x2) h6) (y0 r) (y3 r) (y4 r)
def k142_1 : KF := fun c i x r h => (fun (x0 x1 : AV) =>
 tT (c 107 [x0] h) fun v2 h3 =>
 x (T39 x0 x1 v2) h3) (y0 r) (y3 r)
def k142_4 : KF := fun c i x r h => (fun (x0 : AV) =>
 tR (cK .b2s x0 h) fun v1 h2 =>
 .ret (T23 v1) h2) (y3 r)
def k142_0 : KF := fun c i x r h => (fun (x0 : AV) =>
 x (T11 x0 .nils) h) (y0 r)
def x142 : AC := (.shal k142_0 (.seq (.shal k142_1 (.block 0 (.loop (.seq (.seq (.ops [m d7 r3,
 o d8 (.len r7),
 m d9 r4,
 o d10 (.bin .lt r8 r9),
 m d11 r10,
 .g .h0 .hb true d12 (.op (.mv r0)),
 .g .h0 .hb true d13 (.call 191 [r12]),
 .g .h0 .hb true d14 (.op (.un .not r13)),
 o d15 (.pick r11 r14 (.c (.bool false)))]) (.shal k142_2 .skip)) (.shal k142_3 .skip))))) (.shal k142_4 .skip)))
def z142 : List Rs := [.t .h0 .h2]
def f142 : AF := .mk x142 z142
def k143_1 : KF := fun c i x r h => (fun (x0 x1 : AV) =>
 tQ (nic x0 h) fun v2 =>
 tQ (fa 2 v2 h) fun v3 =>
 tQ (ld v3 h) fun v4 =>
 tQ (fa 0 x1 h) fun v5 =>
 tQ (ld v5 h) fun v6 =>
 tQ (o_ldn 4 (.c x1) .nil h) fun v7 =>
 tX (RV.toT (mup (.one .i) v4 v6 v7 h)) fun v8 h9 =>
 tQ (nic x0 h9) fun v10 =>
 tQ (fa 3 v10 h9) fun v11 =>
 tQ (ld v11 h9) fun v12 =>
 tQ (fa 0 x1 h9) fun v13 =>
 tQ (ld v13 h9) fun v14 =>
 tQ (b_add v14 (pi 1) h9) fun v15 =>
 tQ (maxV false [v12,v15] h9) fun v16 =>
 tQ (nic x0 h9) fun v17 =>
 tQ (fa 3 v17 h9) fun v18 =>
 tX (RV.toT (sto v18 v16 h9)) fun v19 h20 =>
 .nm T38 h20) (y0 r) (y3 r)
def k143_0 : KF := fun c i x r h => (fun (x0 x1 : AV) =>
 tR (o_box 234 (.c x1) .nil h) fun v2 h3 =>
 tQ (nic x0 h3) fun v4 =>
 tQ (fa 0 v4 h3) fun v5 =>
 tQ (o_ldn 2 (.c v5) .nil h3) fun v6 =>
 tQ (fa 1 v2 h3) fun v7 =>
 tQ (o_ldn 2 (.c v7) .nil h3) fun v8 =>
 tX (c 199 [v6,v8] h3) fun v9 h10 =>
 ifR v9 (tR (fa 1 v2 h10) fun v11 h12 =>
 tR (o_ldn 2 (.c v11) .nil h12) fun v13 h14 =>
 tR (nic x0 h14) fun v15 h16 =>
 tR (fa 0 v15 h16) fun v17 h18 =>
 tR (o_stn 2 (.c v17) (.c v13) .nil h18) fun v19 h20 =>
 x (T11 x0 v2) h20) (x (T11 x0 v2) h10)) (y0 r) (y1 r)
def x143 : AC := (.shal k143_0 (.shal k143_1 .skip))
def z143 : List Rs := []
def f143 : AF := .mk x143 z143
def k144_1 : KF := fun c i x r h => (fun (x0 x1 x2 : AV) =>
 ifR x2 (.ret (T10 (.bool false)) h) (.nm (T50 x0 x1) h)) (y0 r) (y1 r) (y23 r)
def k144_2 : KF := fun c i x r h => (fun (x0 x1 : AV) =>
 tR (nic x0 h) fun v2 h3 =>
 tR (fa 10 v2 h3) fun v4 h5 =>
 tR (ld v4 h5) fun v6 h7 =>
 tR (b_add x1 (pi 1) h7) fun v8 h9 =>
 tR (maxV false [v6,v8] h9) fun v10 h11 =>
 tR (nic x0 h11) fun v12 h13 =>
 tR (fa 10 v12 h13) fun v14 h15 =>
 tR (sto v14 v10 h15) fun v16 h17 =>
 .ret (T10 (.bool true)) h17) (y0 r) (y1 r)
def k144_0 : KF := fun c i x r h => (fun (x0 x1 x2 : AV) =>
 x (T87 x0 x1 x2) h) (y0 r) (y1 r) (y2 r)
def x144 : AC := (.shal k144_0 (.seq (.seq (.ops [m d7 r1,
 m d8 r0,
 o d9 (.nilc r8),
 o d10 (.fad 13 r9),
 o d11 (.fad 0 r10),
 o d12 (.ld1 r11),
 o d13 (.bin .lt r7 r12),
 m d14 r13,
 .g .h0 .he false d15 (.op (.mv r0)),
 .g .h0 .he false d16 (.op (.nilc r15)),
 .g .h0 .he false d17 (.op (.fad 9 r16)),
 .g .h0 .he false d18 (.op (.ld1 r17)),
 .g .h0 .he false d19 (.op (.mv r1)),
 .g .h0 .he false d20 (.op (.mv r2)),
 .g .h0 .he false d21 (.call 217 [r18,r19,r20]),
 .g .h0 .he false d22 (.op (.un .not r21)),
 o d23 (.pick r14 (.c (.bool true)) r22)]) (.shal k144_1 .skip)) (.shal k144_2 .skip)))
def z144 : List Rs := [.t .h0 .h6]
def f144 : AF := .mk x144 z144
def k146_0 : KF := fun c i x r h => (fun (x0 x1 : AV) =>
 tT (c 51 [] h) fun v2 h3 =>
 tT (c 63 [v2,x0] h3) fun v4 h5 =>
 tT (AV.onFn x1 (fun f l => c f (List.append [v2] l) h5) (.err 202)) fun v6 h7 =>
 tT (c 53 [v2] h7) fun v8 h9 =>
 tT (c 219 [v8] h9) fun v10 h11 =>
 .ret (T22 v10) h11) (y0 r) (y1 r)
def x146 : AC := (.shal k146_0 .skip)
def z146 : List Rs := [.t .h0 .h4]
def f146 : AF := .mk x146 z146
def k147_0 : KF := fun c i x r h => (fun (x0 x1 : AV) =>
 tR (ld x1 h) fun v2 h3 =>
 tR (nic v2 h3) fun v4 h5 =>
 tR (fa 6 v4 h5) fun v6 h7 =>
 tR (ld v6 h7) fun v8 h9 =>
 tT (c 52 [x0,v8] h9) fun v10 h11 =>
 .nm T38 h11) (y0 r) (y1 r)
def x147 : AC := (.shal k147_0 .skip)
def z147 : List Rs := []
def f147 : AF := .mk x147 z147
def k150_4 : KF := fun c i x r h => (fun (x0 x1 x2 : AV) =>
 tR (b_add x2 (pi 1) h) fun v3 h4 =>
 .nm (T74 x0 x1 v3) h4) (y0 r) (y5 r) (y6 r)
def k150_3 : KF := fun c i x r h => (fun (x0 x1 x2 : AV) =>
 tR (nic x0 h) fun v3 h4 =>
 tR (fa 2 v3 h4) fun v5 h6 =>
 tR (ld v5 h6) fun v7 h8 =>
 tR (lkp (.one .i) (.agg [(pi 0),(pi 0),(pi 0),(.str [])]) true v7 x2 h8) fun v9 h10 =>
 tR (o_ext 0 (.c v9) .nil h10) fun v11 h12 =>
 tR (o_ext 1 (.c v9) .nil h12) fun v13 h14 =>
 tR (o_alloc 234 4 (.k1 (.mk (pi 0) (pi 0) (pi 0) (.str []) .undef .undef .undef .undef .undef .undef .undef .undef .undef .undef .undef .undef)) .nil h14) fun v15 h16 =>
 tR (o_stn 4 (.c v15) (.c v11) .nil h16) fun v17 h18 =>
 ifR v13 (tR (o_ldn 4 (.c v15) .nil h18) fun v19 h20 =>
 tR (o_bslice 234 4 1 [(pi 0),(pi 0),(pi 0),(.str [])] [.mk 0 4 (.c v19)] .nil h20) fun v21 h22 =>
 tR (appV 234 4 x1 v21 h22) fun v23 h24 =>
 x (T74 x0 v23 x2) h24) (x (T74 x0 x1 x2) h18)) (y0 r) (y5 r) (y6 r)
def k150_2 : KF := fun c i x r h => (fun (x0 x1 x2 : AV) =>
 tR (nic x0 h) fun v3 h4 =>
 tR (fa 3 v3 h4) fun v5 h6 =>
 tR (ld v5 h6) fun v7 h8 =>
 tR (b_lt x2 v7 h8) fun v9 h10 =>
 ifR v9 (x (T74 x0 x1 x2) h10) (.ex 0 (T27 x1) h10)) (y0 r) (y5 r) (y6 r)
def k150_1 : KF := fun c i x r h => (fun (x0 x1 x2 : AV) =>
 tR (maxV false [x1,(pi 0)] h) fun v3 h4 =>
 x (T74 x0 x2 v3) h4) (y0 r) (y1 r) (y5 r)
def k150_5 : KF := fun c i x r h => (fun (x0 : AV) =>
 .ret (T22 x0) h) (y5 r)
def k150_0 : KF := fun c i x r h => (fun (x0 x1 : AV) =>
 x (T25 x0 x1 .nils) h) (y0 r) (y1 r)
def x150 : AC := (.shal k150_0 (.seq (.shal k150_1 (.block 0 (.loop (.shal k150_2 (.shal k150_3 (.shal k150_4 .skip)))))) (.shal k150_5 .skip)))
def z150 : List Rs := [.t .h0 .h4]
def f150 : AF := .mk x150 z150
def k151_0 : KF := fun c i x r h => (fun (x0 x1 : AV) =>
 tR (fa 1 x1 h) fun v2 h3 =>
 tR (o_ldn 2 (.c v2) .nil h3) fun v4 h5 =>
 tT (c 152 [x0,v4] h5) fun v6 h7 =>
 tR (fa 0 x1 h7) fun v8 h9 =>
 tR (ld v8 h9) fun v10 h11 =>
 tT (c 52 [x0,v10] h11) fun v12 h13 =>
 tR (fa 3 x1 h13) fun v14 h15 =>
 tR (ld v14 h15) fun v16 h17 =>
 tT (c 153 [x0,v16] h17) fun v18 h19 =>
 .nm T38 h19) (y0 r) (y1 r)
def x151 : AC := (.shal k151_0 .skip)
def z151 : List Rs := []
def f151 : AF := .mk x151 z151
def k152_0 : KF := fun c i x r h => (fun (x0 x1 : AV) =>
 tR (o_box 226 (.c x1) .nil h) fun v2 h3 =>
 tR (fa 0 v2 h3) fun v4 h5 =>
 tR (ld v4 h5) fun v6 h7 =>
 tT (c 52 [x0,v6] h7) fun v8 h9 =>
 tR (fa 1 v2 h9) fun v10 h11 =>
 tR (ld v10 h11) fun v12 h13 =>
 tT (c 52 [x0,v12] h13) fun v14 h15 =>
 .nm T38 h15) (y0 r) (y1 r)
def x152 : AC := (.shal k152_0 .skip)
def z152 : List Rs := []
def f152 : AF := .mk x152 z152
def k153_1 : KF := fun c i x r h => (fun (x0 x1 : AV) =>
 tR (lent x1 h) fun v2 h3 =>
 tR (b_gt v2 (pi 0) h3) fun v4 h5 =>
 ifR v4 (tR (lent x1 h5) fun v6 h7 =>
 tR (maxV true [v6,(pi 65535)] h7) fun v8 h9 =>
 tR (o_slcs (.c x1) .none (.some (.c v8)) .nil h9) fun v10 h11 =>
 tT (c 62 [x0,v10] h11) fun v12 h13 =>
 tR (o_slcs (.c x1) (.some (.c v8)) .none .nil h13) fun v14 h15 =>
 .nm (T50 x0 v14) h15) (.ex 0 (T50 x0 x1) h5)) (y0 r) (y1 r)
def k153_0 : KF := fun c i x r h => (fun (x0 x1 : AV) =>
 tR (lent x1 h) fun v2 h3 =>
 tT (c 52 [x0,v2] h3) fun v4 h5 =>
 x (T50 x0 x1) h5) (y0 r) (y1 r)
def x153 : AC := (.shal k153_0 (.block 0 (.loop (.shal k153_1 .skip))))
def z153 : List Rs := []
def f153 : AF := .mk x153 z153
def k154_0 : KF := fun c i x r h => (fun (x0 x1 : AV) =>
 tR (ld x1 h) fun v2 h3 =>
 tR (nic v2 h3) fun v4 h5 =>
 tR (fa 7 v4 h5) fun v6 h7 =>
 tR (ld v6 h7) fun v8 h9 =>
 tT (c 155 [v8] h9) fun v10 h11 =>
 tT (c 152 [x0,v10] h11) fun v12 h13 =>
 .nm T38 h13) (y0 r) (y1 r)
def x154 : AC := (.shal k154_0 .skip)
def z154 : List Rs := []
def f154 : AF := .mk x154 z154
def k155_0 : KF := fun c i x r h => (fun (x0 : AV) =>
 tR (o_alloc 226 2 (.k1 (.mk (pi 0) (pi 0) .undef .undef .undef .undef .undef .undef .undef .undef .undef .undef .undef .undef .undef .undef)) .nil h) fun v1 h2 =>
 tR (nic x0 h2) fun v3 h4 =>
 tR (fa 0 v3 h4) fun v5 h6 =>
 tR (o_ldn 2 (.c v5) .nil h6) fun v7 h8 =>
 tR (o_stn 2 (.c v1) (.c v7) .nil h8) fun v9 h10 =>
 .ret (T23 v1) h10) (y0 r)
def x155 : AC := (.shal k155_0 .skip)
def z155 : List Rs := [.agg 2 .h0 .h2]
def f155 : AF := .mk x155 z155
def k156_4 : KF := fun c i x r h => (fun (x0 x1 x2 : AV) =>
 tR (b_add x2 (pi 1) h) fun v3 h4 =>
 .nm (T74 x0 x1 v3) h4) (y0 r) (y5 r) (y6 r)
def k156_3 : KF := fun c i x r h => (fun (x0 x1 x2 : AV) =>
 tR (nic x0 h) fun v3 h4 =>
 tR (fa 9 v3 h4) fun v5 h6 =>
 tR (ld v5 h6) fun v7 h8 =>
 tT (c 206 [v7,x2] h8) fun v9 h10 =>
 tR (o_ext 0 (.c v9) .nil h10) fun v11 h12 =>
 tR (o_ext 1 (.c v9) .nil h12) fun v13 h14 =>
 ifR v13 (tR (o_build [(pi 0),(pi 0),(pi 0),(.str [])] [.mk 0 1 (.c x2),.mk 3 1 (.c v11)] .nil h14) fun v15 h16 =>
 tR (o_bslice 234 4 1 [(pi 0),(pi 0),(pi 0),(.str [])] [.mk 0 4 (.c v15)] .nil h16) fun v17 h18 =>
 tR (appV 234 4 x1 v17 h18) fun v19 h20 =>
 x (T74 x0 v19 x2) h20) (x (T74 x0 x1 x2) h14)) (y0 r) (y5 r) (y6 r)
def k156_2 : KF := fun c i x r h => (fun (x0 x1 x2 : AV) =>
 tR (nic x0 h) fun v3 h4 =>
 tR (fa 10 v3 h4) fun v5 h6 =>
 tR (ld v5 h6) fun v7 h8 =>
 tR (b_lt x2 v7 h8) fun v9 h10 =>
 ifR v9 (x (T74 x0 x1 x2) h10) (.ex 0 (T27 x1) h10)) (y0 r) (y5 r) (y6 r)
def k156_1 : KF := fun c i x r h => (fun (x0 x1 x2 : AV) =>
 tR (nic x0 h) fun v3 h4 =>
 tR (fa 13 v3 h4) fun v5 h6 =>
 tR (fa 0 v5 h6) fun v7 h8 =>
 tR (ld v7 h8) fun v9 h10 =>
 tR (maxV false [x1,v9] h10) fun v11 h12 =>
 x (T74 x0 x2 v11) h12) (y0 r) (y1 r) (y5 r)
def k156_5 : KF := fun c i x r h => (fun (x0 : AV) =>
 .ret (T22 x0) h) (y5 r)
def k156_0 : KF := fun c i x r h => (fun (x0 x1 : AV) =>
 x (T25 x0 x1 .nils) h) (y0 r) (y1 r)
def x156 : AC := (.shal k156_0 (.seq (.shal k156_1 (.block 0 (.loop (.shal k156_2 (.shal k156_3 (.shal k156_4 .skip)))))) (.shal k156_5 .skip)))
def z156 : List Rs := [.t .h0 .h4]
def f156 : AF := .mk x156 z156
def k157_0 : KF := fun c i x r h => (fun (x0 x1 : AV) =>
 tR (nic x0 h) fun v2 h3 =>
 tR (fa 7 v2 h3) fun v4 h5 =>
 tR (ld v4 h5) fun v6 h7 =>
 tT (c 216 [v6,x1] h7) fun v8 h9 =>
 tR (o_ext 0 (.c v8) .nil h9) fun v10 h11 =>
 tR (o_ext 1 (.c v8) .nil h11) fun v12 h13 =>
 tR (o_alloc 234 4 (.k1 (.mk (pi 0) (pi 0) (pi 0) (.str []) .undef .undef .undef .undef .undef .undef .undef .undef .undef .undef .undef .undef)) .nil h13) fun v14 h15 =>
 tR (o_stn 4 (.c v14) (.c v10) .nil h15) fun v16 h17 =>
 .ret (T22 v12) h17) (y0 r) (y1 r)
def x157 : AC := (.shal k157_0 .skip)
def z157 : List Rs := [.t .h0 .h4]
def f157 : AF := .mk x157 z157
def k159_0 : KF := fun c i x r h => (fun (x0 x1 : AV) =>
 tR (len x1 h) fun v2 h3 =>
 tR (b_gt v2 (pi 4194304) h3) fun v4 h5 =>
 ifR v4 (.ret (T22 (pi 13)) h5) (tT (c 84 [x1] h5) fun v6 h7 =>
 tR (nic x0 h7) fun v8 h9 =>
 tR (fa 0 v8 h9) fun v10 h11 =>
 tR (sto v10 v6 h11) fun v12 h13 =>
 tR (nic x0 h13) fun v14 h15 =>
 tR (fa 0 v14 h15) fun v16 h17 =>
 tR (ld v16 h17) fun v18 h19 =>
 tR (len v18 h19) fun v20 h21 =>
 tR (nic x0 h21) fun v22 h23 =>
 tR (fa 1 v22 h23) fun v24 h25 =>
 tR (sto v24 v20 h25) fun v26 h27 =>
 .ret (T22 (pi 0)) h27)) (y0 r) (y1 r)
def x159 : AC := (.shal k159_0 .skip)
def z159 : List Rs := [.t .h0 .h4]
def f159 : AF := .mk x159 z159
def k160_3 : KF := fun c i x r h => (fun (x0 x1 x2 : AV) =>
 tR (nic x0 h) fun v3 h4 =>
 tR (fa 1 v3 h4) fun v5 h6 =>
 tR (ld v5 h6) fun v7 h8 =>
 tR (b_add v7 (pi 1) h8) fun v9 h10 =>
 tR (nic x0 h10) fun v11 h12 =>
 tR (fa 1 v11 h12) fun v13 h14 =>
 tR (sto v13 v9 h14) fun v15 h16 =>
 .nm (T39 x0 x1 x2) h16) (y0 r) (y3 r) (y4 r)
def k160_2 : KF := fun c i x r h => (fun (x0 x1 x2 : AV) =>
 tR (nic x0 h) fun v3 h4 =>
 tR (fa 1 v3 h4) fun v5 h6 =>
 tR (ld v5 h6) fun v7 h8 =>
 tR (b_lt v7 x2 h8) fun v9 h10 =>
 ifR v9 (x (T39 x0 x1 x2) h10) (.ex 0 (T32 x1) h10)) (y0 r) (y3 r) (y4 r)
def k160_1 : KF := fun c i x r h => (fun (x0 x1 : AV) =>
 tT (c 131 [x0] h) fun v2 h3 =>
 x (T39 x0 x1 v2) h3) (y0 r) (y3 r)
def k160_4 : KF := fun c i x r h => (fun (x0 : AV) =>
 .ret (T23 x0) h) (y3 r)
def k160_0 : KF := fun c i x r h => (fun (x0 : AV) =>
 x (T11 x0 .nils) h) (y0 r)
def x160 : AC := (.shal k160_0 (.seq (.shal k160_1 (.block 0 (.loop (.shal k160_2 (.seq (.block 1 (.drw [q 0 (m d21 r0),
 q 0 (o d22 (.nilc r21)),
 q 0 (o d23 (.fad 0 r22)),
 q 0 (o d24 (.ld1 r23)),
 q 0 (m d25 r0),
 q 0 (o d26 (.nilc r25)),
 q 0 (o d27 (.fad 1 r26)),
 q 0 (o d28 (.ld1 r27)),
 q 0 (o d29 (.lkp (.one .i) (.str []) false r24 r28)),
 w (o d30 (.bslice 9 1 1 [(.str [])] [.mk 0 1 r29])),
 q 1 (m d20 r3),
 w (o d31 (.app 9 1 r20 r30)),
 q 0 (m d3 r31)])) (.shal k160_3 .skip)))))) (.shal k160_4 .skip)))
def z160 : List Rs := [.t .h0 .h2]
def f160 : AF := .mk x160 z160
def k161_1 : KF := fun c i x r h => (fun (x0 x1 x2 x3 x4 x5 : AV) =>
 ifR x5 (.ret T38 h) (.nm (T135 x0 x1 x2 x3 x4) h)) (y0 r) (y1 r) (y6 r) (y7 r) (y8 r) (y10 r)
def k161_5 : KF := fun c i x r h => (fun (x0 x1 x2 : AV) =>
 tQ (nic x0 h) fun v3 =>
 tQ (fa 0 v3 h) fun v4 =>
 tQ (ld v4 h) fun v5 =>
 tQ (nic v5 h) fun v6 =>
 tQ (fa 2 v6 h) fun v7 =>
 tQ (ld v7 h) fun v8 =>
 tQ (nic x0 h) fun v9 =>
 tQ (fa 1 v9 h) fun v10 =>
 tQ (ld v10 h) fun v11 =>
 tQ (nic x0 h) fun v12 =>
 tQ (fa 12 v12 h) fun v13 =>
 tQ (ld v13 h) fun v14 =>
 tQ (b_sub v14 (pi 1) h) fun v15 =>
 tQ (nic v8 h) fun v16 =>
 tX (i 4 v8 [v11,v15,x1,x2] h) fun v17 h18 =>
 .nm T38 h18) (y0 r) (y8 r) (y12 r)
def k161_4 : KF := fun c i x r h => (fun (x0 x1 x2 x3 x4 : AV) =>
 tQ (nic x0 h) fun v5 =>
 tQ (fa 11 v5 h) fun v6 =>
 tQ (ld v6 h) fun v7 =>
 tQ (o_ldn 3 (.c x2) .nil h) fun v8 =>
 tQ (nic x0 h) fun v9 =>
 tQ (fa 12 v9 h) fun v10 =>
 tQ (ld v10 h) fun v11 =>
 tQ (o_build [(pi 0),(pi 0)] [.mk 0 1 (.c x1),.mk 1 1 (.c v11)] .nil h) fun v12 =>
 tX (RV.toT (mup (.agg [.i,.i,.i]) v7 v8 v12 h)) fun v13 h14 =>
 tR (nic x0 h14) fun v15 h16 =>
 tR (fa 12 v15 h16) fun v17 h18 =>
 tR (ld v17 h18) fun v19 h20 =>
 tR (b_add v19 (pi 1) h20) fun v21 h22 =>
 tR (nic x0 h22) fun v23 h24 =>
 tR (fa 12 v23 h24) fun v25 h26 =>
 tR (sto v25 v21 h26) fun v27 h28 =>
 x (T138 x0 x3 x4) h28) (y0 r) (y1 r) (y6 r) (y8 r) (y12 r)
def k161_3 : KF := fun c i x r h => (fun (x0 x1 x2 x3 x4 x5 x6 : AV) =>
 ifR x3 (tQ (nic x0 h) fun v7 =>
 tQ (fa 11 v7 h) fun v8 =>
 tQ (ld v8 h) fun v9 =>
 tQ (o_ldn 3 (.c x2) .nil h) fun v10 =>
 tQ (o_build [(pi 0),(pi 0)] [.mk 0 1 (.c x1),.mk 1 1 (.c (ni 0))] .nil h) fun v11 =>
 tX (RV.toT (mup (.agg [.i,.i,.i]) v9 v10 v11 h)) fun v12 h13 =>
 ifR x6 (tQ (nic x0 h13) fun v14 =>
 tQ (fa 0 v14 h13) fun v15 =>
 tQ (ld v15 h13) fun v16 =>
 tQ (nic v16 h13) fun v17 =>
 tQ (fa 2 v17 h13) fun v18 =>
 tQ (ld v18 h13) fun v19 =>
 tQ (nic x0 h13) fun v20 =>
 tQ (fa 1 v20 h13) fun v21 =>
 tQ (ld v21 h13) fun v22 =>
 tQ (nic x0 h13) fun v23 =>
 tQ (fa 12 v23 h13) fun v24 =>
 tQ (ld v24 h13) fun v25 =>
 tQ (fa 4 x5 h13) fun v26 =>
 tQ (ld v26 h13) fun v27 =>
 tQ (nic v19 h13) fun v28 =>
 tX (i 3 v19 [v22,v25,v27] h13) fun v29 h30 =>
 .ret T38 h30) (.ret T38 h13)) (x (T137 x0 x1 x2 x4 x6) h)) (y0 r) (y1 r) (y6 r) (y7 r) (y8 r) (y11 r) (y12 r)
def k161_2 : KF := fun c i x r h => (fun (x0 x1 x2 x3 x4 : AV) =>
 tR (o_ldn 3 (.c x2) .nil h) fun v5 h6 =>
 tT (c 204 [x0,v5] h6) fun v7 h8 =>
 tR (o_ext 0 (.c v7) .nil h8) fun v9 h10 =>
 tR (o_ext 1 (.c v7) .nil h10) fun v11 h12 =>
 tR (o_alloc 224 6 (.k1 (.mk (pi 0) (pi 0) (pi 0) (.bool false) (.str []) (pi 0) .undef .undef .undef .undef .undef .undef .undef .undef .undef .undef)) .nil h12) fun v13 h14 =>
 tR (o_stn 6 (.c v13) (.c v9) .nil h14) fun v15 h16 =>
 tR (nic x0 h16) fun v17 h18 =>
 tR (fa 22 v17 h18) fun v19 h20 =>
 tR (sto v19 (pi 0) h20) fun v21 h22 =>
 x (T136 x0 x1 x2 x3 x4 v13 v11) h22) (y0 r) (y1 r) (y6 r) (y7 r) (y8 r)
def k161_0 : KF := fun c i x r h => (fun (x0 x1 x2 : AV) =>
 tT (c 225 [x2] h) fun v3 h4 =>
 tR (o_ext 0 (.c v3) .nil h4) fun v5 h6 =>
 tR (o_ext 1 (.c v3) .nil h6) fun v7 h8 =>
 tR (o_ext 2 (.c v3) .nil h8) fun v9 h10 =>
 tR (o_alloc 222 3 (.k1 (.mk (pi 0) (pi 0) (pi 0) .undef .undef .undef .undef .undef .undef .undef .undef .undef .undef .undef .undef .undef)) .nil h10) fun v11 h12 =>
 tR (o_stn 3 (.c v11) (.c v5) .nil h12) fun v13 h14 =>
 x (T135 x0 x1 v11 v7 v9) h14) (y0 r) (y1 r) (y2 r)
def x161 : AC := (.shal k161_0 (.seq (.seq (.drw [w (o d9 (.alloc 240 2 (.k1 (.mk (pi 0) (pi 0) .undef .undef .undef .undef .undef .undef .undef .undef .undef .undef .undef .undef .undef .undef)))),
 q 1 (m d20 r0),
 q 1 (o d21 (.nilc r20)),
 q 1 (o d22 (.fad 11 r21)),
 q 1 (o d23 (.ld1 r22)),
 q 1 (o d24 (.ldn 3 r6)),
 q 1 (o d25 (.lkp (.agg [.i,.i,.i]) (.agg [(pi 0),(pi 0)]) true r23 r24)),
 q 1 (m d19 r25),
 q 1 (o d26 (.ext 0 r19)),
 w (o .no (.stn 2 r9 r26)),
 q 2 (o d27 (.ext 1 r19)),
 q 0 (m d10 r27)]) (.shal k161_1 .skip)) (.shal k161_2 (.shal k161_3 (.shal k161_4 (.shal k161_5 .skip))))))
def z161 : List Rs := []
def f161 : AF := .mk x161 z161
end
end Go.Am.Seat
