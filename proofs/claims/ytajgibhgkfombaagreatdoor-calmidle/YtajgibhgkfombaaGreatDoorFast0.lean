/- The same code in a form that runs faster, written by program. Nothing is asked. -/
import Derived.Test.YtajgibhgkfombaaGreatDoorHead
set_option linter.all false
namespace Go.Am.Seat
set_option linter.unusedVariables false
set_option maxRecDepth 20000
noncomputable section
def T0 (v0 v1 v5 v6 : AV) : A2 := N0 (.mk v0 v1 u u u v5 v6 u u u u u u u u u)
def T1 (v4 : AV) : A2 := N0 (.mk u u u u v4 u u u u u u u u u u u)
def T2 (v0 v1 v5 : AV) : A2 := N0 (.mk v0 v1 u u u v5 u u u u u u u u u u)
def T3 (v0 v1 v5 v7 v8 : AV) : A2 := N0 (.mk v0 v1 u u u v5 u v7 v8 u u u u u u u)
def T4 (v0 v5 v9 : AV) : A2 := N0 (.mk v0 u u u u v5 u u u v9 u u u u u u)
def T5 : A2 := .nil
def T6 (v0 v5 v9 v11 v12 : AV) : A2 := N0 (.mk v0 u u u u v5 u u u v9 u v11 v12 u u u)
def T7 (v0 v1 : AV) : A2 := N0 (.mk v0 v1 u u u u u u u u u u u u u u)
def T8 (v6 : AV) : A2 := N0 (.mk u u u u u u v6 u u u u u u u u u)
def T9 (v2 v3 : AV) : A2 := N0 (.mk u u v2 v3 u u u u u u u u u u u u)
def T10 (v0 v6 : AV) : A2 := N0 (.mk v0 u u u u u v6 u u u u u u u u u)
def T11 (v6 v21 v22 : AV) : A2 := N1 (.mk u u u u u u v6 u u u u u u u u u) (.mk u u u u u v21 v22 u u u u u u u u u)
def T12 (v6 v7 : AV) : A2 := N0 (.mk u u u u u u v6 v7 u u u u u u u u)
def T13 (v0 : AV) : A2 := N0 (.mk v0 u u u u u u u u u u u u u u u)
def T14 (v2 : AV) : A2 := N0 (.mk u u v2 u u u u u u u u u u u u u)
def T15 (v0 v3 : AV) : A2 := N0 (.mk v0 u u v3 u u u u u u u u u u u u)
def T16 (v0 v3 v9 : AV) : A2 := N0 (.mk v0 u u v3 u u u u u v9 u u u u u u)
def T17 (v3 v9 v10 : AV) : A2 := N0 (.mk u u u v3 u u u u u v9 v10 u u u u u)
def T18 (v9 v11 v12 : AV) : A2 := N0 (.mk u u u u u u u u u v9 u v11 v12 u u u)
def T19 (v1 v2 : AV) : A2 := N0 (.mk u v1 v2 u u u u u u u u u u u u u)
def T20 (v1 : AV) : A2 := N0 (.mk u v1 u u u u u u u u u u u u u u)
def T21 (v3 : AV) : A2 := N0 (.mk u u u v3 u u u u u u u u u u u u)
def T22 (v4 v5 : AV) : A2 := N0 (.mk u u u u v4 v5 u u u u u u u u u u)
def T23 (v0 v3 v4 v6 : AV) : A2 := N0 (.mk v0 u u v3 v4 u v6 u u u u u u u u u)
def T24 (v3 v4 v6 v7 : AV) : A2 := N0 (.mk u u u v3 v4 u v6 v7 u u u u u u u u)
def T25 (v3 v4 v35 v36 v37 : AV) : A2 := N2 (.mk u u u v3 v4 u u u u u u u u u u u) .nil (.mk u u u v35 v36 v37 u u u u u u u u u u)
def T26 (v3 v4 v10 v35 v36 v37 : AV) : A2 := N2 (.mk u u u v3 v4 u u u u u v10 u u u u u) .nil (.mk u u u v35 v36 v37 u u u u u u u u u u)
def T27 (v0 v3 v7 : AV) : A2 := N0 (.mk v0 u u v3 u u u v7 u u u u u u u u)
def T28 (v0 v3 v7 v8 : AV) : A2 := N0 (.mk v0 u u v3 u u u v7 v8 u u u u u u u)
def T29 (v0 v3 v7 v13 : AV) : A2 := N0 (.mk v0 u u v3 u u u v7 u u u u u v13 u u)
def T30 (v0 v3 v7 v18 : AV) : A2 := N1 (.mk v0 u u v3 u u u v7 u u u u u u u u) (.mk u u v18 u u u u u u u u u u u u u)
def T31 (v0 v3 v7 v30 : AV) : A2 := N1 (.mk v0 u u v3 u u u v7 u u u u u u u u) (.mk u u u u u u u u u u u u u u v30 u)
def T32 (v0 v3 v7 v40 : AV) : A2 := N2 (.mk v0 u u v3 u u u v7 u u u u u u u u) .nil (.mk u u u u u u u u v40 u u u u u u u)
def T33 (v0 v3 v7 v50 : AV) : A2 := N3 (.mk v0 u u v3 u u u v7 u u u u u u u u) .nil .nil (.mk u u v50 u u u u u u u u u u u u u)
def T34 (v0 v3 v7 v66 : AV) : A2 := N4 (.mk v0 u u v3 u u u v7 u u u u u u u u) .nil .nil .nil (.mk u u v66 u u u u u u u u u u u u u)
def T35 (v0 v3 v7 v74 : AV) : A2 := N4 (.mk v0 u u v3 u u u v7 u u u u u u u u) .nil .nil .nil (.mk u u u u u u u u u u v74 u u u u u)
def T36 (v0 v80 : AV) : A2 := N5 (.mk v0 u u u u u u u u u u u u u u u) .nil .nil .nil .nil (.mk v80 u u u u u u u u u u u u u u u)
def T37 (v0 v1 v6 : AV) : A2 := N0 (.mk v0 v1 u u u u v6 u u u u u u u u u)
def T38 (v0 v1 v6 v8 : AV) : A2 := N0 (.mk v0 v1 u u u u v6 u v8 u u u u u u u)
def T39 (v0 v5 v12 v13 v14 : AV) : A2 := N0 (.mk v0 u u u u v5 u u u u u u v12 v13 v14 u)
def T40 (v5 : AV) : A2 := N0 (.mk u u u u u v5 u u u u u u u u u u)
def T41 (v0 v5 : AV) : A2 := N0 (.mk v0 u u u u v5 u u u u u u u u u u)
def T42 (v5 v12 v13 : AV) : A2 := N0 (.mk u u u u u v5 u u u u u u v12 v13 u u)
def T43 (v5 v6 v12 v13 : AV) : A2 := N0 (.mk u u u u u v5 v6 u u u u u v12 v13 u u)
def T44 (v5 v34 v35 v36 : AV) : A2 := N2 (.mk u u u u u v5 u u u u u u u u u u) .nil (.mk u u v34 v35 v36 u u u u u u u u u u u)
def T45 (v0 v3 v4 : AV) : A2 := N0 (.mk v0 u u v3 v4 u u u u u u u u u u u)
def T46 (v0 v3 v4 v5 : AV) : A2 := N0 (.mk v0 u u v3 v4 v5 u u u u u u u u u u)
def T47 (v0 v1 v10 v11 : AV) : A2 := N0 (.mk v0 v1 u u u u u u u u v10 v11 u u u u)
def T48 (v0 v24 v25 v26 : AV) : A2 := N1 (.mk v0 u u u u u u u u u u u u u u u) (.mk u u u u u u u u v24 v25 v26 u u u u u)
def T49 (v0 v3 v6 : AV) : A2 := N0 (.mk v0 u u v3 u u v6 u u u u u u u u u)
def T50 (v0 v3 v6 v7 : AV) : A2 := N0 (.mk v0 u u v3 u u v6 v7 u u u u u u u u)
def T51 (v0 v3 v6 v27 : AV) : A2 := N1 (.mk v0 u u v3 u u v6 u u u u u u u u u) (.mk u u u u u u u u u u u v27 u u u u)
def T52 (v0 v3 v41 : AV) : A2 := N2 (.mk v0 u u v3 u u u u u u u u u u u u) .nil (.mk u u u u u u u u u v41 u u u u u u)
def T53 (v0 v3 v5 : AV) : A2 := N0 (.mk v0 u u v3 u v5 u u u u u u u u u u)
def T54 (v0 v3 v5 v35 v36 : AV) : A2 := N2 (.mk v0 u u v3 u v5 u u u u u u u u u u) .nil (.mk u u u v35 v36 u u u u u u u u u u u)
def T55 (v0 v3 v4 v5 v35 v36 v44 : AV) : A2 := N2 (.mk v0 u u v3 v4 v5 u u u u u u u u u u) .nil (.mk u u u v35 v36 u u u u u u u v44 u u u)
def T56 (v0 v4 : AV) : A2 := N0 (.mk v0 u u u v4 u u u u u u u u u u u)
def T57 (v0 v81 v82 v83 : AV) : A2 := N5 (.mk v0 u u u u u u u u u u u u u u u) .nil .nil .nil .nil (.mk u v81 v82 v83 u u u u u u u u u u u u)
def T58 (v0 v1 v2 v5 v9 v10 : AV) : A2 := N0 (.mk v0 v1 v2 u u v5 u u u v9 v10 u u u u u)
def T59 (v1 v3 : AV) : A2 := N0 (.mk u v1 u v3 u u u u u u u u u u u u)
def T60 (v1 v3 v41 v42 v43 : AV) : A2 := N2 (.mk u v1 u v3 u u u u u u u u u u u u) .nil (.mk u u u u u u u u u v41 v42 v43 u u u u)
def T61 (v3 v62 v63 v64 : AV) : A2 := N4 (.mk u u u v3 u u u u u u u u u u u u) .nil .nil (.mk u u u u u u u u u u u u u u v62 v63) (.mk v64 u u u u u u u u u u u u u u u)
def T62 (v3 v7 v62 v63 v64 : AV) : A2 := N4 (.mk u u u v3 u u u v7 u u u u u u u u) .nil .nil (.mk u u u u u u u u u u u u u u v62 v63) (.mk v64 u u u u u u u u u u u u u u u)
def T63 (v3 v7 v62 v63 v64 v78 v79 v80 : AV) : A2 := N5 (.mk u u u v3 u u u v7 u u u u u u u u) .nil .nil (.mk u u u u u u u u u u u u u u v62 v63) (.mk v64 u u u u u u u u u u u u u v78 v79) (.mk v80 u u u u u u u u u u u u u u u)
def T64 (v1 v2 v3 : AV) : A2 := N0 (.mk u v1 v2 v3 u u u u u u u u u u u u)
def T65 (v1 v2 v3 v16 v17 : AV) : A2 := N1 (.mk u v1 v2 v3 u u u u u u u u u u u u) (.mk v16 v17 u u u u u u u u u u u u u u)
def T66 (v0 v1 v4 : AV) : A2 := N0 (.mk v0 v1 u u v4 u u u u u u u u u u u)
def T67 (v0 v4 v50 v51 v52 : AV) : A2 := N3 (.mk v0 u u u v4 u u u u u u u u u u u) .nil .nil (.mk u u v50 v51 v52 u u u u u u u u u u u)
def T68 (v0 v4 v62 : AV) : A2 := N3 (.mk v0 u u u v4 u u u u u u u u u u u) .nil .nil (.mk u u u u u u u u u u u u u u v62 u)
def T69 (v0 v4 v11 v12 v62 : AV) : A2 := N3 (.mk v0 u u u v4 u u u u u u v11 v12 u u u) .nil .nil (.mk u u u u u u u u u u u u u u v62 u)
def T70 (v0 v4 v11 v12 v13 v62 v91 : AV) : A2 := N5 (.mk v0 u u u v4 u u u u u u v11 v12 v13 u u) .nil .nil (.mk u u u u u u u u u u u u u u v62 u) .nil (.mk u u u u u u u u u u u v91 u u u u)
def T71 (v0 v3 v4 v5 v9 : AV) : A2 := N0 (.mk v0 u u v3 v4 v5 u u u v9 u u u u u u)
def T72 (v0 v3 v4 v5 v6 v7 v9 : AV) : A2 := N0 (.mk v0 u u v3 v4 v5 v6 v7 u v9 u u u u u u)
def T73 (v0 v3 v4 v5 v6 v8 v9 : AV) : A2 := N0 (.mk v0 u u v3 v4 v5 v6 u v8 v9 u u u u u u)
def T74 (v0 v5 v6 : AV) : A2 := N0 (.mk v0 u u u u v5 v6 u u u u u u u u u)
def T75 (v0 v3 v12 v13 v14 : AV) : A2 := N0 (.mk v0 u u v3 u u u u u u u u v12 v13 v14 u)
def T76 (v3 v6 v32 v33 v34 : AV) : A2 := N2 (.mk u u u v3 u u v6 u u u u u u u u u) .nil (.mk v32 v33 v34 u u u u u u u u u u u u u)
def T77 (v3 v6 v8 v32 v33 v34 : AV) : A2 := N2 (.mk u u u v3 u u v6 u v8 u u u u u u u) .nil (.mk v32 v33 v34 u u u u u u u u u u u u u)
def T78 (v0 v4 v5 : AV) : A2 := N0 (.mk v0 u u u v4 v5 u u u u u u u u u u)
def T79 (v0 v4 v5 v6 : AV) : A2 := N0 (.mk v0 u u u v4 v5 v6 u u u u u u u u u)
def T80 (v1 v2 v29 v30 v31 : AV) : A2 := N1 (.mk u v1 v2 u u u u u u u u u u u u u) (.mk u u u u u u u u u u u u u v29 v30 v31)
def T81 (v1 v2 v50 v51 v52 : AV) : A2 := N3 (.mk u v1 v2 u u u u u u u u u u u u u) .nil .nil (.mk u u v50 v51 v52 u u u u u u u u u u u)
def T82 (v1 v2 v6 v7 v50 v51 v52 : AV) : A2 := N3 (.mk u v1 v2 u u u v6 v7 u u u u u u u u) .nil .nil (.mk u u v50 v51 v52 u u u u u u u u u u u)
def T83 (v0 v2 v14 v15 v16 : AV) : A2 := N1 (.mk v0 u v2 u u u u u u u u u u u v14 v15) (.mk v16 u u u u u u u u u u u u u u u)
def T84 (v3 v6 v7 v8 : AV) : A2 := N0 (.mk u u u v3 u u v6 v7 v8 u u u u u u u)
def T85 (v1 v38 v39 v40 : AV) : A2 := N2 (.mk u v1 u u u u u u u u u u u u u u) .nil (.mk u u u u u u v38 v39 v40 u u u u u u u)
def T86 (v1 v4 v38 v39 v40 : AV) : A2 := N2 (.mk u v1 u u v4 u u u u u u u u u u u) .nil (.mk u u u u u u v38 v39 v40 u u u u u u u)
def T87 (v58 v59 v60 : AV) : A2 := N3 .nil .nil .nil (.mk u u u u u u u u u u v58 v59 v60 u u u)
def T88 (v6 v58 v59 v60 : AV) : A2 := N3 (.mk u u u u u u v6 u u u u u u u u u) .nil .nil (.mk u u u u u u u u u u v58 v59 v60 u u u)
def T89 (v2 v8 : AV) : A2 := N0 (.mk u u v2 u u u u u v8 u u u u u u u)
def T90 (v2 v8 v9 : AV) : A2 := N0 (.mk u u v2 u u u u u v8 v9 u u u u u u)
def T91 (v0 v2 v6 : AV) : A2 := N0 (.mk v0 u v2 u u u v6 u u u u u u u u u)
def T92 (v0 v1 v2 v11 v12 v13 : AV) : A2 := N0 (.mk v0 v1 v2 u u u u u u u u v11 v12 v13 u u)
def T93 (v0 v1 v2 : AV) : A2 := N0 (.mk v0 v1 v2 u u u u u u u u u u u u u)
def T94 (v0 v1 v2 v6 v7 v11 v12 v13 : AV) : A2 := N0 (.mk v0 v1 v2 u u u v6 v7 u u u v11 v12 v13 u u)
def T95 (v0 v1 v2 v6 v11 v12 v13 : AV) : A2 := N0 (.mk v0 v1 v2 u u u v6 u u u u v11 v12 v13 u u)
def T96 (v0 v1 v2 v6 : AV) : A2 := N0 (.mk v0 v1 v2 u u u v6 u u u u u u u u u)
def T97 (v0 v1 v2 v7 : AV) : A2 := N0 (.mk v0 v1 v2 u u u u v7 u u u u u u u u)
def T98 (v0 v3 v4 v5 v6 : AV) : A2 := N0 (.mk v0 u u v3 v4 v5 v6 u u u u u u u u u)
def T99 (v0 v3 v4 v6 v29 : AV) : A2 := N1 (.mk v0 u u v3 v4 u v6 u u u u u u u u u) (.mk u u u u u u u u u u u u u v29 u u)
def T100 (v0 v3 v4 v6 v29 v30 : AV) : A2 := N1 (.mk v0 u u v3 v4 u v6 u u u u u u u u u) (.mk u u u u u u u u u u u u u v29 v30 u)
def T101 (v0 v3 v4 v6 v29 v38 : AV) : A2 := N2 (.mk v0 u u v3 v4 u v6 u u u u u u u u u) (.mk u u u u u u u u u u u u u v29 u u) (.mk u u u u u u v38 u u u u u u u u u)
def T102 (v0 v3 v4 v6 v29 v46 : AV) : A2 := N2 (.mk v0 u u v3 v4 u v6 u u u u u u u u u) (.mk u u u u u u u u u u u u u v29 u u) (.mk u u u u u u u u u u u u u u v46 u)
def T103 (v0 v3 v4 v6 v29 v54 : AV) : A2 := N3 (.mk v0 u u v3 v4 u v6 u u u u u u u u u) (.mk u u u u u u u u u u u u u v29 u u) .nil (.mk u u u u u u v54 u u u u u u u u u)
def T104 (v0 v69 v70 v71 : AV) : A2 := N4 (.mk v0 u u u u u u u u u u u u u u u) .nil .nil .nil (.mk u u u u u v69 v70 v71 u u u u u u u u)
def T105 (v0 v16 v17 v18 : AV) : A2 := N1 (.mk v0 u u u u u u u u u u u u u u u) (.mk v16 v17 v18 u u u u u u u u u u u u u)
def T106 (v0 v1 v6 v7 v8 : AV) : A2 := N0 (.mk v0 v1 u u u u v6 v7 v8 u u u u u u u)
def T107 (v0 v1 v6 v7 v8 v11 v12 : AV) : A2 := N0 (.mk v0 v1 u u u u v6 v7 v8 u u v11 v12 u u u)
def T108 (v0 v1 v6 v8 v12 : AV) : A2 := N0 (.mk v0 v1 u u u u v6 u v8 u u u v12 u u u)
def T109 (v0 v8 v12 : AV) : A2 := N0 (.mk v0 u u u u u u u v8 u u u v12 u u u)
def T110 (v5 v6 v7 : AV) : A2 := N0 (.mk u u u u u v5 v6 v7 u u u u u u u u)
def T111 (v0 v1 v11 : AV) : A2 := N0 (.mk v0 v1 u u u u u u u u u v11 u u u u)
def T112 (v0 v5 v6 v7 : AV) : A2 := N0 (.mk v0 u u u u v5 v6 v7 u u u u u u u u)
def T113 (v0 v2 v4 v5 : AV) : A2 := N0 (.mk v0 u v2 u v4 v5 u u u u u u u u u u)
def T114 (v0 v2 v4 v5 v6 : AV) : A2 := N0 (.mk v0 u v2 u v4 v5 v6 u u u u u u u u u)
def T115 (v0 v2 v4 v5 v8 : AV) : A2 := N0 (.mk v0 u v2 u v4 v5 u u v8 u u u u u u u)
def T116 (v0 v2 v5 v9 : AV) : A2 := N0 (.mk v0 u v2 u u v5 u u u v9 u u u u u u)
def T117 (v2 v5 : AV) : A2 := N0 (.mk u u v2 u u v5 u u u u u u u u u u)
def T118 (v4 v6 : AV) : A2 := N0 (.mk u u u u v4 u v6 u u u u u u u u u)
def T119 (v0 v2 : AV) : A2 := N0 (.mk v0 u v2 u u u u u u u u u u u u u)
def T120 (v0 v2 v3 : AV) : A2 := N0 (.mk v0 u v2 v3 u u u u u u u u u u u u)
def T121 (v1 v4 v6 v8 v9 : AV) : A2 := N0 (.mk u v1 u u v4 u v6 u v8 v9 u u u u u u)
def T122 (v0 v1 v3 v6 v8 v9 : AV) : A2 := N0 (.mk v0 v1 u v3 u u v6 u v8 v9 u u u u u u)
def T123 (v0 v1 v3 v6 v8 v9 v10 : AV) : A2 := N0 (.mk v0 v1 u v3 u u v6 u v8 v9 v10 u u u u u)
def T124 (v0 v1 v6 v8 v9 v41 v42 v43 : AV) : A2 := N2 (.mk v0 v1 u u u u v6 u v8 v9 u u u u u u) .nil (.mk u u u u u u u u u v41 v42 v43 u u u u)
def T125 (v0 v1 v6 v9 : AV) : A2 := N0 (.mk v0 v1 u u u u v6 u u v9 u u u u u u)
def T126 (v0 v1 v6 v8 v9 : AV) : A2 := N0 (.mk v0 v1 u u u u v6 u v8 v9 u u u u u u)
def T127 (v0 v1 v3 v6 : AV) : A2 := N0 (.mk v0 v1 u v3 u u v6 u u u u u u u u u)
def T128 (v0 v1 v2 v11 v12 : AV) : A2 := N0 (.mk v0 v1 v2 u u u u u u u u v11 v12 u u u)
def T129 (v4 v5 v6 v7 : AV) : A2 := N0 (.mk u u u u v4 v5 v6 v7 u u u u u u u u)
def T130 (v0 v1 v2 v8 : AV) : A2 := N0 (.mk v0 v1 v2 u u u u u v8 u u u u u u u)
def T131 (v0 v2 v5 v6 v7 : AV) : A2 := N0 (.mk v0 u v2 u u v5 v6 v7 u u u u u u u u)
def T132 (v0 v4 v6 : AV) : A2 := N0 (.mk v0 u u u v4 u v6 u u u u u u u u u)
def T133 (v4 v7 : AV) : A2 := N0 (.mk u u u u v4 u u v7 u u u u u u u u)
def T134 (v7 : AV) : A2 := N0 (.mk u u u u u u u v7 u u u u u u u u)
def T135 (v0 v3 v4 v10 : AV) : A2 := N0 (.mk v0 u u v3 v4 u u u u u v10 u u u u u)
def T136 (v0 v3 v4 v10 v11 : AV) : A2 := N0 (.mk v0 u u v3 v4 u u u u u v10 v11 u u u u)
def T137 (v0 v3 v4 v10 v32 : AV) : A2 := N2 (.mk v0 u u v3 v4 u u u u u v10 u u u u u) .nil (.mk v32 u u u u u u u u u u u u u u u)
def T138 (v0 v3 v4 v58 : AV) : A2 := N3 (.mk v0 u u v3 v4 u u u u u u u u u u u) .nil .nil (.mk u u u u u u u u u u v58 u u u u u)
def T139 (v8 : AV) : A2 := N0 (.mk u u u u u u u u v8 u u u u u u u)
def T140 (v0 v1 v2 v6 v7 : AV) : A2 := N0 (.mk v0 v1 v2 u u u v6 v7 u u u u u u u u)
def T141 (v0 v84 v85 v86 : AV) : A2 := N5 (.mk v0 u u u u u u u u u u u u u u u) .nil .nil .nil .nil (.mk u u u u v84 v85 v86 u u u u u u u u u)
def T142 (v0 v7 v8 : AV) : A2 := N0 (.mk v0 u u u u u u v7 v8 u u u u u u u)
def T143 (v0 v133 v134 : AV) : A2 := N8 (.mk v0 u u u u u u u u u u u u u u u) .nil .nil .nil .nil .nil .nil .nil (.mk u u u u u v133 v134 u u u u u u u u u)
def T144 (v0 v2 v4 : AV) : A2 := N0 (.mk v0 u v2 u v4 u u u u u u u u u u u)
def T145 (v0 v1 v8 : AV) : A2 := N0 (.mk v0 v1 u u u u u u v8 u u u u u u u)
def T146 (v0 v4 v5 v19 v20 v21 : AV) : A2 := N1 (.mk v0 u u u v4 v5 u u u u u u u u u u) (.mk u u u v19 v20 v21 u u u u u u u u u u)
def T147 (v0 v10 v11 v12 : AV) : A2 := N0 (.mk v0 u u u u u u u u u v10 v11 v12 u u u)
def T148 (v0 v1 v3 v6 v8 : AV) : A2 := N0 (.mk v0 v1 u v3 u u v6 u v8 u u u u u u u)
def T149 (v0 v1 v3 v8 : AV) : A2 := N0 (.mk v0 v1 u v3 u u u u v8 u u u u u u u)
def T150 (v3 v8 : AV) : A2 := N0 (.mk u u u v3 u u u u v8 u u u u u u u)
def T151 (v49 : AV) : A2 := N3 .nil .nil .nil (.mk u v49 u u u u u u u u u u u u u u)
def T152 (v0 v5 v6 v7 v9 : AV) : A2 := N0 (.mk v0 u u u u v5 v6 v7 u v9 u u u u u u)
def T153 (v0 v5 v6 v7 v10 : AV) : A2 := N0 (.mk v0 u u u u v5 v6 v7 u u v10 u u u u u)
def T154 (v0 v1 v9 : AV) : A2 := N0 (.mk v0 v1 u u u u u u u v9 u u u u u u)
def T155 (v0 v4 v5 v7 : AV) : A2 := N0 (.mk v0 u u u v4 v5 u v7 u u u u u u u u)
def T156 (v1 v3 v11 : AV) : A2 := N0 (.mk u v1 u v3 u u u u u u u v11 u u u u)
def T157 (v1 v3 v22 : AV) : A2 := N1 (.mk u v1 u v3 u u u u u u u u u u u u) (.mk u u u u u u v22 u u u u u u u u u)
def T158 (v3 v7 v8 v9 : AV) : A2 := N0 (.mk u u u v3 u u u v7 v8 v9 u u u u u u)
def T159 (v3 v7 v8 v9 v17 : AV) : A2 := N1 (.mk u u u v3 u u u v7 v8 v9 u u u u u u) (.mk u v17 u u u u u u u u u u u u u u)
def T160 (v0 v1 v7 v8 : AV) : A2 := N0 (.mk v0 v1 u u u u u v7 v8 u u u u u u u)
def T161 (v0 v2 v4 v6 : AV) : A2 := N0 (.mk v0 u v2 u v4 u v6 u u u u u u u u u)
def T162 (v0 v2 v3 v5 : AV) : A2 := N0 (.mk v0 u v2 v3 u v5 u u u u u u u u u u)
def T163 (v0 v15 v16 v17 : AV) : A2 := N1 (.mk v0 u u u u u u u u u u u u u u v15) (.mk v16 v17 u u u u u u u u u u u u u u)
def T164 (v0 v3 v4 v15 v16 v17 : AV) : A2 := N1 (.mk v0 u u v3 v4 u u u u u u u u u u v15) (.mk v16 v17 u u u u u u u u u u u u u u)
def T165 (v0 v1 v2 v7 v8 : AV) : A2 := N0 (.mk v0 v1 v2 u u u u v7 v8 u u u u u u u)
def T166 (v0 v1 v2 v7 v8 v31 : AV) : A2 := N1 (.mk v0 v1 v2 u u u u v7 v8 u u u u u u u) (.mk u u u u u u u u u u u u u u u v31)
def T167 (v0 v16 v17 : AV) : A2 := N1 (.mk v0 u u u u u u u u u u u u u u u) (.mk v16 v17 u u u u u u u u u u u u u u)
def T168 (v0 v3 v16 v17 : AV) : A2 := N1 (.mk v0 u u v3 u u u u u u u u u u u u) (.mk v16 v17 u u u u u u u u u u u u u u)
def T169 (v0 v1 v2 v3 v4 v10 v11 : AV) : A2 := N0 (.mk v0 v1 v2 v3 v4 u u u u u v10 v11 u u u u)
def T170 (v0 v1 v2 v3 v4 v10 v11 v12 : AV) : A2 := N0 (.mk v0 v1 v2 v3 v4 u u u u u v10 v11 v12 u u u)
def T171 (v0 v1 v2 v3 v4 v10 v11 v12 v13 v14 : AV) : A2 := N0 (.mk v0 v1 v2 v3 v4 u u u u u v10 v11 v12 v13 v14 u)
def T172 (v0 v1 v2 v3 v4 v10 v11 v12 v13 : AV) : A2 := N0 (.mk v0 v1 v2 v3 v4 u u u u u v10 v11 v12 v13 u u)
def T173 (v0 v1 v2 v3 v4 v11 v16 v18 v19 v20 : AV) : A2 := N1 (.mk v0 v1 v2 v3 v4 u u u u u u v11 u u u u) (.mk v16 u v18 v19 v20 u u u u u u u u u u u)
def T174 (v0 v1 v2 v3 v4 v11 v16 v18 v19 v20 v125 : AV) : A2 := N7 (.mk v0 v1 v2 v3 v4 u u u u u u v11 u u u u) (.mk v16 u v18 v19 v20 u u u u u u u u u u u) .nil .nil .nil .nil .nil (.mk u u u u u u u u u u u u u v125 u u)
def T175 (v0 v1 v2 v3 v8 v9 : AV) : A2 := N0 (.mk v0 v1 v2 v3 u u u u v8 v9 u u u u u u)
def T176 (v0 v1 v2 v3 v8 v9 v10 : AV) : A2 := N0 (.mk v0 v1 v2 v3 u u u u v8 v9 v10 u u u u u)
def T177 (v0 v1 v2 v3 v8 v9 v10 v11 v12 : AV) : A2 := N0 (.mk v0 v1 v2 v3 u u u u v8 v9 v10 v11 v12 u u u)
def T178 (v0 v1 v2 v3 v8 v9 v10 v11 : AV) : A2 := N0 (.mk v0 v1 v2 v3 u u u u v8 v9 v10 v11 u u u u)
def T179 (v0 v1 v2 v3 v9 v14 v16 v17 v18 : AV) : A2 := N1 (.mk v0 v1 v2 v3 u u u u u v9 u u u u v14 u) (.mk v16 v17 v18 u u u u u u u u u u u u u)
def T180 (v0 v1 v2 v3 v9 v14 v16 v17 v18 v113 : AV) : A2 := N7 (.mk v0 v1 v2 v3 u u u u u v9 u u u u v14 u) (.mk v16 v17 v18 u u u u u u u u u u u u u) .nil .nil .nil .nil .nil (.mk u v113 u u u u u u u u u u u u u u)
def T181 (v0 v1 v2 v3 v8 : AV) : A2 := N0 (.mk v0 v1 v2 v3 u u u u v8 u u u u u u u)
def k3_3 : KF := fun c i x r h => (fun (x0 x1 x2 x3 : AV) =>
 ifR x3 (.ret (T1 (.bool false)) h) (.nm (T2 x0 x1 x2) h)) (y0 r) (y1 r) (y5 r) (y40 r)
def k3_6 : KF := fun c i x r h => (fun (x0 x1 x2 x3 : AV) =>
 ifR x3 (.ret (T1 (.bool false)) h) (.nm (T4 x0 x1 x2) h)) (y0 r) (y5 r) (y9 r) (y56 r)
def k3_8 : KF := fun c i x r h => (fun (x0 x1 x2 x3 : AV) =>
 ifR x3 (.ret (T1 (.bool false)) h) (.nm (T4 x0 x1 x2) h)) (y0 r) (y5 r) (y9 r) (y72 r)
def k3_7 : KF := fun c i x r h => (fun (x0 x1 x2 : AV) =>
 tR (b_rem x2 x0 h) fun v3 h4 =>
 tT (c 11 [x1,(pi 1),v3,(.str [118])] h4) fun v5 h6 =>
 tR (o_ext 0 (.c v5) .nil h6) fun v7 h8 =>
 tR (o_ext 1 (.c v5) .nil h8) fun v9 h10 =>
 tR (o_ext 2 (.c v5) .nil h10) fun v11 h12 =>
 tR (o_alloc 28 3 (.k1 (.mk (pi 0) (pi 0) (.str []) .undef .undef .undef .undef .undef .undef .undef .undef .undef .undef .undef .undef .undef)) .nil h12) fun v13 h14 =>
 tR (o_stn 3 (.c v13) (.c v9) .nil h14) fun v15 h16 =>
 x (T6 x0 x1 x2 v13 v11) h16) (y0 r) (y5 r) (y9 r)
def k3_9 : KF := fun c i x r h => (fun (x0 x1 x2 : AV) =>
 tR (b_sub x2 (pi 1) h) fun v3 h4 =>
 .nm (T4 x0 x1 v3) h4) (y0 r) (y5 r) (y9 r)
def k3_5 : KF := fun c i x r h => (fun (x0 x1 x2 : AV) =>
 tR (b_ge x2 (pi 0) h) fun v3 h4 =>
 ifR v3 (x (T4 x0 x1 x2) h4) (.ex 0 T5 h4)) (y0 r) (y5 r) (y9 r)
def k3_4 : KF := fun c i x r h => (fun (x0 x1 x2 : AV) =>
 tT (c 4 [x1,(pi 0),(pi 4)] h) fun v3 h4 =>
 x (T4 x0 x2 v3) h4) (y0 r) (y1 r) (y5 r)
def k3_10 : KF := fun c i x r h => tT (c 12 [] h) fun v0 h1 =>
 .ret (T1 v0) h1
def k3_2 : KF := fun c i x r h => (fun (x0 x1 x2 : AV) =>
 tT (c 8 [] h) fun v3 h4 =>
 tT (c 7 [(.str [116]),v3] h4) fun v5 h6 =>
 tT (c 6 [x2,(pi 3),v5] h6) fun v7 h8 =>
 tR (o_ext 0 (.c v7) .nil h8) fun v9 h10 =>
 tR (o_ext 1 (.c v7) .nil h10) fun v11 h12 =>
 tR (o_alloc 28 3 (.k1 (.mk (pi 0) (pi 0) (.str []) .undef .undef .undef .undef .undef .undef .undef .undef .undef .undef .undef .undef .undef)) .nil h12) fun v13 h14 =>
 tR (o_stn 3 (.c v13) (.c v9) .nil h14) fun v15 h16 =>
 x (T3 x0 x1 x2 v13 v11) h16) (y0 r) (y1 r) (y5 r)
def k3_1 : KF := fun c i x r h => (fun (x0 x1 x2 x3 : AV) =>
 tR (bK .peq x2 .nilp h) fun v4 h5 =>
 (fun (k6 : AV → Hp → RS) => gd v4 false (k6 x3 h5) (k6 .undef h5)) fun v7 h8 =>
 (fun (k9 : AV → Hp → RS) => gd v4 false (tR (b_ne v7 (pi 0) h8) fun v12 h13 =>
 k9 v12 h13) (k9 .undef h8)) fun v10 h11 =>
 tR (o_pick (.c v4) (.c (.bool true)) (.c v10) .nil h11) fun v14 h15 =>
 ifR v14 (.ret (T1 (.bool false)) h15) (x (T2 x0 x1 x2) h15)) (y0 r) (y1 r) (y5 r) (y6 r)
def k3_0 : KF := fun c i x r h => (fun (x0 x1 : AV) =>
 tT (c 4 [x0,(pi 0),(pi 4)] h) fun v2 h3 =>
 tR (b_add (pi 1) v2 h3) fun v4 h5 =>
 tT (c 5 [v4] h5) fun v6 h7 =>
 tR (o_ext 0 (.c v6) .nil h7) fun v8 h9 =>
 tR (o_ext 1 (.c v6) .nil h9) fun v10 h11 =>
 x (T0 v4 x1 v8 v10) h11) (y0 r) (y1 r)
def x3 : AC := (.shal k3_0 (.shal k3_1 (.shal k3_2 (.seq (.seq (.ops [m d34 r8,
 o d35 (.un .not r34),
 m d36 r35,
 .g .h2 .h4 false d37 (.op (.ldn 3 r7)),
 .g .h2 .h4 false d38 (.op (.build [(pi 0),(pi 0),(.str [])] [])),
 .g .h2 .h4 false d39 (.op (.bin (.ane [.i,.i,.s]) r37 r38)),
 o d40 (.pick r36 (.c (.bool true)) r39)]) (.shal k3_3 .skip)) (.seq (.shal k3_4 (.block 0 (.loop (.shal k3_5 (.seq (.block 1 (.seq (.seq (.ops [m d47 r5,
 .o d48 (.call 9 [r47]),
 o d49 (.len r48),
 o d50 (.bin .gt r49 a0),
 m d51 r50,
 .g .h3 .h3 false d52 (.op (.mv r5)),
 .g .h3 .h3 false d53 (.call 10 [r52]),
 .g .h3 .h3 false d54 (.op (.len r53)),
 .g .h3 .h3 false d55 (.op (.bin .gt r54 a0)),
 o d56 (.pick r51 (.c (.bool true)) r55)]) (.shal k3_6 .skip)) (.shal k3_7 (.seq (.ops [m d66 r12,
 o d67 (.un .not r66),
 m d68 r67,
 .g .h4 .h4 false d69 (.op (.ldn 3 r11)),
 .g .h4 .h4 false d70 (.op (.build [(pi 0),(pi 0),(.str [])] [.mk 0 1 (.c (pi 20))])),
 .g .h4 .h4 false d71 (.op (.bin (.ane [.i,.i,.s]) r69 r70)),
 o d72 (.pick r68 (.c (.bool true)) r71)]) (.shal k3_8 .skip))))) (.shal k3_9 .skip)))))) (.shal k3_10 .skip))))))
def z3 : List Rs := [.t .h0 .h4]
def f3 : AF := .mk x3 z3
def k4_1 : KF := fun c i x r h => (fun (x0 x1 : AV) =>
 tR (b_add x1 x0 h) fun v2 h3 =>
 .ret (T8 v2) h3) (y0 r) (y1 r)
def k4_0 : KF := fun c i x r h => (fun (x0 x1 x2 : AV) =>
 tR (b_sub x2 x1 h) fun v3 h4 =>
 tR (b_add v3 (pi 1) h4) fun v5 h6 =>
 tR (b_rem x0 v5 h6) fun v7 h8 =>
 tR (b_lt v7 (pi 0) h8) fun v9 h10 =>
 ifR v9 (tR (b_add v7 x2 h10) fun v11 h12 =>
 tR (b_sub v11 x1 h12) fun v13 h14 =>
 tR (b_add v13 (pi 1) h14) fun v15 h16 =>
 x (T7 v15 x1) h16) (x (T7 v7 x1) h10)) (y0 r) (y1 r) (y2 r)
def x4 : AC := (.shal k4_0 (.shal k4_1 .skip))
def z4 : List Rs := [.t .h0 .h6]
def f4 (k j : Nat) : AF := .prim (.wit [.mk (.mk .h0 .h0 .h0 .h0) k, .mk (.mk .h0 .h0 .h0 .h1) j]) x4 z4
def k5_3 : KF := fun c i x r h => (fun (x0 x1 x2 : AV) =>
 tR (b_add x2 (pi 1) h) fun v3 h4 =>
 .nm (T11 x0 x1 v3) h4) (y6 r) (y21 r) (y22 r)
def k5_2 : KF := fun c i x r h => (fun (x0 x1 x2 : AV) =>
 tR (b_lt x2 x1 h) fun v3 h4 =>
 ifR v3 (x (T11 x0 x1 x2) h4) (.ex 0 (T8 x0) h4)) (y6 r) (y21 r) (y22 r)
def k5_1 : KF := fun c i x r h => (fun (x0 x1 : AV) =>
 x (T11 x1 x0 (pi 0)) h) (y0 r) (y6 r)
def k5_4 : KF := fun c i x r h => (fun (x0 : AV) =>
 .ret (T9 x0 (pi 0)) h) (y6 r)
def k5_0 : KF := fun c i x r h => (fun (x0 : AV) =>
 tT (c 13 [x0] h) fun v1 h2 =>
 tR (o_ext 0 (.c v1) .nil h2) fun v3 h4 =>
 tR (o_ext 1 (.c v1) .nil h4) fun v5 h6 =>
 tR (b_ne v5 (pi 0) h6) fun v7 h8 =>
 ifR v7 (.ret (T9 .nilp v5) h8) (tR (o_mkslice 3 [(pi 0)] (.c x0) (.c x0) .nil h8) fun v9 h10 =>
 tR (o_build [.nilp,(pi 0),.nils,.nils,(.bool false),(.bool false),(pi 0),(pi 0),(pi 0),(pi 0),(pi 0),(.str []),(pi 0),(pi 0),(pi 0),(.str []),(.str []),.nils,.nils,(.str []),(pi 0),(pi 0),(.bool false),(.bool false),(pi 0),(pi 0),(pi 0),(pi 0),(pi 0),(.str []),(pi 0),(pi 0),(pi 0),(.str []),(.str []),.nils,.nils,(.str []),(pi 0),(pi 0),(.bool false),(.bool false),(pi 0),(pi 0),(pi 0),(pi 0),(pi 0),(.str []),(pi 0),(pi 0),(pi 0),(.str []),(.str []),.nils,.nils,(.str []),(pi 0),(pi 0),(.bool false),(.bool false),(pi 0),(pi 0),(pi 0),(pi 0),(pi 0),(.str []),(pi 0),(pi 0),(pi 0),(.str []),(.str []),.nils,.nils,(.str []),(pi 0),(pi 0),(.bool false),(.bool false),(pi 0),(pi 0),(pi 0),(pi 0),(pi 0),(.str []),(pi 0),(pi 0),(pi 0),(.str []),(.str []),.nils,.nils,(.str []),(pi 0),(pi 0),(.bool false),(.bool false),(pi 0),(pi 0),(pi 0),(pi 0),(pi 0),(.str []),(pi 0),(pi 0),(pi 0),(.str []),(.str []),.nils,.nils,(.str []),(pi 0),(pi 0),(.bool false),(.bool false),(pi 0),(pi 0),(pi 0),(pi 0),(pi 0),(.str []),(pi 0),(pi 0),(pi 0),(.str []),(.str []),.nils,.nils,(.str []),(pi 0),(pi 0),(.bool false),(.bool false),(pi 0),(pi 0),(pi 0),(pi 0),(pi 0),(.str []),(pi 0),(pi 0),(pi 0),(.str []),(.str []),.nils,.nils,(.str []),(pi 0),(pi 0),(.bool false),(.bool false),(pi 0),(pi 0),(pi 0),(pi 0),(pi 0),(.str []),(pi 0),(pi 0),(pi 0),(.str []),(.str []),.nils,.nils,(.str []),(pi 0),(pi 0),(.bool false),(.bool false),(pi 0),(pi 0),(pi 0),(pi 0),(pi 0),(.str []),(pi 0),(pi 0),(pi 0),(.str []),(.str []),.nils,.nils,(.str []),(pi 0),(pi 0),(.bool false),(.bool false),(pi 0),(pi 0),(pi 0),(pi 0),(pi 0),(.str []),(pi 0),(pi 0),(pi 0),(.str []),(.str []),.nils,.nils,(.str []),(pi 0),(pi 0),(.bool false),(.bool false),(pi 0),(pi 0),(pi 0),(pi 0),(pi 0),(.str []),(pi 0),(pi 0),(pi 0),(.str []),(.str []),.nils,.nils,(.str []),(pi 0),(pi 0),(.bool false),(.bool false),(pi 0),(pi 0),(pi 0),(pi 0),(pi 0),(.str []),(pi 0),(pi 0),(pi 0),(.str []),(.str []),.nils,.nils,(.str []),(pi 0),(pi 0),(.bool false),(.bool false),(pi 0),(pi 0),(pi 0),(pi 0),(pi 0),(.str []),(pi 0),(pi 0),(pi 0),(.str []),(.str []),.nils,.nils,(.str []),(pi 0),(pi 0),(.bool false),(.bool false),(pi 0),(pi 0),(pi 0),(pi 0),(pi 0),(.str []),(pi 0),(pi 0),(pi 0),(.str []),(.str []),.nils,.nils,(.str []),(pi 0),(pi 0),(.bool false),(.bool false),(pi 0),(pi 0),(pi 0),(pi 0),(pi 0),(.str []),(pi 0),(pi 0),(pi 0),(.str []),(.str []),.nils,.nils,(.str []),(pi 0),(pi 0),(pi 0),.nils] [.mk 0 1 (.c v3),.mk 1 1 (.c x0),.mk 3 1 (.c v9)] .nil h10) fun v11 h12 =>
 tR (o_box 57 (.c v11) .nil h12) fun v13 h14 =>
 x (T10 x0 v13) h14)) (y0 r)
def x5 : AC := (.shal k5_0 (.seq (.shal k5_1 (.block 0 (.loop (.shal k5_2 (.seq (.block 1 (.drw [w (.o d29 (.call 14 [])),
 w (o d30 (.bslice 58 1 1 [.nilp] [.mk 0 1 r29])),
 q 2 (m d25 r6),
 q 2 (o d26 (.nilc r25)),
 q 2 (o d27 (.fad 2 r26)),
 q 2 (o d28 (.ld1 r27)),
 w (o d31 (.app 58 1 r28 r30)),
 q 3 (m d24 r6),
 q 0 (o d32 (.nilc r24)),
 q 0 (o d33 (.fad 2 r32)),
 w (o .no (.st1 r33 r31))])) (.shal k5_3 .skip)))))) (.shal k5_4 .skip)))
def z5 : List Rs := [.t .h0 .h2,.t .h0 .h3]
def f5 : AF := .mk x5 z5
def k6_0 : KF := fun c i x r h => (fun (x0 x1 x2 : AV) =>
 tR (o_box 34 (.c x2) .nil h) fun v3 h4 =>
 tR (o_alloc 28 3 (.k1 (.mk (pi 0) (pi 0) (.str []) .undef .undef .undef .undef .undef .undef .undef .undef .undef .undef .undef .undef .undef)) .nil h4) fun v5 h6 =>
 tR (o_ldn 7 (.c v3) .nil h6) fun v7 h8 =>
 tR (o_build [(pi 0),(pi 0),(pi 0),(pi 0),(.str []),(pi 0),(pi 0),(pi 0),(.str []),(.str []),.nils,.nils] [.mk 0 1 (.c (pi 1)),.mk 1 1 (.c x1),.mk 5 7 (.c v7)] .nil h8) fun v9 h10 =>
 tT (c 15 [x0,v9] h10) fun v11 h12 =>
 tR (o_ext 0 (.c v11) .nil h12) fun v13 h14 =>
 tR (o_ext 1 (.c v11) .nil h14) fun v15 h16 =>
 tR (o_alloc 61 18 (.k2 (.mk (.mk (pi 0) (pi 0) (pi 0) (pi 0) (pi 0) (pi 0) (.str []) (pi 0) (pi 0) (pi 0) (.str []) (.str []) .nils .nils (pi 0) (pi 0)) (.mk (.str []) .nils .undef .undef .undef .undef .undef .undef .undef .undef .undef .undef .undef .undef .undef .undef) .nil .nil .nil .nil .nil .nil .nil .nil .nil .nil .nil .nil .nil .nil)) .nil h16) fun v17 h18 =>
 tR (o_stn 18 (.c v17) (.c v13) .nil h18) fun v19 h20 =>
 tR (fa 14 v17 h20) fun v21 h22 =>
 tR (o_ldn 3 (.c v21) .nil h22) fun v23 h24 =>
 tR (o_stn 3 (.c v5) (.c v23) .nil h24) fun v25 h26 =>
 .ret (T12 v5 v15) h26) (y0 r) (y1 r) (y2 r)
def x6 : AC := (.shal k6_0 .skip)
def z6 : List Rs := [.agg 3 .h0 .h6,.t .h0 .h7]
def f6 : AF := .mk x6 z6
def k7_0 : KF := fun c i x r h => (fun (x0 x1 : AV) =>
 tR (o_alloc 34 7 (.k1 (.mk (pi 0) (pi 0) (pi 0) (.str []) (.str []) .nils .nils .undef .undef .undef .undef .undef .undef .undef .undef .undef)) .nil h) fun v2 h3 =>
 tR (o_bslice 65 2 0 [] [] .nil h3) fun v4 h5 =>
 tR (appV 65 2 v4 x1 h5) fun v6 h7 =>
 tR (o_build [(pi 0),(pi 0),(pi 0),(.str []),(.str []),.nils,.nils] [.mk 2 1 (.c (pi 1)),.mk 3 1 (.c x0),.mk 5 1 (.c v6)] .nil h7) fun v8 h9 =>
 tR (o_stn 7 (.c v2) (.c v8) .nil h9) fun v10 h11 =>
 .ret (T1 v2) h11) (y0 r) (y1 r)
def x7 : AC := (.shal k7_0 .skip)
def z7 : List Rs := [.agg 7 .h0 .h4]
def f7 : AF := .mk x7 z7
def k8_0 : KF := fun c i x r h => tR (o_build [(.str []),(pi 0)] [.mk 0 1 (.c (.str [97])),.mk 1 1 (.c (pi 1))] .nil h) fun v0 h1 =>
 tR (o_build [(.str []),(pi 0)] [.mk 0 1 (.c (.str [98])),.mk 1 1 (.c (pi 1))] .nil h1) fun v2 h3 =>
 tR (o_build [(.str []),(pi 0)] [.mk 0 1 (.c (.str [115])),.mk 1 1 (.c (pi 2))] .nil h3) fun v4 h5 =>
 tR (o_bslice 65 2 3 [(.str []),(pi 0),(.str []),(pi 0),(.str []),(pi 0)] [.mk 0 2 (.c v0),.mk 2 2 (.c v2),.mk 4 2 (.c v4)] .nil h5) fun v6 h7 =>
 .ret (T13 v6) h7
def x8 : AC := (.shal k8_0 .skip)
def z8 : List Rs := [.t .h0 .h0]
def f8 : AF := .mk x8 z8
def k9_2 : KF := fun c i x r h => (fun (x0 x1 x2 : AV) =>
 tR (b_lt x2 (pi 5) h) fun v3 h4 =>
 ifR v3 (tT (c 16 [x0,x2] h4) fun v5 h6 =>
 tR (u_not v5 h6) fun v7 h8 =>
 ifR v7 (tR (o_build [(pi 0),(pi 0),(pi 0),(pi 0),(.str []),(pi 0),(pi 0),(pi 0),(.str []),(.str []),.nils,.nils] [.mk 0 1 (.c (pi 8)),.mk 2 1 (.c x2)] .nil h8) fun v9 h10 =>
 tT (c 17 [x0,v9] h10) fun v11 h12 =>
 tR (appV 61 18 x1 v11 h12) fun v13 h14 =>
 tR (b_add x2 (pi 1) h14) fun v15 h16 =>
 .nm (T16 x0 v13 v15) h16) (tR (b_add x2 (pi 1) h8) fun v17 h18 =>
 .nm (T16 x0 x1 v17) h18)) (.ex 0 (T16 x0 x1 x2) h4)) (y0 r) (y3 r) (y9 r)
def k9_1 : KF := fun c i x r h => (fun (x0 x1 : AV) =>
 x (T16 x0 x1 (pi 0)) h) (y0 r) (y3 r)
def k9_3 : KF := fun c i x r h => (fun (x0 x1 : AV) =>
 tT (c 18 [x0,(pi 20000)] h) fun v2 h3 =>
 tR (o_ext 0 (.c v2) .nil h3) fun v4 h5 =>
 tR (o_ext 1 (.c v2) .nil h5) fun v6 h7 =>
 tR (appV 61 18 x1 v4 h7) fun v8 h9 =>
 .ret (T14 v8) h9) (y0 r) (y3 r)
def k9_0 : KF := fun c i x r h => (fun (x0 : AV) =>
 tR (bK .peq x0 .nilp h) fun v1 h2 =>
 ifR v1 (.ret (T14 .nils) h2) (x (T15 x0 .nils) h2)) (y0 r)
def x9 : AC := (.shal k9_0 (.seq (.shal k9_1 (.block 0 (.loop (.shal k9_2 .skip)))) (.shal k9_3 .skip)))
def z9 : List Rs := [.t .h0 .h2]
def f9 : AF := .mk x9 z9
def k10_2 : KF := fun c i x r h => (fun (x0 x1 x2 : AV) =>
 tR (b_lt x2 (pi 16) h) fun v3 h4 =>
 ifR v3 (tR (o_idxa 16 18 true (.c x1) (.c x2) .nil h4) fun v5 h6 =>
 tR (o_alloc 54 18 (.k2 (.mk (.mk (.bool false) (.bool false) (pi 0) (pi 0) (pi 0) (pi 0) (pi 0) (.str []) (pi 0) (pi 0) (pi 0) (.str []) (.str []) .nils .nils (.str [])) (.mk (pi 0) (pi 0) .undef .undef .undef .undef .undef .undef .undef .undef .undef .undef .undef .undef .undef .undef) .nil .nil .nil .nil .nil .nil .nil .nil .nil .nil .nil .nil .nil .nil)) .nil h6) fun v7 h8 =>
 tR (o_stn 18 (.c v7) (.c v5) .nil h8) fun v9 h10 =>
 tR (fa 0 v7 h10) fun v11 h12 =>
 tR (ld v11 h12) fun v13 h14 =>
 ifR v13 (tR (o_bslice 3 1 1 [(pi 0)] [.mk 0 1 (.c x2)] .nil h14) fun v15 h16 =>
 tR (appV 3 1 x0 v15 h16) fun v17 h18 =>
 tR (b_add x2 (pi 1) h18) fun v19 h20 =>
 .nm (T17 v17 x1 v19) h20) (tR (b_add x2 (pi 1) h14) fun v21 h22 =>
 .nm (T17 x0 x1 v21) h22)) (.ex 0 (T17 x0 x1 x2) h4)) (y3 r) (y9 r) (y10 r)
def k10_1 : KF := fun c i x r h => (fun (x0 x1 : AV) =>
 tR (nic x0 h) fun v2 h3 =>
 tR (fa 4 v2 h3) fun v4 h5 =>
 tR (o_ldn 288 (.c v4) .nil h5) fun v6 h7 =>
 x (T17 x1 v6 (pi 0)) h7) (y0 r) (y3 r)
def k10_3 : KF := fun c i x r h => (fun (x0 : AV) =>
 .ret (T14 x0) h) (y3 r)
def k10_0 : KF := fun c i x r h => (fun (x0 : AV) =>
 x (T15 x0 .nils) h) (y0 r)
def x10 : AC := (.shal k10_0 (.seq (.shal k10_1 (.block 0 (.loop (.shal k10_2 .skip)))) (.shal k10_3 .skip)))
def z10 : List Rs := [.t .h0 .h2]
def f10 : AF := .mk x10 z10
def k11_0 : KF := fun c i x r h => (fun (x0 x1 x2 x3 : AV) =>
 tR (o_alloc 28 3 (.k1 (.mk (pi 0) (pi 0) (.str []) .undef .undef .undef .undef .undef .undef .undef .undef .undef .undef .undef .undef .undef)) .nil h) fun v4 h5 =>
 tR (o_build [(pi 0),(pi 0),(pi 0),(pi 0),(.str []),(pi 0),(pi 0),(pi 0),(.str []),(.str []),.nils,.nils] [.mk 0 1 (.c (pi 2)),.mk 1 1 (.c x1),.mk 2 1 (.c x2),.mk 4 1 (.c x3)] .nil h5) fun v6 h7 =>
 tT (c 15 [x0,v6] h7) fun v8 h9 =>
 tR (o_ext 0 (.c v8) .nil h9) fun v10 h11 =>
 tR (o_ext 1 (.c v8) .nil h11) fun v12 h13 =>
 tR (o_alloc 61 18 (.k2 (.mk (.mk (pi 0) (pi 0) (pi 0) (pi 0) (pi 0) (pi 0) (.str []) (pi 0) (pi 0) (pi 0) (.str []) (.str []) .nils .nils (pi 0) (pi 0)) (.mk (.str []) .nils .undef .undef .undef .undef .undef .undef .undef .undef .undef .undef .undef .undef .undef .undef) .nil .nil .nil .nil .nil .nil .nil .nil .nil .nil .nil .nil .nil .nil)) .nil h13) fun v14 h15 =>
 tR (o_stn 18 (.c v14) (.c v10) .nil h15) fun v16 h17 =>
 x (T18 v4 v14 v12) h17) (y0 r) (y1 r) (y2 r) (y3 r)
def x11 : AC := (.shal k11_0 (.seq (.drw [q 0 (o d22 (.fad 17 r11)),
 q 0 (o d23 (.ld1 r22)),
 q 0 (o d24 (.fad 14 r11)),
 q 0 (o d25 (.ldn 3 r24)),
 q 0 (m d8 r23),
 w (o .no (.stn 3 r9 r25)),
 q 1 (m d26 r12),
 q 0 (m d10 r26)]) .ret))
def z11 : List Rs := [.t .h0 .h8,.agg 3 .h0 .h9,.t .h0 .ha]
def f11 : AF := .mk x11 z11
def k12_2 : KF := fun c i x r h => (fun (x0 : AV) =>
 tT (c 8 [] h) fun v1 h2 =>
 tT (c 7 [(.str [116]),v1] h2) fun v3 h4 =>
 tT (c 8 [] h4) fun v5 h6 =>
 tT (c 7 [(.str [116]),v5] h6) fun v7 h8 =>
 tR (o_bslice 34 7 2 [(pi 0),(pi 0),(pi 0),(.str []),(.str []),.nils,.nils,(pi 0),(pi 0),(pi 0),(.str []),(.str []),.nils,.nils] [.mk 0 7 (.c v3),.mk 7 7 (.c v7)] .nil h8) fun v9 h10 =>
 tT (c 19 [x0,v9] h10) fun v11 h12 =>
 x (T21 v11) h12) (y1 r)
def k12_1 : KF := fun c i x r h => (fun (x0 x1 : AV) =>
 tR (bK .peq x0 .nilp h) fun v2 h3 =>
 (fun (k4 : AV → Hp → RS) => gd v2 false (k4 x1 h3) (k4 .undef h3)) fun v5 h6 =>
 (fun (k7 : AV → Hp → RS) => gd v2 false (tR (b_ne v5 (pi 0) h6) fun v10 h11 =>
 k7 v10 h11) (k7 .undef h6)) fun v8 h9 =>
 tR (o_pick (.c v2) (.c (.bool true)) (.c v8) .nil h9) fun v12 h13 =>
 ifR v12 (.ret (T13 (.bool false)) h13) (x (T20 x0) h13)) (y1 r) (y2 r)
def k12_0 : KF := fun c i x r h => tT (c 5 [(pi 3)] h) fun v0 h1 =>
 tR (o_ext 0 (.c v0) .nil h1) fun v2 h3 =>
 tR (o_ext 1 (.c v0) .nil h3) fun v4 h5 =>
 x (T19 v2 v4) h5
def x12 : AC := (.shal k12_0 (.shal k12_1 (.shal k12_2 (.seq (.ops [m d21 r3,
 o d22 (.len r21),
 o d23 (.bin .eq r22 a2),
 m d24 r23,
 .g .h1 .h8 true d25 (.op (.mv r3)),
 .g .h1 .h8 true d26 (.op (.ixs 3 r25 a0)),
 .g .h1 .h8 true d27 (.op (.ldn 3 r26)),
 .g .h1 .h8 true d28 (.op (.build [(pi 0),(pi 0),(.str [])] [])),
 .g .h1 .h8 true d29 (.op (.bin (.aeq [.i,.i,.s]) r27 r28)),
 o d30 (.pick r24 r29 (.c (.bool false))),
 m d31 r30,
 .g .h1 .hf true d32 (.op (.mv r3)),
 .g .h1 .hf true d33 (.op (.ixs 3 r32 a1)),
 .g .h1 .hf true d34 (.op (.ldn 3 r33)),
 .g .h1 .hf true d35 (.op (.build [(pi 0),(pi 0),(.str [])] [.mk 0 1 (.c (pi 21))])),
 .g .h1 .hf true d36 (.op (.bin (.aeq [.i,.i,.s]) r34 r35)),
 o d37 (.pick r31 r36 (.c (.bool false))),
 m d0 r37]) .ret))))
def z12 : List Rs := [.t .h0 .h0]
def f12 : AF := .mk x12 z12
def k13_1 : KF := fun c i x r h => (fun (x0 : AV) =>
 tR (o_build [(pi 0),(.str []),.nils,(pi 0),(.str []),.nils,(pi 0),(.str []),.nils,(pi 0),(.str []),.nils,(pi 0),(.str []),.nils,.nils] [] .nil h) fun v1 h2 =>
 tR (o_box 80 (.c v1) .nil h2) fun v3 h4 =>
 tR (o_build [.nilp,.nilp] [.mk 1 1 (.c v3)] .nil h4) fun v5 h6 =>
 tR (o_box 83 (.c v5) .nil h6) fun v7 h8 =>
 tR (nic v7 h8) fun v9 h10 =>
 tR (fa 1 v9 h10) fun v11 h12 =>
 tR (ld v11 h12) fun v13 h14 =>
 tT (c 20 [x0,(.iface 73 v13)] h14) fun v15 h16 =>
 tR (nic v7 h16) fun v17 h18 =>
 tR (fa 0 v17 h18) fun v19 h20 =>
 tR (sto v19 v15 h20) fun v21 h22 =>
 .ret (T9 v7 (pi 0)) h22) (y0 r)
def k13_0 : KF := fun c i x r h => (fun (x0 : AV) =>
 tR (b_lt x0 (pi 1) h) fun v1 h2 =>
 (fun (k3 : AV → Hp → RS) => gd v1 false (k3 x0 h2) (k3 .undef h2)) fun v4 h5 =>
 (fun (k6 : AV → Hp → RS) => gd v1 false (tR (b_gt v4 (pi 5) h5) fun v9 h10 =>
 k6 v9 h10) (k6 .undef h5)) fun v7 h8 =>
 tR (o_pick (.c v1) (.c (.bool true)) (.c v7) .nil h8) fun v11 h12 =>
 ifR v11 (.ret (T9 .nilp (pi 1)) h12) (x (T13 x0) h12)) (y0 r)
def x13 : AC := (.shal k13_0 (.shal k13_1 .skip))
def z13 : List Rs := [.t .h0 .h2,.t .h0 .h3]
def f13 : AF := .mk x13 z13
def k14_0 : KF := fun c i x r h => tT (c 21 [] h) fun v0 h1 =>
 tR (o_build [.nilp,(pi 0)] [.mk 0 1 (.c v0)] .nil h1) fun v2 h3 =>
 tR (o_box 88 (.c v2) .nil h3) fun v4 h5 =>
 .ret (T13 v4) h5
def x14 : AC := (.shal k14_0 .skip)
def z14 : List Rs := [.t .h0 .h0]
def f14 : AF := .mk x14 z14
def k15_1 : KF := fun c i x r h => (fun (x0 x1 x2 x3 x4 : AV) =>
 ifR x4 (tR (o_build [(pi 0),(pi 0),(pi 0),(pi 0),(pi 0),(pi 0),(.str []),(pi 0),(pi 0),(pi 0),(.str []),(.str []),.nils,.nils,(pi 0),(pi 0),(.str []),.nils] [] .nil h) fun v5 h6 =>
 tR (o_stn 18 (.c x2) (.c v5) .nil h6) fun v7 h8 =>
 .ret (T22 x2 (.bool false)) h8) (.nm (T23 x0 x1 x2 x3) h)) (y0 r) (y3 r) (y4 r) (y6 r) (y26 r)
def k15_6 : KF := fun c i x r h => (fun (x0 x1 x2 x3 x4 x5 x6 : AV) =>
 ifR x6 (tR (o_ldn 18 (.c x2) .nil h) fun v7 h8 =>
 tR (o_stn 18 (.c x1) (.c v7) .nil h8) fun v9 h10 =>
 .ret (T22 x1 (.bool true)) h10) (.nm (T25 x0 x1 x3 x4 x5) h)) (y3 r) (y4 r) (y10 r) (y35 r) (y36 r) (y37 r) (y50 r)
def k15_5 : KF := fun c i x r h => (fun (x0 x1 x2 x3 x4 : AV) =>
 tR (ix 18 x2 x4 h) fun v5 h6 =>
 tR (o_ldn 18 (.c v5) .nil h6) fun v7 h8 =>
 tR (o_alloc 61 18 (.k2 (.mk (.mk (pi 0) (pi 0) (pi 0) (pi 0) (pi 0) (pi 0) (.str []) (pi 0) (pi 0) (pi 0) (.str []) (.str []) .nils .nils (pi 0) (pi 0)) (.mk (.str []) .nils .undef .undef .undef .undef .undef .undef .undef .undef .undef .undef .undef .undef .undef .undef) .nil .nil .nil .nil .nil .nil .nil .nil .nil .nil .nil .nil .nil .nil)) .nil h8) fun v9 h10 =>
 tR (o_stn 18 (.c v9) (.c v7) .nil h10) fun v11 h12 =>
 x (T26 x0 x1 v9 x2 x3 x4) h12) (y3 r) (y4 r) (y35 r) (y36 r) (y37 r)
def k15_7 : KF := fun c i x r h => (fun (x0 x1 x2 x3 x4 : AV) =>
 tR (b_add x4 (pi 1) h) fun v5 h6 =>
 .nm (T25 x0 x1 x2 x3 v5) h6) (y3 r) (y4 r) (y35 r) (y36 r) (y37 r)
def k15_4 : KF := fun c i x r h => (fun (x0 x1 x2 x3 x4 : AV) =>
 tR (b_lt x4 x3 h) fun v5 h6 =>
 ifR v5 (x (T25 x0 x1 x2 x3 x4) h6) (.ex 0 (T1 x1) h6)) (y3 r) (y4 r) (y35 r) (y36 r) (y37 r)
def k15_3 : KF := fun c i x r h => (fun (x0 x1 x2 x3 : AV) =>
 tR (appV 61 18 x2 x3 h) fun v4 h5 =>
 tR (len v4 h5) fun v6 h7 =>
 x (T25 x0 x1 v4 v6 (pi 0)) h7) (y3 r) (y4 r) (y6 r) (y7 r)
def k15_8 : KF := fun c i x r h => (fun (x0 : AV) =>
 tR (o_build [(pi 0),(pi 0),(pi 0),(pi 0),(pi 0),(pi 0),(.str []),(pi 0),(pi 0),(pi 0),(.str []),(.str []),.nils,.nils,(pi 0),(pi 0),(.str []),.nils] [] .nil h) fun v1 h2 =>
 tR (o_stn 18 (.c x0) (.c v1) .nil h2) fun v3 h4 =>
 .ret (T22 x0 (.bool false)) h4) (y4 r)
def k15_2 : KF := fun c i x r h => (fun (x0 x1 x2 x3 : AV) =>
 tT (c 18 [x0,(pi 20000)] h) fun v4 h5 =>
 tR (o_ext 0 (.c v4) .nil h5) fun v6 h7 =>
 tR (o_ext 1 (.c v4) .nil h7) fun v8 h9 =>
 x (T24 x1 x2 x3 v6) h9) (y0 r) (y3 r) (y4 r) (y6 r)
def k15_0 : KF := fun c i x r h => (fun (x0 x1 : AV) =>
 tR (o_box 52 (.c x1) .nil h) fun v2 h3 =>
 tR (o_alloc 61 18 (.k2 (.mk (.mk (pi 0) (pi 0) (pi 0) (pi 0) (pi 0) (pi 0) (.str []) (pi 0) (pi 0) (pi 0) (.str []) (.str []) .nils .nils (pi 0) (pi 0)) (.mk (.str []) .nils .undef .undef .undef .undef .undef .undef .undef .undef .undef .undef .undef .undef .undef .undef) .nil .nil .nil .nil .nil .nil .nil .nil .nil .nil .nil .nil .nil .nil)) .nil h3) fun v4 h5 =>
 tR (bK .peq x0 .nilp h5) fun v6 h7 =>
 ifR v6 (tR (o_build [(pi 0),(pi 0),(pi 0),(pi 0),(pi 0),(pi 0),(.str []),(pi 0),(pi 0),(pi 0),(.str []),(.str []),.nils,.nils,(pi 0),(pi 0),(.str []),.nils] [] .nil h7) fun v8 h9 =>
 tR (o_stn 18 (.c v4) (.c v8) .nil h9) fun v10 h11 =>
 .ret (T22 v4 (.bool false)) h11) (tR (o_ldn 12 (.c v2) .nil h7) fun v12 h13 =>
 tT (c 17 [x0,v12] h13) fun v14 h15 =>
 x (T23 x0 v2 v4 v14) h15)) (y0 r) (y1 r)
def x15 : AC := (.shal k15_0 (.seq (.seq (.ops [m d17 r6,
 o d18 (.len r17),
 o d19 (.bin .eq r18 a0),
 m d20 r19,
 .g .h1 .h4 false d21 (.op (.mv r6)),
 .g .h1 .h4 false d22 (.op (.ixs 18 r21 a0)),
 .g .h1 .h4 false d23 (.op (.fad 0 r22)),
 .g .h1 .h4 false d24 (.op (.ld1 r23)),
 .g .h1 .h4 false d25 (.op (.bin .ne r24 a1)),
 o d26 (.pick r20 (.c (.bool true)) r25)]) (.shal k15_1 .skip)) (.shal k15_2 (.seq (.shal k15_3 (.block 0 (.loop (.shal k15_4 (.seq (.block 1 (.shal k15_5 (.seq (.ops [o d41 (.fad 0 r10),
 o d42 (.ld1 r41),
 o d43 (.bin .eq r42 a2),
 m d44 r43,
 .g .h2 .hc true d45 (.op (.fad 1 r10)),
 .g .h2 .hc true d46 (.op (.ld1 r45)),
 .g .h2 .hc true d47 (.op (.fad 1 r3)),
 .g .h2 .hc true d48 (.op (.ld1 r47)),
 .g .h2 .hc true d49 (.op (.bin .eq r46 r48)),
 o d50 (.pick r44 r49 (.c (.bool false)))]) (.shal k15_6 .skip)))) (.shal k15_7 .skip)))))) (.shal k15_8 .skip)))))
def z15 : List Rs := [.agg 18 .h0 .h4,.t .h0 .h5]
def f15 : AF := .mk x15 z15
def k16_0 : KF := fun c i x r h => (fun (x0 x1 : AV) =>
 tR (nic x0 h) fun v2 h3 =>
 tR (fa 0 v2 h3) fun v4 h5 =>
 tR (ld v4 h5) fun v6 h7 =>
 tT (c 22 [v6,x1] h7) fun v8 h9 =>
 .ret (T1 v8) h9) (y0 r) (y1 r)
def x16 : AC := (.shal k16_0 .skip)
def z16 : List Rs := [.t .h0 .h4]
def f16 : AF := .mk x16 z16
def k17_3 : KF := fun c i x r h => (fun (x0 x1 : AV) =>
 tR (o_ldn 12 (.c x1) .nil h) fun v2 h3 =>
 tT (c 23 [x0,v2] h3) fun v4 h5 =>
 .nm (T13 x0) h5) (y0 r) (y3 r)
def k17_5 : KF := fun c i x r h => (fun (x0 x1 : AV) =>
 tR (o_ldn 12 (.c x1) .nil h) fun v2 h3 =>
 tT (c 24 [x0,v2] h3) fun v4 h5 =>
 .nm (T13 x0) h5) (y0 r) (y3 r)
def k17_8 : KF := fun c i x r h => (fun (x0 x1 : AV) =>
 tQ (nic x0 h) fun v2 =>
 tQ (fa 0 v2 h) fun v3 =>
 tQ (ld v3 h) fun v4 =>
 tQ (fa 3 x1 h) fun v5 =>
 tQ (ld v5 h) fun v6 =>
 tQ (o_build [(pi 0),(pi 0),(pi 0),(.str [])] [.mk 0 1 (.c (pi 4)),.mk 2 1 (.c v6)] .nil h) fun v7 =>
 tX (c 26 [v4,v7] h) fun v8 h9 =>
 .nm (T13 x0) h9) (y0 r) (y3 r)
def k17_10 : KF := fun c i x r h => (fun (x0 x1 : AV) =>
 tQ (nic x0 h) fun v2 =>
 tQ (fa 0 v2 h) fun v3 =>
 tQ (ld v3 h) fun v4 =>
 tQ (fa 3 x1 h) fun v5 =>
 tQ (ld v5 h) fun v6 =>
 tQ (o_build [(pi 0),(pi 0),(pi 0),(.str [])] [.mk 0 1 (.c (pi 5)),.mk 2 1 (.c v6)] .nil h) fun v7 =>
 tX (c 26 [v4,v7] h) fun v8 h9 =>
 .nm (T13 x0) h9) (y0 r) (y3 r)
def k17_12 : KF := fun c i x r h => (fun (x0 : AV) =>
 tT (c 27 [x0] h) fun v1 h2 =>
 .nm (T13 x0) h2) (y0 r)
def k17_14 : KF := fun c i x r h => (fun (x0 x1 : AV) =>
 tR (fa 2 x1 h) fun v2 h3 =>
 tR (ld v2 h3) fun v4 h5 =>
 tR (fa 3 x1 h5) fun v6 h7 =>
 tR (ld v6 h7) fun v8 h9 =>
 tT (c 28 [x0,v4,v8] h9) fun v10 h11 =>
 .nm (T13 x0) h11) (y0 r) (y3 r)
def k17_16 : KF := fun c i x r h => (fun (x0 x1 : AV) =>
 tR (fa 2 x1 h) fun v2 h3 =>
 tR (ld v2 h3) fun v4 h5 =>
 tT (c 29 [x0,v4] h5) fun v6 h7 =>
 .nm (T13 x0) h7) (y0 r) (y3 r)
def k17_17 : KF := fun c i x r h => (fun (x0 x1 : AV) =>
 tR (b_eq x1 (pi 9) h) fun v2 h3 =>
 x (T36 x0 v2) h3) (y0 r) (y7 r)
def k17_15 : KF := fun c i x r h => (fun (x0 x1 x2 : AV) =>
 tR (b_eq x2 (pi 8) h) fun v3 h4 =>
 x (T35 x0 x1 x2 v3) h4) (y0 r) (y3 r) (y7 r)
def k17_13 : KF := fun c i x r h => (fun (x0 x1 x2 : AV) =>
 tR (b_eq x2 (pi 7) h) fun v3 h4 =>
 x (T34 x0 x1 x2 v3) h4) (y0 r) (y3 r) (y7 r)
def k17_11 : KF := fun c i x r h => (fun (x0 x1 x2 : AV) =>
 tR (b_eq x2 (pi 6) h) fun v3 h4 =>
 x (T33 x0 x1 x2 v3) h4) (y0 r) (y3 r) (y7 r)
def k17_9 : KF := fun c i x r h => (fun (x0 x1 x2 : AV) =>
 tR (b_eq x2 (pi 5) h) fun v3 h4 =>
 x (T32 x0 x1 x2 v3) h4) (y0 r) (y3 r) (y7 r)
def k17_7 : KF := fun c i x r h => (fun (x0 x1 x2 : AV) =>
 tR (b_eq x2 (pi 4) h) fun v3 h4 =>
 x (T31 x0 x1 x2 v3) h4) (y0 r) (y3 r) (y7 r)
def k17_6 : KF := fun c i x r h => (fun (x0 x1 x2 : AV) =>
 tR (b_eq x2 (pi 3) h) fun v3 h4 =>
 x (T30 x0 x1 x2 v3) h4) (y0 r) (y3 r) (y7 r)
def k17_4 : KF := fun c i x r h => (fun (x0 x1 x2 : AV) =>
 tR (b_eq x2 (pi 2) h) fun v3 h4 =>
 x (T29 x0 x1 x2 v3) h4) (y0 r) (y3 r) (y7 r)
def k17_2 : KF := fun c i x r h => (fun (x0 x1 x2 : AV) =>
 tR (b_eq x2 (pi 1) h) fun v3 h4 =>
 x (T28 x0 x1 x2 v3) h4) (y0 r) (y3 r) (y7 r)
def k17_1 : KF := fun c i x r h => (fun (x0 x1 : AV) =>
 tR (fa 0 x1 h) fun v2 h3 =>
 tR (ld v2 h3) fun v4 h5 =>
 x (T27 x0 x1 v4) h5) (y0 r) (y3 r)
def k17_18 : KF := fun c i x r h => (fun (x0 : AV) =>
 tT (c 32 [x0] h) fun v1 h2 =>
 .ret (T1 v1) h2) (y0 r)
def k17_0 : KF := fun c i x r h => (fun (x0 x1 : AV) =>
 tR (o_box 52 (.c x1) .nil h) fun v2 h3 =>
 x (T15 x0 v2) h3) (y0 r) (y1 r)
def x17 : AC := (.shal k17_0 (.seq (.shal k17_1 (.block 0 (.shal k17_2 (.cond r8 (.shal k17_3 .skip) (.shal k17_4 (.cond r13 (.shal k17_5 .skip) (.shal k17_6 (.cond r18 (.drw [q 0 (m d21 r0),
 q 0 (o d22 (.nilc r21)),
 q 0 (o d23 (.fad 0 r22)),
 q 0 (o d24 (.ld1 r23)),
 q 0 (o d25 (.fad 3 r3)),
 q 0 (o d26 (.ld1 r25)),
 q 0 (o d27 (.build [(pi 0),(pi 0),(pi 0),(.str [])] [.mk 0 1 (.c (pi 3)),.mk 2 1 r26])),
 w (.o d28 (.call 26 [r24,r27])),
 q 1 (m d20 r0),
 w (.o d29 (.call 25 [r20,r28]))]) (.shal k17_7 (.cond r30 (.shal k17_8 .skip) (.shal k17_9 (.cond r40 (.shal k17_10 .skip) (.shal k17_11 (.cond r50 (.seq (.drw [q 0 (m d53 r0),
 q 0 (o d54 (.nilc r53)),
 q 0 (o d55 (.fad 0 r54)),
 q 0 (o d56 (.ld1 r55)),
 q 0 (o d57 (.fad 2 r3)),
 q 0 (o d58 (.ld1 r57)),
 q 0 (o d59 (.fad 3 r3)),
 q 0 (o d60 (.ld1 r59)),
 q 0 (o d61 (.build [(pi 0),(pi 0),(pi 0),(.str [])] [.mk 0 1 (.c (pi 6)),.mk 1 1 r58,.mk 2 1 r60])),
 w (.o d62 (.call 26 [r56,r61])),
 q 1 (m d52 r0),
 w (.o d63 (.call 25 [r52,r62]))]) (.shal k17_12 .skip)) (.shal k17_13 (.cond r66 (.shal k17_14 .skip) (.shal k17_15 (.cond r74 (.shal k17_16 .skip) (.shal k17_17 (.cond r80 (.bad 0) .skip)))))))))))))))))))) (.shal k17_18 .skip)))
def z17 : List Rs := [.t .h0 .h4]
def f17 : AF := .mk x17 z17
def k18_4 : KF := fun c i x r h => (fun (x0 x1 x2 x3 : AV) =>
 ifR x3 (.go 0 (T37 x0 x1 x2) h) (.nm (T37 x0 x1 x2) h)) (y0 r) (y1 r) (y6 r) (y46 r)
def k18_5 : KF := fun c i x r h => (fun (x0 x1 : AV) =>
 tT (c 32 [x0] h) fun v2 h3 =>
 .ret (T22 v2 x1) h3) (y0 r) (y6 r)
def k18_3 : KF := fun c i x r h => (fun (x0 x1 x2 : AV) =>
 tR (nic x0 h) fun v3 h4 =>
 tR (fa 0 v3 h4) fun v5 h6 =>
 tR (ld v5 h6) fun v7 h8 =>
 tR (b_sub x1 x2 h8) fun v9 h10 =>
 tT (c 33 [v7,v9] h10) fun v11 h12 =>
 tR (o_ext 0 (.c v11) .nil h12) fun v13 h14 =>
 tR (o_ext 1 (.c v11) .nil h14) fun v15 h16 =>
 tT (c 25 [x0,v13] h16) fun v17 h18 =>
 tR (b_add x2 v15 h18) fun v19 h20 =>
 x (T38 x0 x1 v19 v15) h20) (y0 r) (y1 r) (y6 r)
def k18_2 : KF := fun c i x r h => (fun (x0 x1 x2 : AV) =>
 tR (b_lt x2 x1 h) fun v3 h4 =>
 ifR v3 (tT (c 27 [x0] h4) fun v5 h6 =>
 x (T37 x0 x1 x2) h6) (x (T37 x0 x1 x2) h4)) (y0 r) (y1 r) (y6 r)
def k18_1 : KF := fun c i x r h => (fun (x0 x1 : AV) =>
 tR (maxV false [x1,(pi 0)] h) fun v2 h3 =>
 tR (maxV true [v2,(pi 20000)] h3) fun v4 h5 =>
 x (T37 x0 v4 (pi 0)) h5) (y0 r) (y1 r)
def k18_0 : KF := fun c i x r h => (fun (x0 x1 : AV) =>
 x (T7 x0 x1) h) (y0 r) (y1 r)
def x18 : AC := (.shal k18_0 (.scope (.shal k18_1 (.seq (.label 0) (.shal k18_2 (.shal k18_3 (.seq (.seq (.ops [m d34 r8,
 o d35 (.bin .gt r34 a0),
 m d36 r35,
 .g .h2 .h4 true d37 (.op (.mv r6)),
 .g .h2 .h4 true d38 (.op (.mv r1)),
 .g .h2 .h4 true d39 (.op (.bin .lt r37 r38)),
 o d40 (.pick r36 r39 (.c (.bool false))),
 m d41 r40,
 .g .h2 .h9 true d42 (.op (.mv r0)),
 .g .h2 .h9 true d43 (.call 10 [r42]),
 .g .h2 .h9 true d44 (.op (.len r43)),
 .g .h2 .h9 true d45 (.op (.bin .gt r44 a0)),
 o d46 (.pick r41 r45 (.c (.bool false)))]) (.shal k18_4 .skip)) (.shal k18_5 .skip))))))))
def z18 : List Rs := [.t .h0 .h4,.t .h0 .h5]
def f18 : AF := .mk x18 z18
def k19_3 : KF := fun c i x r h => (fun (x0 x1 x2 x3 x4 : AV) =>
 tR (b_add x4 (pi 1) h) fun v5 h6 =>
 .nm (T39 x0 x1 x2 x3 v5) h6) (y0 r) (y5 r) (y12 r) (y13 r) (y14 r)
def k19_2 : KF := fun c i x r h => (fun (x0 x1 x2 x3 x4 : AV) =>
 tR (b_lt x4 x3 h) fun v5 h6 =>
 ifR v5 (tR (ix 7 x2 x4 h6) fun v7 h8 =>
 tR (o_ldn 7 (.c v7) .nil h8) fun v9 h10 =>
 tR (o_alloc 34 7 (.k1 (.mk (pi 0) (pi 0) (pi 0) (.str []) (.str []) .nils .nils .undef .undef .undef .undef .undef .undef .undef .undef .undef)) .nil h10) fun v11 h12 =>
 tR (o_stn 7 (.c v11) (.c v9) .nil h12) fun v13 h14 =>
 tR (o_ldn 7 (.c v11) .nil h14) fun v15 h16 =>
 tT (c 6 [x0,(pi 0),v15] h16) fun v17 h18 =>
 tR (o_ext 0 (.c v17) .nil h18) fun v19 h20 =>
 tR (o_ext 1 (.c v17) .nil h20) fun v21 h22 =>
 tR (o_alloc 28 3 (.k1 (.mk (pi 0) (pi 0) (.str []) .undef .undef .undef .undef .undef .undef .undef .undef .undef .undef .undef .undef .undef)) .nil h22) fun v23 h24 =>
 tR (o_stn 3 (.c v23) (.c v19) .nil h24) fun v25 h26 =>
 tR (o_ldn 3 (.c v23) .nil h26) fun v27 h28 =>
 tR (o_bslice 28 3 1 [(pi 0),(pi 0),(.str [])] [.mk 0 3 (.c v27)] .nil h28) fun v29 h30 =>
 tR (appV 28 3 x1 v29 h30) fun v31 h32 =>
 x (T39 x0 v31 x2 x3 x4) h32) (.ex 0 (T40 x1) h6)) (y0 r) (y5 r) (y12 r) (y13 r) (y14 r)
def k19_1 : KF := fun c i x r h => (fun (x0 x1 x2 : AV) =>
 tR (len x1 h) fun v3 h4 =>
 x (T39 x0 x2 x1 v3 (pi 0)) h4) (y0 r) (y1 r) (y5 r)
def k19_4 : KF := fun c i x r h => (fun (x0 : AV) =>
 .ret (T1 x0) h) (y5 r)
def k19_0 : KF := fun c i x r h => (fun (x0 x1 : AV) =>
 tR (bK .peq x0 .nilp h) fun v2 h3 =>
 ifR v2 (.ret (T1 .nils) h3) (x (T2 x0 x1 .nils) h3)) (y0 r) (y1 r)
def x19 : AC := (.shal k19_0 (.seq (.shal k19_1 (.block 0 (.loop (.shal k19_2 (.shal k19_3 .skip))))) (.shal k19_4 .skip)))
def z19 : List Rs := [.t .h0 .h4]
def f19 : AF := .mk x19 z19
def k20_3 : KF := fun c i x r h => (fun (x0 x1 x2 : AV) =>
 x (T43 x0 x2 x1 x2) h) (y5 r) (y12 r) (y13 r)
def k20_4 : KF := fun c i x r h => (fun (x0 x1 x2 : AV) =>
 tR (b_add x2 (pi 1) h) fun v3 h4 =>
 .nm (T42 x0 x1 v3) h4) (y5 r) (y12 r) (y13 r)
def k20_2 : KF := fun c i x r h => (fun (x0 x1 x2 : AV) =>
 tR (b_lt x2 x1 h) fun v3 h4 =>
 ifR v3 (x (T42 x0 x1 x2) h4) (.ex 0 (T40 x0) h4)) (y5 r) (y12 r) (y13 r)
def k20_1 : KF := fun c i x r h => (fun (x0 x1 : AV) =>
 x (T42 x1 x0 (pi 0)) h) (y0 r) (y5 r)
def k20_6 : KF := fun c i x r h => (fun (x0 x1 x2 x3 : AV) =>
 tR (b_lt x3 x2 h) fun v4 h5 =>
 ifR v4 (tR (ix 1 x1 x3 h5) fun v6 h7 =>
 tR (ld v6 h7) fun v8 h9 =>
 tT (c 35 [v8,(.bool false)] h9) fun v10 h11 =>
 tR (b_add x3 (pi 1) h11) fun v12 h13 =>
 .nm (T44 x0 x1 x2 v12) h13) (.ex 2 (T44 x0 x1 x2 x3) h5)) (y5 r) (y34 r) (y35 r) (y36 r)
def k20_5 : KF := fun c i x r h => (fun (x0 : AV) =>
 tR (nic x0 h) fun v1 h2 =>
 tR (fa 1 v1 h2) fun v3 h4 =>
 tR (ld v3 h4) fun v5 h6 =>
 tR (len v5 h6) fun v7 h8 =>
 x (T44 x0 v5 v7 (pi 0)) h8) (y5 r)
def k20_7 : KF := fun c i x r h => (fun (x0 : AV) =>
 .ret (T1 x0) h) (y5 r)
def k20_0 : KF := fun c i x r h => (fun (x0 x1 : AV) =>
 tR (o_build [.nils,.nils,.nili] [.mk 2 1 (.c x1)] .nil h) fun v2 h3 =>
 tR (o_box 106 (.c v2) .nil h3) fun v4 h5 =>
 x (T41 x0 v4) h5) (y0 r) (y1 r)
def x20 : AC := (.shal k20_0 (.seq (.shal k20_1 (.block 0 (.loop (.shal k20_2 (.seq (.block 1 (.shal k20_3 (.drw [w (.o d23 (.call 34 [])),
 q 1 (m d21 r5),
 q 1 (m d22 r6),
 q 0 (o d24 (.build [.nilp,(pi 0),.nilp,(pi 0),(.bool false),(pi 0),(pi 0),.nilp,.nilp,.nilp,(pi 0),.nilm,(pi 0),(pi 0),(pi 0),.nilm,(.str []),.nils,(pi 0),(pi 0),.nilm,(pi 0),(pi 0),(pi 0),(.bool false)] [.mk 0 1 r21,.mk 1 1 r22,.mk 2 1 r23])),
 w (o d25 (.box 120 r24)),
 w (o d26 (.bslice 107 1 1 [.nilp] [.mk 0 1 r25])),
 q 3 (m d17 r5),
 q 3 (o d18 (.nilc r17)),
 q 3 (o d19 (.fad 1 r18)),
 q 3 (o d20 (.ld1 r19)),
 w (o d27 (.app 107 1 r20 r26)),
 q 4 (m d16 r5),
 q 0 (o d28 (.nilc r16)),
 q 0 (o d29 (.fad 1 r28)),
 w (o .no (.st1 r29 r27))]))) (.shal k20_4 .skip)))))) (.seq (.shal k20_5 (.block 2 (.loop (.shal k20_6 .skip)))) (.shal k20_7 .skip))))
def z20 : List Rs := [.t .h0 .h4]
def f20 : AF := .mk x20 z20
def k21_0 : KF := fun c i x r h => tT (c 36 [] h) fun v0 h1 =>
 tR (o_mkmap .nil h1) fun v2 h3 =>
 tT (c 37 [] h3) fun v4 h5 =>
 tR (o_build [.nilp,.nils,.nilm,.nilp] [.mk 0 1 (.c v0),.mk 2 1 (.c v2),.mk 3 1 (.c v4)] .nil h5) fun v6 h7 =>
 tR (o_box 129 (.c v6) .nil h7) fun v8 h9 =>
 .ret (T13 v8) h9
def x21 : AC := (.shal k21_0 .skip)
def z21 : List Rs := [.t .h0 .h0]
def f21 : AF := .mk x21 z21
def k22_0 : KF := fun c i x r h => (fun (x0 x1 : AV) =>
 tR (nic x0 h) fun v2 h3 =>
 tR (fa 0 v2 h3) fun v4 h5 =>
 tR (ld v4 h5) fun v6 h7 =>
 tT (c 38 [v6,x1] h7) fun v8 h9 =>
 .ret (T1 v8) h9) (y0 r) (y1 r)
def x22 : AC := (.shal k22_0 .skip)
def z22 : List Rs := [.t .h0 .h4]
def f22 : AF := .mk x22 z22
def k23_3 : KF := fun c i x r h => (fun (x0 x1 x2 x3 x4 : AV) =>
 ifR x4 (tR (fa 1 x1 h) fun v5 h6 =>
 tR (ld v5 h6) fun v7 h8 =>
 tR (o_ldn 12 (.c x1) .nil h8) fun v9 h10 =>
 tR (o_build [(pi 0),(pi 0),(.str [])] [] .nil h10) fun v11 h12 =>
 tT (c 40 [x0,(pi 3),v7,v9,v11,.nils] h12) fun v13 h14 =>
 .ret T5 h14) (.nm (T23 x0 x1 x2 x3) h)) (y0 r) (y3 r) (y4 r) (y6 r) (y44 r)
def k23_4 : KF := fun c i x r h => (fun (x0 x1 : AV) =>
 tR (fa 1 x1 h) fun v2 h3 =>
 tR (ld v2 h3) fun v4 h5 =>
 tR (o_ldn 12 (.c x1) .nil h5) fun v6 h7 =>
 tR (o_build [(pi 0),(pi 0),(.str [])] [] .nil h7) fun v8 h9 =>
 tT (c 40 [x0,(pi 1),v4,v6,v8,.nils] h9) fun v10 h11 =>
 tT (c 27 [x0] h11) fun v12 h13 =>
 .nm T5 h13) (y0 r) (y3 r)
def k23_2 : KF := fun c i x r h => (fun (x0 x1 x2 x3 : AV) =>
 tR (o_ldn 7 (.c x3) .nil h) fun v4 h5 =>
 tT (c 41 [v4] h5) fun v6 h7 =>
 x (T23 x0 x1 x2 v6) h7) (y0 r) (y3 r) (y4 r) (y5 r)
def k23_1 : KF := fun c i x r h => (fun (x0 x1 x2 : AV) =>
 tR (fa 5 x1 h) fun v3 h4 =>
 tR (o_ldn 7 (.c v3) .nil h4) fun v5 h6 =>
 tR (o_alloc 34 7 (.k1 (.mk (pi 0) (pi 0) (pi 0) (.str []) (.str []) .nils .nils .undef .undef .undef .undef .undef .undef .undef .undef .undef)) .nil h6) fun v7 h8 =>
 tR (o_stn 7 (.c v7) (.c v5) .nil h8) fun v9 h10 =>
 x (T46 x0 x1 x2 v7) h10) (y0 r) (y3 r) (y4 r)
def k23_0 : KF := fun c i x r h => (fun (x0 x1 : AV) =>
 tR (o_box 52 (.c x1) .nil h) fun v2 h3 =>
 tR (fa 1 v2 h3) fun v4 h5 =>
 tR (ld v4 h5) fun v6 h7 =>
 tT (c 39 [x0,v6] h7) fun v8 h9 =>
 tR (u_not v8 h9) fun v10 h11 =>
 ifR v10 (tR (fa 1 v2 h11) fun v12 h13 =>
 tR (ld v12 h13) fun v14 h15 =>
 tR (o_ldn 12 (.c v2) .nil h15) fun v16 h17 =>
 tR (o_build [(pi 0),(pi 0),(.str [])] [] .nil h17) fun v18 h19 =>
 tT (c 40 [x0,(pi 3),v14,v16,v18,.nils] h19) fun v20 h21 =>
 .ret T5 h21) (tQ (fa 1 v2 h11) fun v22 =>
 tQ (ld v22 h11) fun v23 =>
 tQ (nic x0 h11) fun v24 =>
 tQ (fa 4 v24 h11) fun v25 =>
 tQ (o_ixa 16 18 (.c v25) (.c v23) .nil h11) fun v26 =>
 x (T45 x0 v2 v26) h11)) (y0 r) (y1 r)
def x23 : AC := (.shal k23_0 (.shal k23_1 (.seq (.drw [q 0 (o d26 (.fad 1 r3)),
 q 0 (o d27 (.ld1 r26)),
 q 0 (o d33 (.fad 0 r5)),
 w (o .no (.st1 r33 r27)),
 q 1 (m d28 r4),
 q 1 (o d29 (.nilc r28)),
 q 1 (o d30 (.fad 2 r29)),
 q 1 (o d31 (.ld1 r30)),
 q 1 (o d32 (.bin .add r31 a1)),
 q 0 (o d34 (.fad 1 r5)),
 w (o .no (.st1 r34 r32))]) (.shal k23_2 (.seq (.seq (.ops [m d37 r6,
 o d38 (.len r37),
 o d39 (.bin .eq r38 a0),
 m d40 r39,
 .g .h2 .h8 false d41 (.op (.mv r6)),
 .g .h2 .h8 false d42 (.op (.len r41)),
 .g .h2 .h8 false d43 (.op (.bin .gt r42 (.c (pi 10000)))),
 o d44 (.pick r40 (.c (.bool true)) r43)]) (.shal k23_3 .skip)) (.seq (.drw [q 0 (o d57 (.ldn 12 r3)),
 w (.o d58 (.call 42 [r57])),
 q 1 (m d51 r4),
 q 1 (m d52 r4),
 q 1 (o d53 (.nilc r52)),
 q 1 (o d54 (.fad 2 r53)),
 q 1 (o d55 (.ld1 r54)),
 q 1 (o d56 (.bin .add r55 a1)),
 q 1 (m d59 r6),
 q 1 (o d60 (.conv .b2s r59)),
 q 0 (o d61 (.build [(.bool false),(.bool false),(pi 0),(pi 0),(pi 0),(pi 0),(pi 0),(.str []),(pi 0),(pi 0),(pi 0),(.str []),(.str []),.nils,.nils,(.str []),(pi 0),(pi 0)] [.mk 0 1 (.c (.bool true)),.mk 2 1 r56,.mk 3 12 r58,.mk 15 1 r60,.mk 16 1 (.c (ni 0))])),
 q 0 (o d62 (.nilc r51)),
 w (o .no (.stn 18 r62 r61))]) (.shal k23_4 .skip)))))))
def z23 : List Rs := []
def f23 : AF := .mk x23 z23
def k24_1 : KF := fun c i x r h => (fun (x0 x1 x2 : AV) =>
 ifR x2 (tR (fa 1 x1 h) fun v3 h4 =>
 tR (ld v3 h4) fun v5 h6 =>
 tR (o_ldn 12 (.c x1) .nil h6) fun v7 h8 =>
 tR (o_build [(pi 0),(pi 0),(.str [])] [] .nil h8) fun v9 h10 =>
 tT (c 40 [x0,(pi 3),v5,v7,v9,.nils] h10) fun v11 h12 =>
 .ret T5 h12) (.nm (T15 x0 x1) h)) (y0 r) (y3 r) (y19 r)
def k24_3 : KF := fun c i x r h => (fun (x0 x1 x2 : AV) =>
 tR (fa 1 x1 h) fun v3 h4 =>
 tR (ld v3 h4) fun v5 h6 =>
 tR (o_ldn 12 (.c x1) .nil h6) fun v7 h8 =>
 tR (o_build [(pi 0),(pi 0),(.str [])] [] .nil h8) fun v9 h10 =>
 tT (c 40 [x0,(pi 1),v5,v7,v9,.nils] h10) fun v11 h12 =>
 x (T45 x0 x1 x2) h12) (y0 r) (y3 r) (y4 r)
def k24_2 : KF := fun c i x r h => (fun (x0 x1 : AV) =>
 tR (nic x0 h) fun v2 h3 =>
 tR (fa 292 v2 h3) fun v4 h5 =>
 tR (ld v4 h5) fun v6 h7 =>
 tR (b_add v6 (pi 1) h7) fun v8 h9 =>
 tR (nic x0 h9) fun v10 h11 =>
 tR (fa 292 v10 h11) fun v12 h13 =>
 tR (sto v12 v8 h13) fun v14 h15 =>
 tQ (fa 1 x1 h15) fun v16 =>
 tQ (ld v16 h15) fun v17 =>
 tQ (nic x0 h15) fun v18 =>
 tQ (fa 4 v18 h15) fun v19 =>
 tQ (o_ixa 16 18 (.c v19) (.c v17) .nil h15) fun v20 =>
 x (T45 x0 x1 v20) h15) (y0 r) (y3 r)
def k24_0 : KF := fun c i x r h => (fun (x0 x1 : AV) =>
 tR (o_box 52 (.c x1) .nil h) fun v2 h3 =>
 x (T15 x0 v2) h3) (y0 r) (y1 r)
def x24 : AC := (.shal k24_0 (.seq (.seq (.drw [q 0 (m d5 r0),
 q 0 (o d6 (.fad 1 r3)),
 q 0 (o d7 (.ld1 r6)),
 w (.o d8 (.call 39 [r5,r7])),
 q 0 (o d9 (.un .not r8)),
 q 0 (m d10 r9),
 q 0 (.g .h0 .ha false d11 (.op (.mv r0))),
 q 0 (.g .h0 .ha false d12 (.op (.nilc r11))),
 q 0 (.g .h0 .ha false d13 (.op (.fad 0 r12))),
 q 0 (.g .h0 .ha false d14 (.op (.ld1 r13))),
 q 0 (.g .h0 .ha false d15 (.op (.fad 2 r3))),
 q 0 (.g .h0 .ha false d16 (.op (.ld1 r15))),
 w (.g .h0 .ha false d17 (.call 22 [r14,r16])),
 q 0 (.g .h0 .ha false d18 (.op (.un .not r17))),
 q 0 (o d19 (.pick r10 (.c (.bool true)) r18))]) (.shal k24_1 .skip)) (.shal k24_2 (.seq (.drw [q 0 (o d44 (.ldn 12 r3)),
 w (.o d45 (.call 42 [r44])),
 q 1 (m d46 r0),
 q 1 (o d47 (.nilc r46)),
 q 1 (o d48 (.fad 292 r47)),
 q 1 (o d49 (.ld1 r48)),
 w (.o d50 (.call 43 [r49])),
 q 2 (m d39 r4),
 q 2 (m d40 r4),
 q 2 (o d41 (.nilc r40)),
 q 2 (o d42 (.fad 2 r41)),
 q 2 (o d43 (.ld1 r42)),
 q 2 (o d51 (.fad 2 r3)),
 q 2 (o d52 (.ld1 r51)),
 q 2 (m d53 r0),
 q 2 (o d54 (.nilc r53)),
 q 2 (o d55 (.fad 3 r54)),
 q 2 (o d56 (.ld1 r55)),
 q 2 (o d57 (.fad 2 r3)),
 q 2 (o d58 (.ld1 r57)),
 q 2 (o d59 (.ixs 1 r56 r58)),
 q 2 (o d60 (.ld1 r59)),
 q 0 (o d61 (.build [(.bool false),(.bool false),(pi 0),(pi 0),(pi 0),(pi 0),(pi 0),(.str []),(pi 0),(pi 0),(pi 0),(.str []),(.str []),.nils,.nils,(.str []),(pi 0),(pi 0)] [.mk 0 1 (.c (.bool true)),.mk 1 1 (.c (.bool true)),.mk 2 1 r43,.mk 3 12 r45,.mk 15 1 r50,.mk 16 1 r52,.mk 17 1 r60])),
 q 0 (o d62 (.nilc r39)),
 w (o .no (.stn 18 r62 r61))]) (.shal k24_3 (.drw [q 0 (m d70 r0),
 q 0 (o d71 (.nilc r70)),
 q 0 (o d72 (.fad 0 r71)),
 q 0 (o d73 (.ld1 r72)),
 q 0 (o d74 (.fad 2 r3)),
 q 0 (o d75 (.ld1 r74)),
 q 0 (m d76 r4),
 q 0 (o d77 (.nilc r76)),
 q 0 (o d78 (.fad 15 r77)),
 q 0 (o d79 (.ld1 r78)),
 q 0 (o d80 (.build [(pi 0),(pi 0),(pi 0),(.str [])] [.mk 0 1 a2,.mk 1 1 r75,.mk 3 1 r79])),
 w (.o d81 (.call 26 [r73,r80])),
 q 1 (m d69 r0),
 w (.o d82 (.call 25 [r69,r81]))]))))))
def z24 : List Rs := []
def f24 : AF := .mk x24 z24
def k25_1 : KF := fun c i x r h => (fun (x0 x1 x2 x3 : AV) =>
 tR (b_lt x3 x2 h) fun v4 h5 =>
 ifR v4 (tR (nic x0 h5) fun v6 h7 =>
 tR (fa 0 v6 h7) fun v8 h9 =>
 tR (ld v8 h9) fun v10 h11 =>
 tT (c 22 [v10,x3] h11) fun v12 h13 =>
 ifR v12 (tT (c 44 [x0,x3] h13) fun v14 h15 =>
 tR (b_add x3 (pi 1) h15) fun v16 h17 =>
 .nm (T47 x0 x1 x2 v16) h17) (tR (b_add x3 (pi 1) h13) fun v18 h19 =>
 .nm (T47 x0 x1 x2 v18) h19)) (.ex 0 (T47 x0 x1 x2 x3) h5)) (y0 r) (y1 r) (y10 r) (y11 r)
def k25_0 : KF := fun c i x r h => (fun (x0 x1 : AV) =>
 tR (nic x0 h) fun v2 h3 =>
 tR (fa 1 v2 h3) fun v4 h5 =>
 tR (ld v4 h5) fun v6 h7 =>
 x (T47 x0 x1 v6 (pi 0)) h7) (y0 r) (y1 r)
def k25_3 : KF := fun c i x r h => (fun (x0 x1 x2 x3 : AV) =>
 tR (b_lt x3 x2 h) fun v4 h5 =>
 ifR v4 (tR (ix 4 x1 x3 h5) fun v6 h7 =>
 tR (o_ldn 4 (.c v6) .nil h7) fun v8 h9 =>
 tR (o_alloc 137 4 (.k1 (.mk (pi 0) (pi 0) (.str []) (pi 0) .undef .undef .undef .undef .undef .undef .undef .undef .undef .undef .undef .undef)) .nil h9) fun v10 h11 =>
 tR (o_stn 4 (.c v10) (.c v8) .nil h11) fun v12 h13 =>
 tR (fa 0 v10 h13) fun v14 h15 =>
 tR (ld v14 h15) fun v16 h17 =>
 tR (b_eq v16 (pi 2) h17) fun v18 h19 =>
 ifR v18 (tR (o_ldn 4 (.c v10) .nil h19) fun v20 h21 =>
 tT (c 45 [x0,v20] h21) fun v22 h23 =>
 tR (b_add x3 (pi 1) h23) fun v24 h25 =>
 .nm (T48 x0 x1 x2 v24) h25) (tR (b_add x3 (pi 1) h19) fun v26 h27 =>
 .nm (T48 x0 x1 x2 v26) h27)) (.ex 2 (T48 x0 x1 x2 x3) h5)) (y0 r) (y24 r) (y25 r) (y26 r)
def k25_2 : KF := fun c i x r h => (fun (x0 x1 : AV) =>
 tR (len x1 h) fun v2 h3 =>
 x (T48 x0 x1 v2 (pi 0)) h3) (y0 r) (y1 r)
def x25 : AC := (.seq (.shal k25_0 (.block 0 (.loop (.shal k25_1 .skip)))) (.shal k25_2 (.block 2 (.loop (.shal k25_3 .skip)))))
def z25 : List Rs := []
def f25 : AF := .mk x25 z25
def k26_3 : KF := fun c i x r h => (fun (x0 x1 x2 : AV) =>
 ifR x2 (tQ (nic x0 h) fun v3 =>
 tQ (fa 0 v3 h) fun v4 =>
 tQ (ld v4 h) fun v5 =>
 tQ (fa 1 x1 h) fun v6 =>
 tQ (ld v6 h) fun v7 =>
 tQ (fa 3 x1 h) fun v8 =>
 tQ (ld v8 h) fun v9 =>
 tX (c 46 [v5,v7,v9,(.bool false)] h) fun v10 h11 =>
 .nm (T13 x0) h11) (.nm (T13 x0) h)) (y0 r) (y3 r) (y17 r)
def k26_5 : KF := fun c i x r h => (fun (x0 x1 : AV) =>
 tR (fa 3 x1 h) fun v2 h3 =>
 tR (ld v2 h3) fun v4 h5 =>
 tR (b_sne v4 (.str []) h5) fun v6 h7 =>
 ifR v6 (tQ (nic x0 h7) fun v8 =>
 tQ (fa 0 v8 h7) fun v9 =>
 tQ (ld v9 h7) fun v10 =>
 tQ (fa 1 x1 h7) fun v11 =>
 tQ (ld v11 h7) fun v12 =>
 tQ (fa 3 x1 h7) fun v13 =>
 tQ (ld v13 h7) fun v14 =>
 tX (c 46 [v10,v12,v14,(.bool true)] h7) fun v15 h16 =>
 .nm (T13 x0) h16) (.nm (T13 x0) h7)) (y0 r) (y3 r)
def k26_7 : KF := fun c i x r h => (fun (x0 x1 : AV) =>
 tQ (nic x0 h) fun v2 =>
 tQ (fa 0 v2 h) fun v3 =>
 tQ (ld v3 h) fun v4 =>
 tQ (fa 2 x1 h) fun v5 =>
 tQ (ld v5 h) fun v6 =>
 tX (c 47 [v4,v6] h) fun v7 h8 =>
 .nm (T13 x0) h8) (y0 r) (y3 r)
def k26_6 : KF := fun c i x r h => (fun (x0 x1 x2 : AV) =>
 tR (b_eq x2 (pi 3) h) fun v3 h4 =>
 x (T52 x0 x1 v3) h4) (y0 r) (y3 r) (y6 r)
def k26_4 : KF := fun c i x r h => (fun (x0 x1 x2 : AV) =>
 tR (b_eq x2 (pi 2) h) fun v3 h4 =>
 x (T51 x0 x1 x2 v3) h4) (y0 r) (y3 r) (y6 r)
def k26_2 : KF := fun c i x r h => (fun (x0 x1 x2 : AV) =>
 tR (b_eq x2 (pi 1) h) fun v3 h4 =>
 x (T50 x0 x1 x2 v3) h4) (y0 r) (y3 r) (y6 r)
def k26_1 : KF := fun c i x r h => (fun (x0 x1 : AV) =>
 tR (fa 0 x1 h) fun v2 h3 =>
 tR (ld v2 h3) fun v4 h5 =>
 x (T49 x0 x1 v4) h5) (y0 r) (y3 r)
def k26_8 : KF := fun c i x r h => (fun (x0 : AV) =>
 tT (c 54 [x0] h) fun v1 h2 =>
 .ret (T1 v1) h2) (y0 r)
def k26_0 : KF := fun c i x r h => (fun (x0 x1 : AV) =>
 tR (o_box 93 (.c x1) .nil h) fun v2 h3 =>
 x (T15 x0 v2) h3) (y0 r) (y1 r)
def x26 : AC := (.shal k26_0 (.seq (.shal k26_1 (.block 0 (.shal k26_2 (.cond r7 (.seq (.ops [o d9 (.fad 3 r3),
 o d10 (.ld1 r9),
 o d11 (.bin .sne r10 (.c (.str []))),
 m d12 r11,
 .g .h0 .hc true d13 (.op (.fad 3 r3)),
 .g .h0 .hc true d14 (.op (.ld1 r13)),
 .g .h0 .hc true d15 (.op (.lent r14)),
 .g .h0 .hc true d16 (.op (.bin .le r15 (.c (pi 10000)))),
 o d17 (.pick r12 r16 (.c (.bool false)))]) (.shal k26_3 .skip)) (.shal k26_4 (.cond r27 (.shal k26_5 .skip) (.shal k26_6 (.cond r41 (.shal k26_7 .skip) (.bad 0))))))))) (.shal k26_8 .skip)))
def z26 : List Rs := [.t .h0 .h4]
def f26 : AF := .mk x26 z26
def k27_3 : KF := fun c i x r h => (fun (x0 x1 x2 x3 : AV) =>
 ifR x3 (.ex 1 (T53 x0 x1 x2) h) (.nm (T53 x0 x1 x2) h)) (y0 r) (y3 r) (y5 r) (y31 r)
def k27_7 : KF := fun c i x r h => (fun (x0 x1 x2 x3 : AV) =>
 tR (nic x0 h) fun v4 h5 =>
 tR (fa 3 v4 h5) fun v6 h7 =>
 tR (ld v6 h7) fun v8 h9 =>
 tR (ix 1 v8 x2 h9) fun v10 h11 =>
 tR (ld v10 h11) fun v12 h13 =>
 tR (nic x1 h13) fun v14 h15 =>
 tR (fa 16 v14 h15) fun v16 h17 =>
 tR (sto v16 x2 h17) fun v18 h19 =>
 tR (nic x1 h19) fun v20 h21 =>
 tR (fa 17 v20 h21) fun v22 h23 =>
 tR (sto v22 v12 h23) fun v24 h25 =>
 x (T46 x0 x1 x2 x3) h25) (y0 r) (y3 r) (y4 r) (y5 r)
def k27_6 : KF := fun c i x r h => (fun (x0 x1 x2 x3 x4 : AV) =>
 tR (nic x0 h) fun v5 h6 =>
 tR (fa 0 v5 h6) fun v7 h8 =>
 tR (ld v7 h8) fun v9 h10 =>
 tT (c 22 [v9,x4] h10) fun v11 h12 =>
 x (T55 x0 x1 x4 x2 x3 x4 v11) h12) (y0 r) (y3 r) (y5 r) (y35 r) (y36 r)
def k27_8 : KF := fun c i x r h => (fun (x0 x1 x2 x3 x4 : AV) =>
 tR (b_add x4 (pi 1) h) fun v5 h6 =>
 .nm (T54 x0 x1 x2 x3 v5) h6) (y0 r) (y3 r) (y5 r) (y35 r) (y36 r)
def k27_5 : KF := fun c i x r h => (fun (x0 x1 x2 x3 x4 : AV) =>
 tR (b_lt x4 x3 h) fun v5 h6 =>
 ifR v5 (x (T54 x0 x1 x2 x3 x4) h6) (.ex 2 (T41 x0 x2) h6)) (y0 r) (y3 r) (y5 r) (y35 r) (y36 r)
def k27_4 : KF := fun c i x r h => (fun (x0 x1 x2 : AV) =>
 tR (nic x0 h) fun v3 h4 =>
 tR (fa 1 v3 h4) fun v5 h6 =>
 tR (ld v5 h6) fun v7 h8 =>
 x (T54 x0 x1 x2 v7 (pi 0)) h8) (y0 r) (y3 r) (y5 r)
def k27_2 : KF := fun c i x r h => (fun (x0 x1 : AV) =>
 tR (nic x0 h) fun v2 h3 =>
 tR (fa 4 v2 h3) fun v4 h5 =>
 tR (o_ixa 16 18 (.c v4) (.c x1) .nil h5) fun v6 h7 =>
 x (T53 x0 v6 x1) h7) (y0 r) (y5 r)
def k27_9 : KF := fun c i x r h => (fun (x0 x1 : AV) =>
 tR (b_add x1 (pi 1) h) fun v2 h3 =>
 .nm (T41 x0 v2) h3) (y0 r) (y5 r)
def k27_1 : KF := fun c i x r h => (fun (x0 x1 : AV) =>
 tR (b_lt x1 (pi 16) h) fun v2 h3 =>
 ifR v2 (x (T41 x0 x1) h3) (.ex 0 T5 h3)) (y0 r) (y5 r)
def k27_0 : KF := fun c i x r h => (fun (x0 : AV) =>
 x (T41 x0 (pi 0)) h) (y0 r)
def x27 : AC := (.shal k27_0 (.block 0 (.loop (.shal k27_1 (.seq (.block 1 (.shal k27_2 (.seq (.seq (.ops [m d13 r3,
 o d14 (.nilc r13),
 o d15 (.fad 0 r14),
 o d16 (.ld1 r15),
 o d17 (.un .not r16),
 m d18 r17,
 .g .h1 .h2 false d19 (.op (.mv r3)),
 .g .h1 .h2 false d20 (.op (.nilc r19)),
 .g .h1 .h2 false d21 (.op (.fad 1 r20)),
 .g .h1 .h2 false d22 (.op (.ld1 r21)),
 o d23 (.pick r18 (.c (.bool true)) r22),
 m d24 r23,
 .g .h1 .h8 false d25 (.op (.mv r0)),
 .g .h1 .h8 false d26 (.op (.mv r3)),
 .g .h1 .h8 false d27 (.op (.nilc r26)),
 .g .h1 .h8 false d28 (.op (.ldn 18 r27)),
 .g .h1 .h8 false d29 (.call 55 [r25,r28]),
 .g .h1 .h8 false d30 (.op (.un .not r29)),
 o d31 (.pick r24 (.c (.bool true)) r30)]) (.shal k27_3 .skip)) (.shal k27_4 (.block 2 (.loop (.shal k27_5 (.seq (.block 3 (.shal k27_6 (.cond r44 (.shal k27_7 (.seq (.drw [q 0 (m d60 r0),
 q 0 (o d61 (.nilc r60)),
 q 0 (o d62 (.fad 0 r61)),
 q 0 (o d63 (.ld1 r62)),
 q 0 (m d64 r4),
 q 0 (m d65 r3),
 q 0 (o d66 (.nilc r65)),
 q 0 (o d67 (.fad 15 r66)),
 q 0 (o d68 (.ld1 r67)),
 q 0 (o d69 (.build [(pi 0),(pi 0),(pi 0),(.str [])] [.mk 0 1 a1,.mk 1 1 r64,.mk 3 1 r68])),
 w (.o d70 (.call 26 [r63,r69])),
 q 1 (m d59 r0),
 w (.o d71 (.call 25 [r59,r70]))]) (.exit 2))) .skip))) (.shal k27_8 .skip))))))))) (.shal k27_9 .skip))))))
def z27 : List Rs := []
def f27 : AF := .mk x27 z27
def k29_0 : KF := fun c i x r h => (fun (x0 x1 x2 : AV) =>
 ifR x2 (.ret T5 h) (.nm (T7 x0 x1) h)) (y0 r) (y1 r) (y21 r)
def k29_1 : KF := fun c i x r h => (fun (x0 x1 : AV) =>
 tR (nic x0 h) fun v2 h3 =>
 tR (fa 3 v2 h3) fun v4 h5 =>
 tR (ld v4 h5) fun v6 h7 =>
 tR (ix 1 v6 x1 h7) fun v8 h9 =>
 tR (ld v8 h9) fun v10 h11 =>
 tR (b_add v10 (pi 1) h11) fun v12 h13 =>
 tR (ix 1 v6 x1 h13) fun v14 h15 =>
 tR (sto v14 v12 h15) fun v16 h17 =>
 tR (nic x0 h17) fun v18 h19 =>
 tR (fa 0 v18 h19) fun v20 h21 =>
 tR (ld v20 h21) fun v22 h23 =>
 tR (o_build [(pi 0),(pi 0),(pi 0),(.str [])] [.mk 0 1 (.c (pi 8)),.mk 1 1 (.c x1)] .nil h23) fun v24 h25 =>
 tT (c 26 [v22,v24] h25) fun v26 h27 =>
 tT (c 25 [x0,v26] h27) fun v28 h29 =>
 tT (c 27 [x0] h29) fun v30 h31 =>
 .nm T5 h31) (y0 r) (y1 r)
def x29 : AC := (.seq (.seq (.ops [m d4 r1,
 o d5 (.bin .lt r4 a0),
 m d6 r5,
 .g .h0 .h6 false d7 (.op (.mv r1)),
 .g .h0 .h6 false d8 (.op (.mv r0)),
 .g .h0 .h6 false d9 (.op (.nilc r8)),
 .g .h0 .h6 false d10 (.op (.fad 1 r9)),
 .g .h0 .h6 false d11 (.op (.ld1 r10)),
 .g .h0 .h6 false d12 (.op (.bin .ge r7 r11)),
 o d13 (.pick r6 (.c (.bool true)) r12),
 m d14 r13,
 .g .h0 .he false d15 (.op (.mv r0)),
 .g .h0 .he false d16 (.op (.nilc r15)),
 .g .h0 .he false d17 (.op (.fad 0 r16)),
 .g .h0 .he false d18 (.op (.ld1 r17)),
 .g .h0 .he false d19 (.op (.mv r1)),
 .g .h0 .he false d20 (.call 22 [r18,r19]),
 o d21 (.pick r14 (.c (.bool true)) r20)]) (.shal k29_0 .skip)) (.shal k29_1 .skip))
def z29 : List Rs := []
def f29 : AF := .mk x29 z29
def k30_0 : KF := fun c i x r h => (fun (x0 : AV) =>
 tR (nic x0 h) fun v1 h2 =>
 tR (fa 1 v1 h2) fun v3 h4 =>
 tR (ld v3 h4) fun v5 h6 =>
 .ret (T14 v5) h6) (y0 r)
def x30 : AC := (.shal k30_0 .skip)
def z30 : List Rs := [.t .h0 .h2]
def f30 : AF := .mk x30 z30
def k32_0 : KF := fun c i x r h => (fun (x0 : AV) =>
 tR (nic x0 h) fun v1 h2 =>
 tR (fa 293 v1 h2) fun v3 h4 =>
 tR (ld v3 h4) fun v5 h6 =>
 tR (nic x0 h6) fun v7 h8 =>
 tR (fa 293 v7 h8) fun v9 h10 =>
 tR (sto v9 .nils h10) fun v11 h12 =>
 .ret (T14 v5) h12) (y0 r)
def x32 : AC := (.shal k32_0 .skip)
def z32 : List Rs := [.t .h0 .h2]
def f32 : AF := .mk x32 z32
def k33_2 : KF := fun c i x r h => (fun (x0 x1 x2 x3 : AV) =>
 ifR x3 (tR (b_add x2 (pi 1) h) fun v4 h5 =>
 .go 0 (T37 x0 x1 v4) h5) (.nm (T37 x0 x1 x2) h)) (y0 r) (y1 r) (y6 r) (y19 r)
def k33_3 : KF := fun c i x r h => (fun (x0 x1 x2 x3 : AV) =>
 ifR x3 (tR (nic x0 h) fun v4 h5 =>
 tR (fa 0 v4 h5) fun v6 h7 =>
 tR (ld v6 h7) fun v8 h9 =>
 tT (c 61 [v8] h9) fun v10 h11 =>
 tR (b_add x2 (pi 1) h11) fun v12 h13 =>
 .go 0 (T37 x0 x1 v12) h13) (.nm (T37 x0 x1 x2) h)) (y0 r) (y1 r) (y6 r) (y31 r)
def k33_4 : KF := fun c i x r h => (fun (x0 x1 : AV) =>
 tT (c 54 [x0] h) fun v2 h3 =>
 .ret (T22 v2 x1) h3) (y0 r) (y6 r)
def k33_1 : KF := fun c i x r h => (fun (x0 x1 : AV) =>
 tR (maxV false [x1,(pi 0)] h) fun v2 h3 =>
 tR (maxV true [v2,(pi 20000)] h3) fun v4 h5 =>
 x (T37 x0 v4 (pi 0)) h5) (y0 r) (y1 r)
def k33_0 : KF := fun c i x r h => (fun (x0 x1 : AV) =>
 x (T7 x0 x1) h) (y0 r) (y1 r)
def x33 : AC := (.shal k33_0 (.scope (.shal k33_1 (.seq (.label 0) (.seq (.seq (.ops [m d10 r6,
 m d11 r1,
 o d12 (.bin .lt r10 r11),
 m d13 r12,
 .g .h0 .hd true d14 (.op (.mv r0)),
 .g .h0 .hd true d15 (.op (.nilc r14)),
 .g .h0 .hd true d16 (.op (.fad 0 r15)),
 .g .h0 .hd true d17 (.op (.ld1 r16)),
 .g .h0 .hd true d18 (.call 47 [r17,a0]),
 o d19 (.pick r13 r18 (.c (.bool false)))]) (.shal k33_2 .skip)) (.seq (.seq (.ops [m d22 r6,
 m d23 r1,
 o d24 (.bin .lt r22 r23),
 m d25 r24,
 .g .h1 .h9 true d26 (.op (.mv r0)),
 .g .h1 .h9 true d27 (.op (.nilc r26)),
 .g .h1 .h9 true d28 (.op (.fad 0 r27)),
 .g .h1 .h9 true d29 (.op (.ld1 r28)),
 .g .h1 .h9 true d30 (.call 60 [r29]),
 o d31 (.pick r25 r30 (.c (.bool false)))]) (.shal k33_3 .skip)) (.shal k33_4 .skip)))))))
def z33 : List Rs := [.t .h0 .h4,.t .h0 .h5]
def f33 : AF := .mk x33 z33
def k34_0 : KF := fun c i x r h => tR (o_build [.nils,(pi 0)] [] .nil h) fun v0 h1 =>
 tR (o_box 148 (.c v0) .nil h1) fun v2 h3 =>
 .ret (T13 v2) h3
def x34 : AC := (.shal k34_0 .skip)
def z34 : List Rs := [.t .h0 .h0]
def f34 : AF := .mk x34 z34
def k35_6 : KF := fun c i x r h => (fun (x0 x1 x2 x3 : AV) =>
 tR (b_lt x3 x2 h) fun v4 h5 =>
 ifR v4 (tR (ix 1 x1 x3 h5) fun v6 h7 =>
 tR (ld v6 h7) fun v8 h9 =>
 tT (c 69 [v8] h9) fun v10 h11 =>
 tT (c 68 [x0,v10] h11) fun v12 h13 =>
 tR (b_add x3 (pi 1) h13) fun v14 h15 =>
 .nm (T57 x0 x1 x2 v14) h15) (.ex 0 (T57 x0 x1 x2 x3) h5)) (y0 r) (y81 r) (y82 r) (y83 r)
def k35_5 : KF := fun c i x r h => (fun (x0 x1 : AV) =>
 tR (len x1 h) fun v2 h3 =>
 x (T57 x0 x1 v2 (pi 0)) h3) (y0 r) (y4 r)
def k35_9 : KF := fun c i x r h => (fun (x0 : AV) =>
 tT (c 71 [x0] h) fun v1 h2 =>
 .nm T5 h2) (y0 r)
def k35_8 : KF := fun c i x r h => (fun (x0 : AV) =>
 tQ (nic x0 h) fun v1 =>
 tQ (fa 0 v1 h) fun v2 =>
 tQ (ld v2 h) fun v3 =>
 tQ (nic v3 h) fun v4 =>
 tQ (fa 2 v4 h) fun v5 =>
 tQ (ld v5 h) fun v6 =>
 tQ (nic x0 h) fun v7 =>
 tQ (fa 1 v7 h) fun v8 =>
 tQ (ld v8 h) fun v9 =>
 tQ (nic x0 h) fun v10 =>
 tQ (fa 13 v10 h) fun v11 =>
 tQ (fa 1 v11 h) fun v12 =>
 tQ (ld v12 h) fun v13 =>
 tQ (nic x0 h) fun v14 =>
 tQ (fa 13 v14 h) fun v15 =>
 tQ (fa 3 v15 h) fun v16 =>
 tQ (ld v16 h) fun v17 =>
 tQ (nic v6 h) fun v18 =>
 tX (i 0 v6 [v9,v13,v17] h) fun v19 h20 =>
 x (T13 x0) h20) (y0 r)
def k35_7 : KF := fun c i x r h => (fun (x0 : AV) =>
 tR (nic x0 h) fun v1 h2 =>
 tR (fa 6 v1 h2) fun v3 h4 =>
 tR (ld v3 h4) fun v5 h6 =>
 tR (b_add v5 (pi 1) h6) fun v7 h8 =>
 tR (nic x0 h8) fun v9 h10 =>
 tR (fa 6 v9 h10) fun v11 h12 =>
 tR (sto v11 v7 h12) fun v13 h14 =>
 tT (c 70 [x0] h14) fun v15 h16 =>
 x (T13 x0) h16) (y0 r)
def k35_4 : KF := fun c i x r h => (fun (x0 : AV) =>
 tR (nic x0 h) fun v1 h2 =>
 tR (fa 2 v1 h2) fun v3 h4 =>
 tR (ld v3 h4) fun v5 h6 =>
 tT (c 67 [v5] h6) fun v7 h8 =>
 tT (c 66 [v7] h8) fun v9 h10 =>
 tR (o_ext 0 (.c v9) .nil h10) fun v11 h12 =>
 tR (o_ext 1 (.c v9) .nil h12) fun v13 h14 =>
 x (T56 x0 v11) h14) (y0 r)
def k35_3 : KF := fun c i x r h => (fun (x0 x1 : AV) =>
 tR (nic x0 h) fun v2 h3 =>
 tR (fa 3 v2 h3) fun v4 h5 =>
 tR (ld v4 h5) fun v6 h7 =>
 tR (nic x0 h7) fun v8 h9 =>
 tR (fa 19 v8 h9) fun v10 h11 =>
 tR (sto v10 (pi 0) h11) fun v12 h13 =>
 tR (nic x0 h13) fun v14 h15 =>
 tR (fa 22 v14 h15) fun v16 h17 =>
 tR (sto v16 (pi 0) h17) fun v18 h19 =>
 tR (nic x0 h19) fun v20 h21 =>
 tR (fa 23 v20 h21) fun v22 h23 =>
 tR (sto v22 v6 h23) fun v24 h25 =>
 tR (nic x0 h25) fun v26 h27 =>
 tR (fa 24 v26 h27) fun v28 h29 =>
 tR (sto v28 x1 h29) fun v30 h31 =>
 x (T13 x0) h31) (y0 r) (y1 r)
def k35_2 : KF := fun c i x r h => (fun (x0 x1 : AV) =>
 tR (o_build [(pi 0),(pi 0),.nilm,(.str [])] [] .nil h) fun v2 h3 =>
 tR (nic x0 h3) fun v4 h5 =>
 tR (fa 13 v4 h5) fun v6 h7 =>
 tR (o_stn 4 (.c v6) (.c v2) .nil h7) fun v8 h9 =>
 x (T7 x0 x1) h9) (y0 r) (y1 r)
def k35_1 : KF := fun c i x r h => (fun (x0 x1 : AV) =>
 tR (o_mkmap .nil h) fun v2 h3 =>
 tR (nic x0 h3) fun v4 h5 =>
 tR (fa 11 v4 h5) fun v6 h7 =>
 tR (sto v6 v2 h7) fun v8 h9 =>
 tR (nic x0 h9) fun v10 h11 =>
 tR (fa 17 v10 h11) fun v12 h13 =>
 tR (sto v12 .nils h13) fun v14 h15 =>
 tR (nic x0 h15) fun v16 h17 =>
 tR (fa 18 v16 h17) fun v18 h19 =>
 tR (sto v18 (pi 0) h19) fun v20 h21 =>
 tR (nic x0 h21) fun v22 h23 =>
 tR (fa 6 v22 h23) fun v24 h25 =>
 tR (sto v24 (pi 0) h25) fun v26 h27 =>
 tR (nic x0 h27) fun v28 h29 =>
 tR (fa 10 v28 h29) fun v30 h31 =>
 tR (sto v30 (pi 0) h31) fun v32 h33 =>
 tR (nic x0 h33) fun v34 h35 =>
 tR (fa 12 v34 h35) fun v36 h37 =>
 tR (sto v36 (pi 0) h37) fun v38 h39 =>
 x (T7 x0 x1) h39) (y0 r) (y1 r)
def k35_0 : KF := fun c i x r h => (fun (x0 x1 : AV) =>
 tR (nic x0 h) fun v2 h3 =>
 tR (fa 4 v2 h3) fun v4 h5 =>
 tR (sto v4 (.bool true) h5) fun v6 h7 =>
 x (T7 x0 x1) h7) (y0 r) (y1 r)
def x35 : AC := (.shal k35_0 (.seq (.drw [w (.o d14 (.call 62 [])),
 w (.o d15 (.call 63 [])),
 q 2 (m d20 r0),
 q 2 (o d21 (.nilc r20)),
 q 2 (o d22 (.fad 0 r21)),
 q 2 (o d23 (.ld1 r22)),
 w (.o d24 (.call 65 [r23])),
 q 3 (m d16 r0),
 q 3 (o d17 (.nilc r16)),
 q 3 (o d18 (.fad 1 r17)),
 q 3 (o d19 (.ld1 r18)),
 w (.o d25 (.call 64 [r19,r24])),
 q 4 (m d11 r0),
 q 0 (o d26 (.nilc r11)),
 q 0 (o d27 (.fad 7 r26)),
 w (o .no (.st1 r27 r14)),
 q 5 (m d12 r0),
 q 0 (o d28 (.nilc r12)),
 q 0 (o d29 (.fad 9 r28)),
 w (o .no (.st1 r29 r15)),
 q 6 (m d13 r0),
 q 0 (o d30 (.nilc r13)),
 q 0 (o d31 (.fad 8 r30)),
 w (o .no (.st1 r31 r25))]) (.shal k35_1 (.shal k35_2 (.shal k35_3 (.shal k35_4 (.seq (.shal k35_5 (.block 0 (.loop (.shal k35_6 .skip)))) (.shal k35_7 (.shal k35_8 (.shal k35_9 .skip))))))))))
def z35 : List Rs := []
def f35 : AF := .mk x35 z35
def k36_0 : KF := fun c i x r h => tR (o_build [.nils,.nils] [] .nil h) fun v0 h1 =>
 tR (o_box 161 (.c v0) .nil h1) fun v2 h3 =>
 .ret (T13 v2) h3
def x36 : AC := (.shal k36_0 .skip)
def z36 : List Rs := [.t .h0 .h0]
def f36 : AF := .mk x36 z36
def k37_0 : KF := fun c i x r h => tR (o_build [(pi 0),(pi 0),(pi 0),(.str []),(pi 0),(pi 0),(pi 0),(.str []),(pi 0),(pi 0),(pi 0),(.str []),(pi 0),(pi 0),(pi 0),(.str []),(pi 0),(pi 0),(pi 0),(.str []),(pi 0),(pi 0),(pi 0),(.str []),(pi 0),(pi 0),(pi 0),(.str []),(pi 0),(pi 0),(pi 0),(.str []),(pi 0),(pi 0),(pi 0),(.str []),(pi 0),(pi 0),(pi 0),(.str []),(pi 0),(pi 0),(pi 0),(.str []),(pi 0),(pi 0),(pi 0),(.str []),(pi 0),(pi 0),(pi 0),(.str []),(pi 0),(pi 0),(pi 0),(.str []),(pi 0),(pi 0),(pi 0),(.str []),(pi 0),(pi 0),(pi 0),(.str [])] [] .nil h) fun v0 h1 =>
 tR (o_box 166 (.c v0) .nil h1) fun v2 h3 =>
 .ret (T13 v2) h3
def x37 : AC := (.shal k37_0 .skip)
def z37 : List Rs := [.t .h0 .h0]
def f37 : AF := .mk x37 z37
def k38_0 : KF := fun c i x r h => (fun (x0 x1 : AV) =>
 x (T7 x0 x1) h) (y0 r) (y1 r)
def x38 : AC := (.shal k38_0 (.seq (.ops [m d5 r0,
 m d6 r1,
 .o d7 (.call 72 [r5,r6]),
 m d8 r7,
 .g .h0 .h8 true d9 (.op (.mv r0)),
 .g .h0 .h8 true d10 (.op (.nilc r9)),
 .g .h0 .h8 true d11 (.op (.fad 1 r10)),
 .g .h0 .h8 true d12 (.op (.ld1 r11)),
 .g .h0 .h8 true d13 (.op (.mv r1)),
 .g .h0 .h8 true d14 (.op (.ixs 1 r12 r13)),
 .g .h0 .h8 true d15 (.op (.ld1 r14)),
 .g .h0 .h8 true d16 (.op (.nilc r15)),
 .g .h0 .h8 true d17 (.op (.fad 4 r16)),
 .g .h0 .h8 true d18 (.op (.ld1 r17)),
 o d19 (.pick r8 r18 (.c (.bool false))),
 m d4 r19]) .ret))
def z38 : List Rs := [.t .h0 .h4]
def f38 : AF := .mk x38 z38
def k39_0 : KF := fun c i x r h => (fun (x0 x1 : AV) =>
 x (T7 x0 x1) h) (y0 r) (y1 r)
def x39 : AC := (.shal k39_0 (.seq (.ops [m d5 r1,
 o d6 (.bin .ge r5 a0),
 m d7 r6,
 .g .h0 .h7 true d8 (.op (.mv r1)),
 .g .h0 .h7 true d9 (.op (.bin .lt r8 (.c (pi 16)))),
 o d10 (.pick r7 r9 (.c (.bool false))),
 m d11 r10,
 .g .h0 .hb true d12 (.op (.mv r0)),
 .g .h0 .hb true d13 (.op (.mv r1)),
 .g .h0 .hb true d14 (.op (.nilc r12)),
 .g .h0 .hb true d15 (.op (.fad 4 r14)),
 .g .h0 .hb true d16 (.op (.ixa 16 18 r15 r13)),
 .g .h0 .hb true d17 (.op (.fad 0 r16)),
 .g .h0 .hb true d18 (.op (.ld1 r17)),
 .g .h0 .hb true d19 (.op (.un .not r18)),
 o d20 (.pick r11 r19 (.c (.bool false))),
 m d4 r20]) .ret))
def z39 : List Rs := [.t .h0 .h4]
def f39 : AF := .mk x39 z39
def k40_0 : KF := fun c i x r h => (fun (x0 x1 x2 x3 x4 x5 : AV) =>
 tR (o_box 52 (.c x3) .nil h) fun v6 h7 =>
 tR (o_box 28 (.c x4) .nil h7) fun v8 h9 =>
 x (T58 x0 x1 x2 x5 v6 v8) h9) (y0 r) (y1 r) (y2 r) (y3 r) (y4 r) (y5 r)
def x40 : AC := (.shal k40_0 (.drw [q 0 (o d19 (.ldn 12 r9)),
 w (.o d20 (.call 42 [r19])),
 q 1 (m d22 r5),
 w (.o d23 (.call 73 [r22])),
 q 2 (m d17 r1),
 q 2 (m d18 r2),
 q 2 (o d21 (.ldn 3 r10)),
 q 0 (o d24 (.build [(pi 0),(pi 0),(pi 0),(pi 0),(pi 0),(pi 0),(.str []),(pi 0),(pi 0),(pi 0),(.str []),(.str []),.nils,.nils,(pi 0),(pi 0),(.str []),.nils] [.mk 0 1 r17,.mk 1 1 r18,.mk 2 12 r20,.mk 14 3 r21,.mk 17 1 r23])),
 w (o d25 (.bslice 61 18 1 [(pi 0),(pi 0),(pi 0),(pi 0),(pi 0),(pi 0),(.str []),(pi 0),(pi 0),(pi 0),(.str []),(.str []),.nils,.nils,(pi 0),(pi 0),(.str []),.nils] [.mk 0 18 r24])),
 q 3 (m d13 r0),
 q 3 (o d14 (.nilc r13)),
 q 3 (o d15 (.fad 293 r14)),
 q 3 (o d16 (.ld1 r15)),
 w (o d26 (.app 61 18 r16 r25)),
 q 4 (m d12 r0),
 q 0 (o d27 (.nilc r12)),
 q 0 (o d28 (.fad 293 r27)),
 w (o .no (.st1 r28 r26))]))
def z40 : List Rs := []
def f40 : AF := .mk x40 z40
def k41_3 : KF := fun c i x r h => (fun (x0 x1 x2 x3 x4 : AV) =>
 tR (b_lt x4 x3 h) fun v5 h6 =>
 ifR v5 (tR (ix 2 x2 x4 h6) fun v7 h8 =>
 tR (o_ldn 2 (.c v7) .nil h8) fun v9 h10 =>
 tR (o_alloc 65 2 (.k1 (.mk (.str []) (pi 0) .undef .undef .undef .undef .undef .undef .undef .undef .undef .undef .undef .undef .undef .undef)) .nil h10) fun v11 h12 =>
 tR (o_stn 2 (.c v11) (.c v9) .nil h12) fun v13 h14 =>
 tR (fa 0 v11 h14) fun v15 h16 =>
 tR (ld v15 h16) fun v17 h18 =>
 tT (c 75 [x1,v17] h18) fun v19 h20 =>
 tR (fa 1 v11 h20) fun v21 h22 =>
 tR (ld v21 h22) fun v23 h24 =>
 tT (c 57 [x1,v23] h24) fun v25 h26 =>
 tR (b_add x4 (pi 1) h26) fun v27 h28 =>
 .nm (T60 x0 x1 x2 x3 v27) h28) (.ex 0 (T60 x0 x1 x2 x3 x4) h6)) (y1 r) (y3 r) (y41 r) (y42 r) (y43 r)
def k41_2 : KF := fun c i x r h => (fun (x0 x1 : AV) =>
 tR (fa 5 x0 h) fun v2 h3 =>
 tR (ld v2 h3) fun v4 h5 =>
 tR (len v4 h5) fun v6 h7 =>
 x (T60 x0 x1 v4 v6 (pi 0)) h7) (y1 r) (y3 r)
def k41_9 : KF := fun c i x r h => (fun (x0 x1 x2 x3 x4 x5 x6 x7 : AV) =>
 tR (b_lt x7 x6 h) fun v8 h9 =>
 ifR v8 (tR (ix 3 x5 x7 h9) fun v10 h11 =>
 tR (o_ldn 3 (.c v10) .nil h11) fun v12 h13 =>
 tR (o_alloc 175 3 (.k1 (.mk (pi 0) (pi 0) (.str []) .undef .undef .undef .undef .undef .undef .undef .undef .undef .undef .undef .undef .undef)) .nil h13) fun v14 h15 =>
 tR (o_stn 3 (.c v14) (.c v12) .nil h15) fun v16 h17 =>
 tR (fa 0 v14 h17) fun v18 h19 =>
 tR (ld v18 h19) fun v20 h21 =>
 tT (c 57 [x0,v20] h21) fun v22 h23 =>
 tR (fa 1 v14 h23) fun v24 h25 =>
 tR (ld v24 h25) fun v26 h27 =>
 tT (c 57 [x0,v26] h27) fun v28 h29 =>
 tR (fa 2 v14 h29) fun v30 h31 =>
 tR (ld v30 h31) fun v32 h33 =>
 tT (c 75 [x0,v32] h33) fun v34 h35 =>
 tR (b_add x7 (pi 1) h35) fun v36 h37 =>
 .nm (T63 x0 x1 x2 x3 x4 x5 x6 v36) h37) (.ex 4 (T63 x0 x1 x2 x3 x4 x5 x6 x7) h9)) (y3 r) (y7 r) (y62 r) (y63 r) (y64 r) (y78 r) (y79 r) (y80 r)
def k41_8 : KF := fun c i x r h => (fun (x0 x1 x2 x3 x4 : AV) =>
 tR (fa 1 x1 h) fun v5 h6 =>
 tR (ld v5 h6) fun v7 h8 =>
 tR (len v7 h8) fun v9 h10 =>
 x (T63 x0 x1 x2 x3 x4 v7 v9 (pi 0)) h10) (y3 r) (y7 r) (y62 r) (y63 r) (y64 r)
def k41_10 : KF := fun c i x r h => (fun (x0 x1 x2 x3 x4 : AV) =>
 tR (fa 2 x1 h) fun v5 h6 =>
 tR (ld v5 h6) fun v7 h8 =>
 ifR v7 (tT (c 76 [x0,(pi 1)] h8) fun v9 h10 =>
 .nm (T61 x0 x2 x3 x4) h10) (tT (c 76 [x0,(pi 0)] h8) fun v11 h12 =>
 .nm (T61 x0 x2 x3 x4) h12)) (y3 r) (y7 r) (y62 r) (y63 r) (y64 r)
def k41_7 : KF := fun c i x r h => (fun (x0 x1 x2 x3 : AV) =>
 tR (ix 3 x1 x3 h) fun v4 h5 =>
 tR (o_ldn 3 (.c v4) .nil h5) fun v6 h7 =>
 tR (o_alloc 173 3 (.k1 (.mk (.str []) .nils (.bool false) .undef .undef .undef .undef .undef .undef .undef .undef .undef .undef .undef .undef .undef)) .nil h7) fun v8 h9 =>
 tR (o_stn 3 (.c v8) (.c v6) .nil h9) fun v10 h11 =>
 tR (fa 0 v8 h11) fun v12 h13 =>
 tR (ld v12 h13) fun v14 h15 =>
 tT (c 75 [x0,v14] h15) fun v16 h17 =>
 tR (fa 1 v8 h17) fun v18 h19 =>
 tR (ld v18 h19) fun v20 h21 =>
 tR (len v20 h21) fun v22 h23 =>
 tT (c 76 [x0,v22] h23) fun v24 h25 =>
 x (T62 x0 v8 x1 x2 x3) h25) (y3 r) (y62 r) (y63 r) (y64 r)
def k41_11 : KF := fun c i x r h => (fun (x0 x1 x2 x3 : AV) =>
 tR (b_add x3 (pi 1) h) fun v4 h5 =>
 .nm (T61 x0 x1 x2 v4) h5) (y3 r) (y62 r) (y63 r) (y64 r)
def k41_6 : KF := fun c i x r h => (fun (x0 x1 x2 x3 : AV) =>
 tR (b_lt x3 x2 h) fun v4 h5 =>
 ifR v4 (x (T61 x0 x1 x2 x3) h5) (.ex 2 (T21 x0) h5)) (y3 r) (y62 r) (y63 r) (y64 r)
def k41_5 : KF := fun c i x r h => (fun (x0 x1 : AV) =>
 tR (fa 6 x0 h) fun v2 h3 =>
 tR (ld v2 h3) fun v4 h5 =>
 tR (len v4 h5) fun v6 h7 =>
 x (T61 x1 v4 v6 (pi 0)) h7) (y1 r) (y3 r)
def k41_12 : KF := fun c i x r h => (fun (x0 : AV) =>
 tT (c 58 [x0] h) fun v1 h2 =>
 .ret (T14 v1) h2) (y3 r)
def k41_4 : KF := fun c i x r h => (fun (x0 x1 : AV) =>
 tR (fa 6 x0 h) fun v2 h3 =>
 tR (ld v2 h3) fun v4 h5 =>
 tR (len v4 h5) fun v6 h7 =>
 tT (c 76 [x1,v6] h7) fun v8 h9 =>
 x (T59 x0 x1) h9) (y1 r) (y3 r)
def k41_1 : KF := fun c i x r h => (fun (x0 x1 : AV) =>
 tR (fa 3 x0 h) fun v2 h3 =>
 tR (ld v2 h3) fun v4 h5 =>
 tT (c 75 [x1,v4] h5) fun v6 h7 =>
 tR (fa 4 x0 h7) fun v8 h9 =>
 tR (ld v8 h9) fun v10 h11 =>
 tT (c 75 [x1,v10] h11) fun v12 h13 =>
 tR (fa 5 x0 h13) fun v14 h15 =>
 tR (ld v14 h15) fun v16 h17 =>
 tR (len v16 h17) fun v18 h19 =>
 tT (c 76 [x1,v18] h19) fun v20 h21 =>
 x (T59 x0 x1) h21) (y1 r) (y3 r)
def k41_0 : KF := fun c i x r h => (fun (x0 : AV) =>
 tR (o_box 34 (.c x0) .nil h) fun v1 h2 =>
 tR (o_ldn 7 (.c v1) .nil h2) fun v3 h4 =>
 tT (c 74 [v3] h4) fun v5 h6 =>
 tR (u_not v5 h6) fun v7 h8 =>
 ifR v7 (.ret (T14 .nils) h8) (tT (c 56 [] h8) fun v9 h10 =>
 tR (fa 0 v1 h10) fun v11 h12 =>
 tR (ld v11 h12) fun v13 h14 =>
 tT (c 57 [v9,v13] h14) fun v15 h16 =>
 tR (fa 1 v1 h16) fun v17 h18 =>
 tR (ld v17 h18) fun v19 h20 =>
 tT (c 57 [v9,v19] h20) fun v21 h22 =>
 tR (fa 2 v1 h22) fun v23 h24 =>
 tR (ld v23 h24) fun v25 h26 =>
 tT (c 57 [v9,v25] h26) fun v27 h28 =>
 x (T59 v1 v9) h28)) (y0 r)
def x41 : AC := (.shal k41_0 (.shal k41_1 (.seq (.shal k41_2 (.block 0 (.loop (.shal k41_3 .skip)))) (.shal k41_4 (.seq (.shal k41_5 (.block 2 (.loop (.shal k41_6 (.seq (.block 3 (.shal k41_7 (.seq (.shal k41_8 (.block 4 (.loop (.shal k41_9 .skip)))) (.shal k41_10 .skip)))) (.shal k41_11 .skip)))))) (.shal k41_12 .skip))))))
def z41 : List Rs := [.t .h0 .h2]
def f41 : AF := .mk x41 z41
def k42_2 : KF := fun c i x r h => (fun (x0 x1 x2 x3 x4 : AV) =>
 tR (b_lt x4 x3 h) fun v5 h6 =>
 ifR v5 (tR (ix 3 x2 x4 h6) fun v7 h8 =>
 tR (fa 1 v7 h8) fun v9 h10 =>
 tR (ld v9 h10) fun v11 h12 =>
 tT (c 79 [v11] h12) fun v13 h14 =>
 tR (ix 3 x2 x4 h14) fun v15 h16 =>
 tR (fa 1 v15 h16) fun v17 h18 =>
 tR (sto v17 v13 h18) fun v19 h20 =>
 tR (b_add x4 (pi 1) h20) fun v21 h22 =>
 .nm (T65 x0 x1 x2 x3 v21) h22) (.ex 0 (T65 x0 x1 x2 x3 x4) h6)) (y1 r) (y2 r) (y3 r) (y16 r) (y17 r)
def k42_1 : KF := fun c i x r h => (fun (x0 x1 x2 : AV) =>
 tR (len x2 h) fun v3 h4 =>
 x (T65 x0 x1 x2 v3 (pi 0)) h4) (y1 r) (y2 r) (y3 r)
def k42_3 : KF := fun c i x r h => (fun (x0 x1 x2 : AV) =>
 tR (fa 5 x0 h) fun v3 h4 =>
 tR (fa 6 v3 h4) fun v5 h6 =>
 tR (sto v5 x2 h6) fun v7 h8 =>
 tR (o_ldn 12 (.c x0) .nil h8) fun v9 h10 =>
 tR (o_stn 12 (.c x1) (.c v9) .nil h10) fun v11 h12 =>
 .ret (T14 x1) h12) (y1 r) (y2 r) (y3 r)
def k42_0 : KF := fun c i x r h => (fun (x0 : AV) =>
 tR (o_box 52 (.c x0) .nil h) fun v1 h2 =>
 tR (o_alloc 52 12 (.k1 (.mk (pi 0) (pi 0) (pi 0) (pi 0) (.str []) (pi 0) (pi 0) (pi 0) (.str []) (.str []) .nils .nils .undef .undef .undef .undef)) .nil h2) fun v3 h4 =>
 tR (fa 5 v1 h4) fun v5 h6 =>
 tR (fa 5 v5 h6) fun v7 h8 =>
 tR (ld v7 h8) fun v9 h10 =>
 tT (c 77 [v9] h10) fun v11 h12 =>
 tR (fa 5 v1 h12) fun v13 h14 =>
 tR (fa 5 v13 h14) fun v15 h16 =>
 tR (sto v15 v11 h16) fun v17 h18 =>
 tR (fa 5 v1 h18) fun v19 h20 =>
 tR (fa 6 v19 h20) fun v21 h22 =>
 tR (ld v21 h22) fun v23 h24 =>
 tT (c 78 [v23] h24) fun v25 h26 =>
 x (T64 v1 v3 v25) h26) (y0 r)
def x42 : AC := (.shal k42_0 (.seq (.shal k42_1 (.block 0 (.loop (.shal k42_2 .skip)))) (.shal k42_3 .skip)))
def z42 : List Rs := [.agg 12 .h0 .h2]
def f42 : AF := .mk x42 z42
def k43_0 : KF := fun c i x r h => (fun (x0 : AV) =>
 tT (c 80 [x0] h) fun v1 h2 =>
 .ret (T14 v1) h2) (y0 r)
def x43 : AC := (.shal k43_0 .skip)
def z43 : List Rs := [.t .h0 .h2]
def f43 : AF := .mk x43 z43
def k44_3 : KF := fun c i x r h => (fun (x0 x1 x2 x3 x4 : AV) =>
 tR (b_lt x4 x3 h) fun v5 h6 =>
 ifR v5 (tR (ix 1 x2 x4 h6) fun v7 h8 =>
 tR (ld v7 h8) fun v9 h10 =>
 tT (c 30 [x1] h10) fun v11 h12 =>
 tT (c 84 [x1,v11,v9] h12) fun v13 h14 =>
 tR (b_add x4 (pi 1) h14) fun v15 h16 =>
 .nm (T67 x0 x1 x2 x3 v15) h16) (.ex 0 (T67 x0 x1 x2 x3 x4) h6)) (y0 r) (y4 r) (y50 r) (y51 r) (y52 r)
def k44_2 : KF := fun c i x r h => (fun (x0 x1 x2 : AV) =>
 tR (len x2 h) fun v3 h4 =>
 x (T67 x0 x1 x2 v3 (pi 0)) h4) (y0 r) (y4 r) (y8 r)
def k44_7 : KF := fun c i x r h => (fun (x0 x1 x2 x3 x4 x5 : AV) =>
 ifR x5 (.ex 3 (T69 x0 x1 x2 x3 x4) h) (.nm (T69 x0 x1 x2 x3 x4) h)) (y0 r) (y4 r) (y11 r) (y12 r) (y62 r) (y80 r)
def k44_9 : KF := fun c i x r h => (fun (x0 x1 x2 x3 x4 x5 x6 : AV) =>
 ifR x6 (tR (nic x3 h) fun v7 h8 =>
 tR (fa 0 v7 h8) fun v9 h10 =>
 tR (sto v9 (.bool false) h10) fun v11 h12 =>
 tQ (nic x3 h12) fun v13 =>
 tQ (fa 3 v13 h12) fun v14 =>
 tQ (o_ldn 12 (.c v14) .nil h12) fun v15 =>
 tQ (o_ldn 3 (.c x4) .nil h12) fun v16 =>
 tX (c 40 [x0,(pi 2),x2,v15,v16,.nils] h12) fun v17 h18 =>
 .nm (T68 x0 x1 x5) h18) (.nm (T68 x0 x1 x5) h)) (y0 r) (y4 r) (y11 r) (y12 r) (y13 r) (y62 r) (y91 r)
def k44_8 : KF := fun c i x r h => (fun (x0 x1 x2 x3 x4 : AV) =>
 tR (nic x3 h) fun v5 h6 =>
 tR (fa 2 v5 h6) fun v7 h8 =>
 tR (ld v7 h8) fun v9 h10 =>
 tT (c 85 [x1,x2,v9] h10) fun v11 h12 =>
 tR (o_ext 0 (.c v11) .nil h12) fun v13 h14 =>
 tR (o_ext 1 (.c v11) .nil h14) fun v15 h16 =>
 tR (o_alloc 28 3 (.k1 (.mk (pi 0) (pi 0) (.str []) .undef .undef .undef .undef .undef .undef .undef .undef .undef .undef .undef .undef .undef)) .nil h16) fun v17 h18 =>
 tR (o_stn 3 (.c v17) (.c v13) .nil h18) fun v19 h20 =>
 x (T70 x0 x1 x2 x3 v17 x4 v15) h20) (y0 r) (y4 r) (y11 r) (y12 r) (y62 r)
def k44_6 : KF := fun c i x r h => (fun (x0 x1 x2 : AV) =>
 tR (nic x0 h) fun v3 h4 =>
 tR (fa 4 v3 h4) fun v5 h6 =>
 tR (o_ixa 16 18 (.c v5) (.c x2) .nil h6) fun v7 h8 =>
 x (T69 x0 x1 x2 v7 x2) h8) (y0 r) (y4 r) (y62 r)
def k44_10 : KF := fun c i x r h => (fun (x0 x1 x2 : AV) =>
 tR (b_add x2 (pi 1) h) fun v3 h4 =>
 .nm (T68 x0 x1 v3) h4) (y0 r) (y4 r) (y62 r)
def k44_5 : KF := fun c i x r h => (fun (x0 x1 x2 : AV) =>
 tR (b_lt x2 (pi 16) h) fun v3 h4 =>
 ifR v3 (x (T68 x0 x1 x2) h4) (.ex 2 T5 h4)) (y0 r) (y4 r) (y62 r)
def k44_4 : KF := fun c i x r h => (fun (x0 x1 : AV) =>
 x (T68 x0 x1 (pi 0)) h) (y0 r) (y4 r)
def k44_1 : KF := fun c i x r h => (fun (x0 x1 x2 : AV) =>
 tR (nic x0 h) fun v3 h4 =>
 tR (fa 0 v3 h4) fun v5 h6 =>
 tR (ld v5 h6) fun v7 h8 =>
 tT (c 81 [v7,x1] h8) fun v9 h10 =>
 tR (o_ext 0 (.c v9) .nil h10) fun v11 h12 =>
 tR (o_ext 1 (.c v9) .nil h12) fun v13 h14 =>
 tT (c 30 [x2] h14) fun v15 h16 =>
 tR (b_gt v11 v15 h16) fun v17 h18 =>
 ifR v17 (tT (c 82 [x2,v11,v13] h18) fun v19 h20 =>
 x (T66 x0 x1 x2) h20) (x (T66 x0 x1 x2) h18)) (y0 r) (y1 r) (y4 r)
def k44_0 : KF := fun c i x r h => (fun (x0 x1 : AV) =>
 tR (nic x0 h) fun v2 h3 =>
 tR (fa 2 v2 h3) fun v4 h5 =>
 tR (ld v4 h5) fun v6 h7 =>
 tR (ix 1 v6 x1 h7) fun v8 h9 =>
 tR (ld v8 h9) fun v10 h11 =>
 x (T66 x0 x1 v10) h11) (y0 r) (y1 r)
def x44 : AC := (.shal k44_0 (.shal k44_1 (.seq (.drw [q 0 (m d45 r4),
 w (.o d46 (.call 30 [r45])),
 q 1 (m d40 r0),
 q 1 (o d41 (.nilc r40)),
 q 1 (o d42 (.fad 0 r41)),
 q 1 (o d43 (.ld1 r42)),
 q 1 (m d44 r1),
 w (.o d47 (.call 83 [r43,r44,r46])),
 q 0 (m d39 r47),
 q 0 (o d48 (.ext 0 r39)),
 q 0 (o d49 (.ext 1 r39)),
 q 0 (m d7 r48),
 q 0 (m d8 r49)]) (.seq (.shal k44_2 (.block 0 (.loop (.shal k44_3 .skip)))) (.shal k44_4 (.block 2 (.loop (.shal k44_5 (.seq (.block 3 (.shal k44_6 (.seq (.seq (.ops [m d70 r12,
 o d71 (.nilc r70),
 o d72 (.fad 0 r71),
 o d73 (.ld1 r72),
 o d74 (.un .not r73),
 m d75 r74,
 .g .h4 .hb false d76 (.op (.mv r12)),
 .g .h4 .hb false d77 (.op (.nilc r76)),
 .g .h4 .hb false d78 (.op (.fad 1 r77)),
 .g .h4 .hb false d79 (.op (.ld1 r78)),
 o d80 (.pick r75 (.c (.bool true)) r79)]) (.shal k44_7 .skip)) (.shal k44_8 (.shal k44_9 .skip))))) (.shal k44_10 .skip))))))))))
def z44 : List Rs := []
def f44 : AF := .mk x44 z44
def k45_3 : KF := fun c i x r h => (fun (x0 x1 x2 x3 x4 x5 : AV) =>
 ifR x5 (.ex 1 (T71 x0 x1 x2 x3 x4) h) (.nm (T71 x0 x1 x2 x3 x4) h)) (y0 r) (y3 r) (y4 r) (y5 r) (y9 r) (y46 r)
def k45_6 : KF := fun c i x r h => (fun (x0 x1 x2 x3 x4 x5 x6 : AV) =>
 tQ (nic x3 h) fun v7 =>
 tQ (fa 3 v7 h) fun v8 =>
 tQ (o_ldn 12 (.c v8) .nil h) fun v9 =>
 tQ (o_ldn 3 (.c x5) .nil h) fun v10 =>
 tX (c 40 [x0,(pi 2),x2,v9,v10,x4] h) fun v11 h12 =>
 .nm (T16 x0 x1 x6) h12) (y0 r) (y3 r) (y4 r) (y5 r) (y6 r) (y8 r) (y9 r)
def k45_5 : KF := fun c i x r h => (fun (x0 x1 x2 x3 x4 x5 x6 : AV) =>
 tR (o_build [(pi 0),(pi 0),(.str [])] [] .nil h) fun v7 h8 =>
 tR (o_alloc 28 3 (.k1 (.mk (pi 0) (pi 0) (.str []) .undef .undef .undef .undef .undef .undef .undef .undef .undef .undef .undef .undef .undef)) .nil h8) fun v9 h10 =>
 tR (o_stn 3 (.c v9) (.c v7) .nil h10) fun v11 h12 =>
 tR (u_not x5 h12) fun v13 h14 =>
 ifR v13 (tR (fa 0 v9 h14) fun v15 h16 =>
 tR (sto v15 (pi 20) h16) fun v17 h18 =>
 x (T73 x0 x1 x2 x3 x4 v9 x6) h18) (x (T73 x0 x1 x2 x3 x4 v9 x6) h14)) (y0 r) (y3 r) (y4 r) (y5 r) (y6 r) (y7 r) (y9 r)
def k45_4 : KF := fun c i x r h => (fun (x0 x1 x2 x3 x4 : AV) =>
 tR (nic x3 h) fun v5 h6 =>
 tR (fa 0 v5 h6) fun v7 h8 =>
 tR (sto v7 (.bool false) h8) fun v9 h10 =>
 tQ (nic x0 h10) fun v11 =>
 tQ (fa 2 v11 h10) fun v12 =>
 tQ (ld v12 h10) fun v13 =>
 tQ (fa 1 x1 h10) fun v14 =>
 tQ (ld v14 h10) fun v15 =>
 tQ (ix 1 v13 v15 h10) fun v16 =>
 tQ (ld v16 h10) fun v17 =>
 tQ (nic x3 h10) fun v18 =>
 tQ (fa 3 v18 h10) fun v19 =>
 tQ (fa 4 v19 h10) fun v20 =>
 tQ (ld v20 h10) fun v21 =>
 tX (c 86 [v17,v21] h10) fun v22 h23 =>
 tQ (o_ext 0 (.c v22) .nil h23) fun v24 =>
 tQ (o_ext 1 (.c v22) .nil h23) fun v25 =>
 x (T72 x0 x1 x2 x3 v24 v25 x4) h23) (y0 r) (y3 r) (y4 r) (y5 r) (y9 r)
def k45_2 : KF := fun c i x r h => (fun (x0 x1 x2 : AV) =>
 tR (nic x0 h) fun v3 h4 =>
 tR (fa 4 v3 h4) fun v5 h6 =>
 tR (o_ixa 16 18 (.c v5) (.c x2) .nil h6) fun v7 h8 =>
 x (T71 x0 x1 x2 v7 x2) h8) (y0 r) (y3 r) (y9 r)
def k45_7 : KF := fun c i x r h => (fun (x0 x1 x2 : AV) =>
 tR (b_add x2 (pi 1) h) fun v3 h4 =>
 .nm (T16 x0 x1 v3) h4) (y0 r) (y3 r) (y9 r)
def k45_1 : KF := fun c i x r h => (fun (x0 x1 x2 : AV) =>
 tR (b_lt x2 (pi 16) h) fun v3 h4 =>
 ifR v3 (x (T16 x0 x1 x2) h4) (.ex 0 T5 h4)) (y0 r) (y3 r) (y9 r)
def k45_0 : KF := fun c i x r h => (fun (x0 x1 : AV) =>
 tR (o_box 137 (.c x1) .nil h) fun v2 h3 =>
 x (T16 x0 v2 (pi 0)) h3) (y0 r) (y1 r)
def x45 : AC := (.shal k45_0 (.block 0 (.loop (.shal k45_1 (.seq (.block 1 (.shal k45_2 (.seq (.seq (.drw [q 0 (m d17 r5),
 q 0 (o d18 (.nilc r17)),
 q 0 (o d19 (.fad 0 r18)),
 q 0 (o d20 (.ld1 r19)),
 q 0 (o d21 (.un .not r20)),
 q 0 (m d22 r21),
 q 0 (.g .h1 .h6 false d23 (.op (.mv r5))),
 q 0 (.g .h1 .h6 false d24 (.op (.nilc r23))),
 q 0 (.g .h1 .h6 false d25 (.op (.fad 1 r24))),
 q 0 (.g .h1 .h6 false d26 (.op (.ld1 r25))),
 q 0 (.g .h1 .h6 false d27 (.op (.un .not r26))),
 q 0 (o d28 (.pick r22 (.c (.bool true)) r27)),
 q 0 (m d29 r28),
 q 0 (.g .h1 .hd false d30 (.op (.mv r5))),
 q 0 (.g .h1 .hd false d31 (.op (.nilc r30))),
 q 0 (.g .h1 .hd false d32 (.op (.fad 16 r31))),
 q 0 (.g .h1 .hd false d33 (.op (.ld1 r32))),
 q 0 (.g .h1 .hd false d34 (.op (.fad 1 r3))),
 q 0 (.g .h1 .hd false d35 (.op (.ld1 r34))),
 q 0 (.g .h1 .hd false d36 (.op (.bin .ne r33 r35))),
 q 0 (o d37 (.pick r29 (.c (.bool true)) r36)),
 q 0 (m d38 r37),
 q 0 (.g .h2 .h6 false d39 (.op (.mv r5))),
 q 0 (.g .h2 .h6 false d40 (.op (.nilc r39))),
 q 0 (.g .h2 .h6 false d41 (.op (.fad 15 r40))),
 q 0 (.g .h2 .h6 false d42 (.op (.ld1 r41))),
 q 0 (.g .h2 .h6 false d43 (.op (.fad 2 r3))),
 q 0 (.g .h2 .h6 false d44 (.op (.ld1 r43))),
 q 0 (.g .h2 .h6 false d45 (.op (.bin .sne r42 r44))),
 q 0 (o d46 (.pick r38 (.c (.bool true)) r45))]) (.shal k45_3 .skip)) (.shal k45_4 (.shal k45_5 (.shal k45_6 .skip)))))) (.shal k45_7 .skip))))))
def z45 : List Rs := []
def f45 : AF := .mk x45 z45
def k46_0 : KF := fun c i x r h => (fun (x0 x1 x2 x3 : AV) =>
 tT (c 38 [x0,x1] h) fun v4 h5 =>
 ifR v4 (tR (nic x0 h5) fun v6 h7 =>
 tR (fa 1 v6 h7) fun v8 h9 =>
 tR (ld v8 h9) fun v10 h11 =>
 tR (ix 1 v10 x1 h11) fun v12 h13 =>
 tR (ld v12 h13) fun v14 h15 =>
 tT (c 87 [v14,x2,x3] h15) fun v16 h17 =>
 .nm T5 h17) (.nm T5 h5)) (y0 r) (y1 r) (y2 r) (y3 r)
def x46 : AC := (.shal k46_0 .skip)
def z46 : List Rs := []
def f46 : AF := .mk x46 z46
def k47_2 : KF := fun c i x r h => (fun (x0 x1 : AV) =>
 tQ (nic x0 h) fun v2 =>
 tQ (fa 1 v2 h) fun v3 =>
 tQ (ld v3 h) fun v4 =>
 tQ (fa 1 x1 h) fun v5 =>
 tQ (ld v5 h) fun v6 =>
 tQ (ix 1 v4 v6 h) fun v7 =>
 tQ (ld v7 h) fun v8 =>
 tQ (nic v8 h) fun v9 =>
 tQ (fa 4 v9 h) fun v10 =>
 tQ (ld v10 h) fun v11 =>
 ifR v11 (tQ (nic x0 h) fun v12 =>
 tQ (fa 1 v12 h) fun v13 =>
 tQ (ld v13 h) fun v14 =>
 tQ (fa 1 x1 h) fun v15 =>
 tQ (ld v15 h) fun v16 =>
 tQ (ix 1 v14 v16 h) fun v17 =>
 tQ (ld v17 h) fun v18 =>
 tQ (o_ldn 3 (.c x1) .nil h) fun v19 =>
 tX (c 90 [v18,v19] h) fun v20 h21 =>
 x (T1 (.bool true)) h21) (x (T1 (.bool true)) h)) (y0 r) (y6 r)
def k47_1 : KF := fun c i x r h => (fun (x0 x1 x2 : AV) =>
 tR (nic x0 h) fun v3 h4 =>
 tR (fa 0 v3 h4) fun v5 h6 =>
 tR (ld v5 h6) fun v7 h8 =>
 tR (b_add x1 (pi 1) h8) fun v9 h10 =>
 tT (c 89 [v7,x1,v9] h10) fun v11 h12 =>
 tR (nic x0 h12) fun v13 h14 =>
 tR (fa 0 v13 h14) fun v15 h16 =>
 tR (sto v15 v11 h16) fun v17 h18 =>
 x (T10 x0 x2) h18) (y0 r) (y5 r) (y6 r)
def k47_0 : KF := fun c i x r h => (fun (x0 x1 : AV) =>
 tT (c 88 [x0,x1] h) fun v2 h3 =>
 tR (b_lt v2 (pi 0) h3) fun v4 h5 =>
 ifR v4 (.ret (T1 (.bool false)) h5) (tR (nic x0 h5) fun v6 h7 =>
 tR (fa 0 v6 h7) fun v8 h9 =>
 tR (ld v8 h9) fun v10 h11 =>
 tR (ix 3 v10 v2 h11) fun v12 h13 =>
 tR (o_ldn 3 (.c v12) .nil h13) fun v14 h15 =>
 tR (o_alloc 192 3 (.k1 (.mk (pi 0) (pi 0) .nils .undef .undef .undef .undef .undef .undef .undef .undef .undef .undef .undef .undef .undef)) .nil h15) fun v16 h17 =>
 tR (o_stn 3 (.c v16) (.c v14) .nil h17) fun v18 h19 =>
 x (T74 x0 v2 v16) h19)) (y0 r) (y1 r)
def x47 : AC := (.shal k47_0 (.shal k47_1 (.shal k47_2 .ret)))
def z47 : List Rs := [.t .h0 .h4]
def f47 : AF := .mk x47 z47
def k54_0 : KF := fun c i x r h => (fun (x0 : AV) =>
 tR (nic x0 h) fun v1 h2 =>
 tR (fa 1 v1 h2) fun v3 h4 =>
 tR (ld v3 h4) fun v5 h6 =>
 tR (nic v5 h6) fun v7 h8 =>
 tR (fa 15 v7 h8) fun v9 h10 =>
 tR (ld v9 h10) fun v11 h12 =>
 tR (nic x0 h12) fun v13 h14 =>
 tR (fa 1 v13 h14) fun v15 h16 =>
 tR (ld v15 h16) fun v17 h18 =>
 tR (nic v17 h18) fun v19 h20 =>
 tR (fa 15 v19 h20) fun v21 h22 =>
 tR (sto v21 .nils h22) fun v23 h24 =>
 .ret (T14 v11) h24) (y0 r)
def x54 : AC := (.shal k54_0 .skip)
def z54 : List Rs := [.t .h0 .h2]
def f54 : AF := .mk x54 z54
def k55_0 : KF := fun c i x r h => (fun (x0 x1 : AV) =>
 tR (o_box 54 (.c x1) .nil h) fun v2 h3 =>
 x (T15 x0 v2) h3) (y0 r) (y1 r)
def x55 : AC := (.shal k55_0 (.seq (.drw [q 0 (o d5 (.fad 16 r3)),
 q 0 (o d6 (.ld1 r5)),
 q 0 (o d7 (.bin .lt r6 a0)),
 q 0 (m d8 r7),
 q 0 (.g .h0 .h8 false d9 (.op (.mv r0))),
 q 0 (.g .h0 .h8 false d10 (.op (.nilc r9))),
 q 0 (.g .h0 .h8 false d11 (.op (.fad 0 r10))),
 q 0 (.g .h0 .h8 false d12 (.op (.ld1 r11))),
 q 0 (.g .h0 .h8 false d13 (.op (.fad 16 r3))),
 q 0 (.g .h0 .h8 false d14 (.op (.ld1 r13))),
 w (.g .h0 .h8 false d15 (.call 22 [r12,r14])),
 q 0 (.g .h0 .h8 false d16 (.op (.un .not r15))),
 q 0 (o d17 (.pick r8 (.c (.bool true)) r16)),
 q 0 (m d18 r17),
 q 0 (.g .h1 .h2 false d19 (.op (.mv r0))),
 q 0 (.g .h1 .h2 false d20 (.op (.nilc r19))),
 q 0 (.g .h1 .h2 false d21 (.op (.fad 3 r20))),
 q 0 (.g .h1 .h2 false d22 (.op (.ld1 r21))),
 q 0 (.g .h1 .h2 false d23 (.op (.fad 16 r3))),
 q 0 (.g .h1 .h2 false d24 (.op (.ld1 r23))),
 q 0 (.g .h1 .h2 false d25 (.op (.ixs 1 r22 r24))),
 q 0 (.g .h1 .h2 false d26 (.op (.ld1 r25))),
 q 0 (.g .h1 .h2 false d27 (.op (.fad 17 r3))),
 q 0 (.g .h1 .h2 false d28 (.op (.ld1 r27))),
 q 0 (.g .h1 .h2 false d29 (.op (.bin .ne r26 r28))),
 q 0 (o d30 (.pick r18 (.c (.bool true)) r29)),
 q 0 (m d4 r30)]) .ret))
def z55 : List Rs := [.t .h0 .h4]
def f55 : AF := .mk x55 z55
def k56_0 : KF := fun c i x r h => tR (o_build [.nils] [] .nil h) fun v0 h1 =>
 tR (o_box 198 (.c v0) .nil h1) fun v2 h3 =>
 .ret (T13 v2) h3
def x56 : AC := (.shal k56_0 .skip)
def z56 : List Rs := [.t .h0 .h0]
def f56 : AF := .mk x56 z56
def k57_0 : KF := fun c i x r h => (fun (x0 x1 : AV) =>
 tR (cK (.toInt .u64) x1 h) fun v2 h3 =>
 tT (c 95 [x0,v2,(pi 8)] h3) fun v4 h5 =>
 .nm T5 h5) (y0 r) (y1 r)
def x57 : AC := (.shal k57_0 .skip)
def z57 : List Rs := []
def f57 : AF := .mk x57 z57
def k58_0 : KF := fun c i x r h => (fun (x0 : AV) =>
 tR (nic x0 h) fun v1 h2 =>
 tR (fa 0 v1 h2) fun v3 h4 =>
 tR (ld v3 h4) fun v5 h6 =>
 tT (c 96 [v5] h6) fun v7 h8 =>
 .ret (T14 v7) h8) (y0 r)
def x58 : AC := (.shal k58_0 .skip)
def z58 : List Rs := [.t .h0 .h2]
def f58 : AF := .mk x58 z58
def k60_2 : KF := fun c i x r h => (fun (x0 x1 x2 x3 x4 : AV) =>
 tR (b_lt x4 x3 h) fun v5 h6 =>
 ifR v5 (tR (ix 1 x2 x4 h6) fun v7 h8 =>
 tR (ld v7 h8) fun v9 h10 =>
 tR (nic v9 h10) fun v11 h12 =>
 tR (fa 4 v11 h12) fun v13 h14 =>
 tR (ld v13 h14) fun v15 h16 =>
 ifR v15 (tR (nic v9 h16) fun v17 h18 =>
 tR (fa 10 v17 h18) fun v19 h20 =>
 tR (ld v19 h20) fun v21 h22 =>
 tR (maxV false [x1,v21] h22) fun v23 h24 =>
 tR (b_add x4 (pi 1) h24) fun v25 h26 =>
 .nm (T75 x0 v23 x2 x3 v25) h26) (tR (b_add x4 (pi 1) h16) fun v27 h28 =>
 .nm (T75 x0 x1 x2 x3 v27) h28)) (.ex 0 (T75 x0 x1 x2 x3 x4) h6)) (y0 r) (y3 r) (y12 r) (y13 r) (y14 r)
def k60_1 : KF := fun c i x r h => (fun (x0 x1 : AV) =>
 tR (nic x0 h) fun v2 h3 =>
 tR (fa 1 v2 h3) fun v4 h5 =>
 tR (ld v4 h5) fun v6 h7 =>
 tR (len v6 h7) fun v8 h9 =>
 x (T75 x0 x1 v6 v8 (pi 0)) h9) (y0 r) (y3 r)
def k60_6 : KF := fun c i x r h => (fun (x0 x1 x2 x3 x4 : AV) =>
 tR (ix 1 x2 x4 h) fun v5 h6 =>
 tR (ld v5 h6) fun v7 h8 =>
 tR (nic v7 h8) fun v9 h10 =>
 tR (fa 4 v9 h10) fun v11 h12 =>
 tR (ld v11 h12) fun v13 h14 =>
 tR (u_not v13 h14) fun v15 h16 =>
 ifR v15 (.ex 3 (T76 x0 x1 x2 x3 x4) h16) (tR (nic v7 h16) fun v17 h18 =>
 tR (fa 9 v17 h18) fun v19 h20 =>
 tR (ld v19 h20) fun v21 h22 =>
 tT (c 101 [v21] h22) fun v23 h24 =>
 tR (b_lt v23 x0 h24) fun v25 h26 =>
 ifR v25 (tR (nic v7 h26) fun v27 h28 =>
 tR (fa 24 v27 h28) fun v29 h30 =>
 tR (sto v29 (.bool true) h30) fun v31 h32 =>
 x (T77 x0 (.bool true) v7 x2 x3 x4) h32) (x (T77 x0 x1 v7 x2 x3 x4) h26))) (y3 r) (y6 r) (y32 r) (y33 r) (y34 r)
def k60_7 : KF := fun c i x r h => (fun (x0 x1 x2 x3 x4 : AV) =>
 tR (b_add x4 (pi 1) h) fun v5 h6 =>
 .nm (T76 x0 x1 x2 x3 v5) h6) (y3 r) (y6 r) (y32 r) (y33 r) (y34 r)
def k60_5 : KF := fun c i x r h => (fun (x0 x1 x2 x3 x4 : AV) =>
 tR (b_lt x4 x3 h) fun v5 h6 =>
 ifR v5 (x (T76 x0 x1 x2 x3 x4) h6) (.ex 2 (T8 x1) h6)) (y3 r) (y6 r) (y32 r) (y33 r) (y34 r)
def k60_4 : KF := fun c i x r h => (fun (x0 x1 x2 : AV) =>
 tR (nic x0 h) fun v3 h4 =>
 tR (fa 1 v3 h4) fun v5 h6 =>
 tR (ld v5 h6) fun v7 h8 =>
 tR (len v7 h8) fun v9 h10 =>
 x (T76 x1 x2 v7 v9 (pi 0)) h10) (y0 r) (y3 r) (y6 r)
def k60_8 : KF := fun c i x r h => (fun (x0 : AV) =>
 .ret (T14 x0) h) (y6 r)
def k60_3 : KF := fun c i x r h => (fun (x0 x1 : AV) =>
 x (T49 x0 x1 (.bool false)) h) (y0 r) (y3 r)
def k60_0 : KF := fun c i x r h => (fun (x0 : AV) =>
 x (T15 x0 (pi 0)) h) (y0 r)
def x60 : AC := (.shal k60_0 (.seq (.shal k60_1 (.block 0 (.loop (.shal k60_2 .skip)))) (.shal k60_3 (.seq (.shal k60_4 (.block 2 (.loop (.shal k60_5 (.seq (.block 3 (.shal k60_6 (.ops [m d53 r6,
 m d54 r53,
 .g .h3 .h6 false d55 (.op (.mv r8)),
 .g .h3 .h6 false d56 (.call 102 [r55]),
 o d57 (.pick r54 (.c (.bool true)) r56),
 m d58 r57,
 .g .h3 .ha false d59 (.op (.mv r8)),
 .g .h3 .ha false d60 (.op (.nilc r59)),
 .g .h3 .ha false d61 (.op (.fad 17 r60)),
 .g .h3 .ha false d62 (.op (.ld1 r61)),
 .g .h3 .ha false d63 (.op (.len r62)),
 .g .h3 .ha false d64 (.op (.bin .gt r63 a0)),
 o d65 (.pick r58 (.c (.bool true)) r64),
 m d6 r65]))) (.shal k60_7 .skip)))))) (.shal k60_8 .skip)))))
def z60 : List Rs := [.t .h0 .h2]
def f60 : AF := .mk x60 z60
def k62_0 : KF := fun c i x r h => tR (o_mkmap .nil h) fun v0 h1 =>
 tR (o_build [(pi 0),(pi 0),.nilm,(pi 0)] [.mk 2 1 (.c v0)] .nil h1) fun v2 h3 =>
 tR (o_box 210 (.c v2) .nil h3) fun v4 h5 =>
 .ret (T13 v4) h5
def x62 : AC := (.shal k62_0 .skip)
def z62 : List Rs := [.t .h0 .h0]
def f62 : AF := .mk x62 z62
def k63_0 : KF := fun c i x r h => tR (o_mkmap .nil h) fun v0 h1 =>
 tR (o_build [.nilm,(pi 0)] [.mk 0 1 (.c v0)] .nil h1) fun v2 h3 =>
 tR (o_box 213 (.c v2) .nil h3) fun v4 h5 =>
 .ret (T13 v4) h5
def x63 : AC := (.shal k63_0 .skip)
def z63 : List Rs := [.t .h0 .h0]
def f63 : AF := .mk x63 z63
def k64_0 : KF := fun c i x r h => (fun (x0 x1 : AV) =>
 tR (o_build [(pi 0),(pi 0),(pi 0),(pi 0),(pi 0),(pi 0),.nilm,.nilm,.nilm] [.mk 0 1 (.c x0),.mk 1 1 (.c x1)] .nil h) fun v2 h3 =>
 tR (o_box 216 (.c v2) .nil h3) fun v4 h5 =>
 .ret (T1 v4) h5) (y0 r) (y1 r)
def x64 : AC := (.shal k64_0 .skip)
def z64 : List Rs := [.t .h0 .h4]
def f64 : AF := .mk x64 z64
def k65_0 : KF := fun c i x r h => (fun (x0 : AV) =>
 tR (nic x0 h) fun v1 h2 =>
 tR (fa 1 v1 h2) fun v3 h4 =>
 tR (ld v3 h4) fun v5 h6 =>
 tR (len v5 h6) fun v7 h8 =>
 .ret (T14 v7) h8) (y0 r)
def x65 : AC := (.shal k65_0 .skip)
def z65 : List Rs := [.t .h0 .h2]
def f65 : AF := .mk x65 z65
def k66_3 : KF := fun c i x r h => (fun (x0 x1 x2 x3 x4 : AV) =>
 ifR x4 (.ex 0 (T79 x0 x1 x2 x3) h) (.nm (T79 x0 x1 x2 x3) h)) (y0 r) (y4 r) (y5 r) (y6 r) (y35 r)
def k66_5 : KF := fun c i x r h => (fun (x0 x1 x2 x3 : AV) =>
 tR (b_add (pi 8) x3 h) fun v4 h5 =>
 tR (b_add x2 v4 h5) fun v6 h7 =>
 .nm (T78 x0 x1 v6) h7) (y0 r) (y4 r) (y5 r) (y6 r)
def k66_4 : KF := fun c i x r h => (fun (x0 x1 x2 x3 : AV) =>
 tR (b_add x2 (pi 8) h) fun v4 h5 =>
 tR (b_add x2 (pi 8) h5) fun v6 h7 =>
 tR (b_add v6 x3 h7) fun v8 h9 =>
 tR (o_slc 1 (.c x0) (.some (.c v4)) (.some (.c v8)) .none .nil h9) fun v10 h11 =>
 tT (c 104 [v10] h11) fun v12 h13 =>
 tR (o_ext 0 (.c v12) .nil h13) fun v14 h15 =>
 tR (o_ext 1 (.c v12) .nil h15) fun v16 h17 =>
 tR (u_not v16 h17) fun v18 h19 =>
 ifR v18 (.ex 0 (T22 x1 x2) h19) (tR (o_bslice 132 1 1 [.nils] [.mk 0 1 (.c v14)] .nil h19) fun v20 h21 =>
 tR (appV 132 1 x1 v20 h21) fun v22 h23 =>
 x (T79 x0 v22 x2 x3) h23)) (y0 r) (y4 r) (y5 r) (y6 r)
def k66_2 : KF := fun c i x r h => (fun (x0 x1 x2 : AV) =>
 tR (b_add x2 (pi 8) h) fun v3 h4 =>
 tR (o_slc 1 (.c x0) (.some (.c x2)) (.some (.c v3)) .none .nil h4) fun v5 h6 =>
 tT (c 69 [v5] h6) fun v7 h8 =>
 tT (c 103 [v7] h8) fun v9 h10 =>
 x (T79 x0 x1 x2 v9) h10) (y0 r) (y4 r) (y5 r)
def k66_1 : KF := fun c i x r h => (fun (x0 x1 x2 : AV) =>
 tR (len x0 h) fun v3 h4 =>
 tR (b_sub v3 x2 h4) fun v5 h6 =>
 tR (b_ge v5 (pi 8) h6) fun v7 h8 =>
 ifR v7 (x (T78 x0 x1 x2) h8) (.ex 0 (T22 x1 x2) h8)) (y0 r) (y4 r) (y5 r)
def k66_6 : KF := fun c i x r h => (fun (x0 x1 : AV) =>
 .ret (T9 x0 x1) h) (y4 r) (y5 r)
def k66_0 : KF := fun c i x r h => (fun (x0 : AV) =>
 x (T78 x0 .nils (pi 0)) h) (y0 r)
def x66 : AC := (.shal k66_0 (.seq (.block 0 (.loop (.shal k66_1 (.block 1 (.shal k66_2 (.seq (.seq (.ops [m d21 r6,
 o d22 (.bin .lt r21 a0),
 m d23 r22,
 .g .h1 .h7 false d24 (.op (.mv r6)),
 .g .h1 .h7 false d25 (.op (.bin .gt r24 (.c (pi 1048576)))),
 o d26 (.pick r23 (.c (.bool true)) r25),
 m d27 r26,
 .g .h1 .hb false d28 (.op (.mv r6)),
 .g .h1 .hb false d29 (.op (.mv r0)),
 .g .h1 .hb false d30 (.op (.len r29)),
 .g .h1 .hb false d31 (.op (.mv r5)),
 .g .h1 .hb false d32 (.op (.bin .sub r30 r31)),
 .g .h1 .hb false d33 (.op (.bin .sub r32 (.c (pi 8)))),
 .g .h1 .hb false d34 (.op (.bin .gt r28 r33)),
 o d35 (.pick r27 (.c (.bool true)) r34)]) (.shal k66_3 .skip)) (.shal k66_4 (.shal k66_5 .skip)))))))) (.shal k66_6 .skip)))
def z66 : List Rs := [.t .h0 .h2,.t .h0 .h3]
def f66 : AF := .mk x66 z66
def k67_0 : KF := fun c i x r h => (fun (x0 : AV) =>
 tR (nic x0 h) fun v1 h2 =>
 tR (fa 0 v1 h2) fun v3 h4 =>
 tR (ld v3 h4) fun v5 h6 =>
 tT (c 96 [v5] h6) fun v7 h8 =>
 .ret (T14 v7) h8) (y0 r)
def x67 : AC := (.shal k67_0 .skip)
def z67 : List Rs := [.t .h0 .h2]
def f67 : AF := .mk x67 z67
def k69_0 : KF := fun c i x r h => (fun (x0 : AV) =>
 tT (c 96 [x0] h) fun v1 h2 =>
 tR (o_build [.nils,(pi 0),(pi 0),(pi 0)] [.mk 0 1 (.c v1)] .nil h2) fun v3 h4 =>
 tR (o_box 232 (.c v3) .nil h4) fun v5 h6 =>
 .ret (T14 v5) h6) (y0 r)
def x69 : AC := (.shal k69_0 .skip)
def z69 : List Rs := [.t .h0 .h2]
def f69 : AF := .mk x69 z69
def k70_1 : KF := fun c i x r h => (fun (x0 x1 x2 x3 x4 : AV) =>
 tR (b_lt x4 x3 h) fun v5 h6 =>
 ifR v5 (tR (ix 4 x2 x4 h6) fun v7 h8 =>
 tR (o_ldn 4 (.c v7) .nil h8) fun v9 h10 =>
 tR (o_alloc 227 4 (.k1 (.mk (pi 0) (pi 0) (pi 0) (.str []) .undef .undef .undef .undef .undef .undef .undef .undef .undef .undef .undef .undef)) .nil h10) fun v11 h12 =>
 tR (o_stn 4 (.c v11) (.c v9) .nil h12) fun v13 h14 =>
 tT (c 114 [(pi 2),(.fn 119 [v11])] h14) fun v15 h16 =>
 tR (appV 5 1 x1 v15 h16) fun v17 h18 =>
 tR (b_add x4 (pi 1) h18) fun v19 h20 =>
 .nm (T80 x0 v17 x2 x3 v19) h20) (.ex 0 (T80 x0 x1 x2 x3 x4) h6)) (y1 r) (y2 r) (y29 r) (y30 r) (y31 r)
def k70_5 : KF := fun c i x r h => (fun (x0 x1 x2 x3 x4 x5 x6 x7 : AV) =>
 ifR x7 (.nm (T82 x0 x1 x2 (pi 5) x4 x5 x6) h) (.nm (T82 x0 x1 x2 x3 x4 x5 x6) h)) (y1 r) (y2 r) (y6 r) (y7 r) (y50 r) (y51 r) (y52 r) (y68 r)
def k70_6 : KF := fun c i x r h => (fun (x0 x1 x2 x3 x4 x5 x6 : AV) =>
 tR (ld x0 h) fun v7 h8 =>
 tR (o_ldn 4 (.c x2) .nil h8) fun v9 h10 =>
 tT (c 126 [v7,x3,v9] h10) fun v11 h12 =>
 tR (appV 5 1 x1 v11 h12) fun v13 h14 =>
 .nm (T81 x0 v13 x4 x5 x6) h14) (y1 r) (y2 r) (y6 r) (y7 r) (y50 r) (y51 r) (y52 r)
def k70_4 : KF := fun c i x r h => (fun (x0 x1 x2 x3 x4 : AV) =>
 tR (ix 4 x2 x4 h) fun v5 h6 =>
 tR (o_ldn 4 (.c v5) .nil h6) fun v7 h8 =>
 tR (o_alloc 227 4 (.k1 (.mk (pi 0) (pi 0) (pi 0) (.str []) .undef .undef .undef .undef .undef .undef .undef .undef .undef .undef .undef .undef)) .nil h8) fun v9 h10 =>
 tR (o_stn 4 (.c v9) (.c v7) .nil h10) fun v11 h12 =>
 x (T82 x0 x1 v9 (pi 4) x2 x3 x4) h12) (y1 r) (y2 r) (y50 r) (y51 r) (y52 r)
def k70_7 : KF := fun c i x r h => (fun (x0 x1 x2 x3 x4 : AV) =>
 tR (b_add x4 (pi 1) h) fun v5 h6 =>
 .nm (T81 x0 x1 x2 x3 v5) h6) (y1 r) (y2 r) (y50 r) (y51 r) (y52 r)
def k70_3 : KF := fun c i x r h => (fun (x0 x1 x2 x3 x4 : AV) =>
 tR (b_lt x4 x3 h) fun v5 h6 =>
 ifR v5 (x (T81 x0 x1 x2 x3 x4) h6) (.ex 2 (T19 x0 x1) h6)) (y1 r) (y2 r) (y50 r) (y51 r) (y52 r)
def k70_8 : KF := fun c i x r h => (fun (x0 x1 : AV) =>
 tR (ld x0 h) fun v2 h3 =>
 tR (nic v2 h3) fun v4 h5 =>
 tR (fa 2 v4 h5) fun v6 h7 =>
 tR (ld v6 h7) fun v8 h9 =>
 tT (c 127 [v8,x1] h9) fun v10 h11 =>
 tR (b_eq v10 (pi 0) h11) fun v12 h13 =>
 ifR v12 (tR (ld x0 h13) fun v14 h15 =>
 tR (len x1 h15) fun v16 h17 =>
 tR (nic v14 h17) fun v18 h19 =>
 tR (fa 5 v18 h19) fun v20 h21 =>
 tR (sto v20 v16 h21) fun v22 h23 =>
 .nm T5 h23) (.nm T5 h13)) (y1 r) (y2 r)
def k70_2 : KF := fun c i x r h => (fun (x0 x1 : AV) =>
 tT (c 114 [(pi 1),(.fn 122 [x0])] h) fun v2 h3 =>
 tR (appV 5 1 x1 v2 h3) fun v4 h5 =>
 x (T19 x0 v4) h5) (y1 r) (y2 r)
def k70_0 : KF := fun c i x r h => (fun (x0 : AV) =>
 tR (o_box 107 (.c x0) .nil h) fun v1 h2 =>
 tT (c 114 [(pi 0),(.fn 115 [v1])] h2) fun v3 h4 =>
 tR (ld v1 h4) fun v5 h6 =>
 tR (nic v5 h6) fun v7 h8 =>
 tR (fa 13 v7 h8) fun v9 h10 =>
 tR (fa 0 v9 h10) fun v11 h12 =>
 tR (ld v11 h12) fun v13 h14 =>
 tR (b_gt v13 (pi 0) h14) fun v15 h16 =>
 ifR v15 (tT (c 114 [(pi 6),(.fn 116 [v1])] h16) fun v17 h18 =>
 tR (appV 5 1 v3 v17 h18) fun v19 h20 =>
 x (T19 v1 v19) h20) (x (T19 v1 v3) h16)) (y0 r)
def x70 : AC := (.shal k70_0 (.seq (.seq (.drw [q 0 (o d20 (.ld1 r1)),
 q 0 (o d21 (.nilc r20)),
 q 0 (o d22 (.fad 7 r21)),
 q 0 (o d23 (.ld1 r22)),
 q 0 (o d24 (.ld1 r1)),
 q 0 (o d25 (.nilc r24)),
 q 0 (o d26 (.fad 13 r25)),
 q 0 (o d27 (.fad 0 r26)),
 q 0 (o d28 (.ld1 r27)),
 w (.o d29 (.call 118 [r23,r28])),
 q 0 (o d30 (.len r29)),
 q 1 (m d31 a0)]) (.block 0 (.loop (.shal k70_1 .skip)))) (.shal k70_2 (.seq (.seq (.drw [q 0 (o d44 (.ld1 r1)),
 q 0 (o d45 (.ld1 r1)),
 q 0 (o d46 (.nilc r45)),
 q 0 (o d47 (.fad 13 r46)),
 q 0 (o d48 (.fad 0 r47)),
 q 0 (o d49 (.ld1 r48)),
 w (.o d50 (.call 124 [r44,r49])),
 q 0 (o d51 (.len r50)),
 q 1 (m d52 a0)]) (.block 2 (.loop (.shal k70_3 (.seq (.block 3 (.shal k70_4 (.seq (.seq (.drw [q 0 (o d56 (.ld1 r1)),
 q 0 (o d57 (.fad 0 r6)),
 q 0 (o d58 (.ld1 r57)),
 w (.o d59 (.call 125 [r56,r58])),
 q 0 (m d60 r59),
 q 0 (.g .h3 .hc true d61 (.op (.ld1 r1))),
 q 0 (.g .h3 .hc true d62 (.op (.fad 0 r6))),
 q 0 (.g .h3 .hc true d63 (.op (.ld1 r62))),
 w (.g .h3 .hc true d64 (.call 108 [r61,r63])),
 q 1 (.g .h3 .hc true d65 (.op (.fad 3 r6))),
 q 1 (.g .h3 .hc true d66 (.op (.ld1 r65))),
 q 0 (.g .h3 .hc true d67 (.op (.bin .seq r64 r66))),
 q 0 (o d68 (.pick r60 r67 (.c (.bool false))))]) (.shal k70_5 .skip)) (.shal k70_6 .skip)))) (.shal k70_7 .skip)))))) (.shal k70_8 .skip)))))
def z70 : List Rs := []
def f70 : AF := .mk x70 z70
def k71_2 : KF := fun c i x r h => (fun (x0 x1 x2 x3 x4 : AV) =>
 tR (b_add x4 (pi 1) h) fun v5 h6 =>
 .nm (T83 x0 x1 x2 x3 v5) h6) (y0 r) (y2 r) (y14 r) (y15 r) (y16 r)
def k71_1 : KF := fun c i x r h => (fun (x0 x1 x2 x3 x4 : AV) =>
 tR (b_lt x4 x3 h) fun v5 h6 =>
 ifR v5 (tR (ix 1 x2 x4 h6) fun v7 h8 =>
 tR (ld v7 h8) fun v9 h10 =>
 tR (b_sne v9 (.str []) h10) fun v11 h12 =>
 ifR v11 (tT (c 130 [x0,x1,v9] h12) fun v13 h14 =>
 tR (b_add x1 (pi 1) h14) fun v15 h16 =>
 x (T83 x0 v15 x2 x3 x4) h16) (tR (b_add x1 (pi 1) h12) fun v17 h18 =>
 x (T83 x0 v17 x2 x3 x4) h18)) (.ex 0 T5 h6)) (y0 r) (y2 r) (y14 r) (y15 r) (y16 r)
def k71_0 : KF := fun c i x r h => (fun (x0 : AV) =>
 tR (nic x0 h) fun v1 h2 =>
 tR (fa 9 v1 h2) fun v3 h4 =>
 tR (ld v3 h4) fun v5 h6 =>
 tT (c 128 [v5] h6) fun v7 h8 =>
 tR (nic x0 h8) fun v9 h10 =>
 tR (fa 9 v9 h10) fun v11 h12 =>
 tR (ld v11 h12) fun v13 h14 =>
 tT (c 129 [v13] h14) fun v15 h16 =>
 tR (len v15 h16) fun v17 h18 =>
 x (T83 x0 v7 v15 v17 (pi 0)) h18) (y0 r)
def x71 : AC := (.shal k71_0 (.block 0 (.loop (.shal k71_1 (.shal k71_2 .skip)))))
def z71 : List Rs := []
def f71 : AF := .mk x71 z71
def k72_0 : KF := fun c i x r h => (fun (x0 x1 : AV) =>
 x (T7 x0 x1) h) (y0 r) (y1 r)
def x72 : AC := (.shal k72_0 (.seq (.ops [m d5 r1,
 o d6 (.bin .ge r5 a0),
 m d7 r6,
 .g .h0 .h7 true d8 (.op (.mv r1)),
 .g .h0 .h7 true d9 (.op (.mv r0)),
 .g .h0 .h7 true d10 (.op (.nilc r9)),
 .g .h0 .h7 true d11 (.op (.fad 1 r10)),
 .g .h0 .h7 true d12 (.op (.ld1 r11)),
 .g .h0 .h7 true d13 (.op (.len r12)),
 .g .h0 .h7 true d14 (.op (.bin .lt r8 r13)),
 o d15 (.pick r7 r14 (.c (.bool false))),
 m d4 r15]) .ret))
def z72 : List Rs := [.t .h0 .h4]
def f72 : AF := .mk x72 z72
def k73_2 : KF := fun c i x r h => (fun (x0 x1 x2 x3 : AV) =>
 tR (b_lt x3 x2 h) fun v4 h5 =>
 ifR v4 (tR (ix 2 x1 x3 h5) fun v6 h7 =>
 tR (o_ldn 2 (.c v6) .nil h7) fun v8 h9 =>
 tR (o_alloc 245 2 (.k1 (.mk .nils (.cplx .f64 0 0) .undef .undef .undef .undef .undef .undef .undef .undef .undef .undef .undef .undef .undef .undef)) .nil h9) fun v10 h11 =>
 tR (o_stn 2 (.c v10) (.c v8) .nil h11) fun v12 h13 =>
 tR (fa 0 v10 h13) fun v14 h15 =>
 tR (ld v14 h15) fun v16 h17 =>
 tR (fa 1 v10 h17) fun v18 h19 =>
 tR (ld v18 h19) fun v20 h21 =>
 tT (c 131 [v16,v20] h21) fun v22 h23 =>
 tR (o_bslice 245 2 1 [.nils,(.cplx .f64 0 0)] [.mk 0 2 (.c v22)] .nil h23) fun v24 h25 =>
 tR (appV 245 2 x0 v24 h25) fun v26 h27 =>
 tR (b_add x3 (pi 1) h27) fun v28 h29 =>
 .nm (T84 v26 x1 x2 v28) h29) (.ex 0 (T84 x0 x1 x2 x3) h5)) (y3 r) (y6 r) (y7 r) (y8 r)
def k73_1 : KF := fun c i x r h => (fun (x0 x1 : AV) =>
 tR (len x0 h) fun v2 h3 =>
 x (T84 x1 x0 v2 (pi 0)) h3) (y0 r) (y3 r)
def k73_3 : KF := fun c i x r h => (fun (x0 : AV) =>
 .ret (T14 x0) h) (y3 r)
def k73_0 : KF := fun c i x r h => (fun (x0 : AV) =>
 x (T15 x0 .nils) h) (y0 r)
def x73 : AC := (.shal k73_0 (.seq (.shal k73_1 (.block 0 (.loop (.shal k73_2 .skip)))) (.shal k73_3 .skip)))
def z73 : List Rs := [.t .h0 .h2]
def f73 : AF := .mk x73 z73
def k74_1 : KF := fun c i x r h => (fun (x0 x1 : AV) =>
 ifR x1 (.ret (T14 (.bool false)) h) (.nm (T20 x0) h)) (y1 r) (y36 r)
def k74_5 : KF := fun c i x r h => (fun (x0 x1 x2 x3 x4 : AV) =>
 ifR x4 (.ret (T14 (.bool false)) h) (.nm (T85 x0 x1 x2 x3) h)) (y1 r) (y38 r) (y39 r) (y40 r) (y55 r)
def k74_4 : KF := fun c i x r h => (fun (x0 x1 x2 x3 : AV) =>
 tR (ix 2 x1 x3 h) fun v4 h5 =>
 tR (o_ldn 2 (.c v4) .nil h5) fun v6 h7 =>
 tR (o_alloc 65 2 (.k1 (.mk (.str []) (pi 0) .undef .undef .undef .undef .undef .undef .undef .undef .undef .undef .undef .undef .undef .undef)) .nil h7) fun v8 h9 =>
 tR (o_stn 2 (.c v8) (.c v6) .nil h9) fun v10 h11 =>
 x (T86 x0 v8 x1 x2 x3) h11) (y1 r) (y38 r) (y39 r) (y40 r)
def k74_6 : KF := fun c i x r h => (fun (x0 x1 x2 x3 : AV) =>
 tR (b_add x3 (pi 1) h) fun v4 h5 =>
 .nm (T85 x0 x1 x2 v4) h5) (y1 r) (y38 r) (y39 r) (y40 r)
def k74_3 : KF := fun c i x r h => (fun (x0 x1 x2 x3 : AV) =>
 tR (b_lt x3 x2 h) fun v4 h5 =>
 ifR v4 (x (T85 x0 x1 x2 x3) h5) (.ex 0 (T20 x0) h5)) (y1 r) (y38 r) (y39 r) (y40 r)
def k74_2 : KF := fun c i x r h => (fun (x0 : AV) =>
 tR (fa 5 x0 h) fun v1 h2 =>
 tR (ld v1 h2) fun v3 h4 =>
 tR (len v3 h4) fun v5 h6 =>
 x (T85 x0 v3 v5 (pi 0)) h6) (y1 r)
def k74_10 : KF := fun c i x r h => (fun (x0 x1 x2 x3 : AV) =>
 ifR x3 (.ret (T14 (.bool false)) h) (.nm (T87 x0 x1 x2) h)) (y58 r) (y59 r) (y60 r) (y74 r)
def k74_9 : KF := fun c i x r h => (fun (x0 x1 x2 : AV) =>
 tR (ix 3 x0 x2 h) fun v3 h4 =>
 tR (o_ldn 3 (.c v3) .nil h4) fun v5 h6 =>
 tR (o_alloc 173 3 (.k1 (.mk (.str []) .nils (.bool false) .undef .undef .undef .undef .undef .undef .undef .undef .undef .undef .undef .undef .undef)) .nil h6) fun v7 h8 =>
 tR (o_stn 3 (.c v7) (.c v5) .nil h8) fun v9 h10 =>
 x (T88 v7 x0 x1 x2) h10) (y58 r) (y59 r) (y60 r)
def k74_11 : KF := fun c i x r h => (fun (x0 x1 x2 : AV) =>
 tR (b_add x2 (pi 1) h) fun v3 h4 =>
 .nm (T87 x0 x1 v3) h4) (y58 r) (y59 r) (y60 r)
def k74_8 : KF := fun c i x r h => (fun (x0 x1 x2 : AV) =>
 tR (b_lt x2 x1 h) fun v3 h4 =>
 ifR v3 (x (T87 x0 x1 x2) h4) (.ex 2 T5 h4)) (y58 r) (y59 r) (y60 r)
def k74_7 : KF := fun c i x r h => (fun (x0 : AV) =>
 tR (fa 6 x0 h) fun v1 h2 =>
 tR (ld v1 h2) fun v3 h4 =>
 tR (len v3 h4) fun v5 h6 =>
 x (T87 v3 v5 (pi 0)) h6) (y1 r)
def k74_12 : KF := fun c i x r h => .ret (T14 (.bool true)) h
def k74_0 : KF := fun c i x r h => (fun (x0 : AV) =>
 tR (o_box 34 (.c x0) .nil h) fun v1 h2 =>
 x (T20 v1) h2) (y0 r)
def x74 : AC := (.shal k74_0 (.seq (.seq (.ops [o d7 (.fad 0 r1),
 o d8 (.ld1 r7),
 o d9 (.fad 1 r1),
 o d10 (.ld1 r9),
 o d11 (.fad 2 r1),
 o d12 (.ld1 r11),
 o d13 (.bslice 3 1 3 [(pi 0),(pi 0),(pi 0)] [.mk 0 1 r8,.mk 1 1 r10,.mk 2 1 r12]),
 .o d14 (.call 132 [r13]),
 o d15 (.un .not r14),
 m d16 r15,
 .g .h1 .h0 false d17 (.op (.fad 3 r1)),
 .g .h1 .h0 false d18 (.op (.ld1 r17)),
 .g .h1 .h0 false d19 (.op (.fad 4 r1)),
 .g .h1 .h0 false d20 (.op (.ld1 r19)),
 .g .h1 .h0 false d21 (.op (.bslice 9 1 2 [(.str []),(.str [])] [.mk 0 1 r18,.mk 1 1 r20])),
 .g .h1 .h0 false d22 (.call 133 [r21]),
 .g .h1 .h0 false d23 (.op (.un .not r22)),
 o d24 (.pick r16 (.c (.bool true)) r23),
 m d25 r24,
 .g .h1 .h9 false d26 (.op (.fad 5 r1)),
 .g .h1 .h9 false d27 (.op (.ld1 r26)),
 .g .h1 .h9 false d28 (.op (.len r27)),
 .g .h1 .h9 false d29 (.op (.bin .gt r28 (.c (pi 255)))),
 o d30 (.pick r25 (.c (.bool true)) r29),
 m d31 r30,
 .g .h1 .hf false d32 (.op (.fad 6 r1)),
 .g .h1 .hf false d33 (.op (.ld1 r32)),
 .g .h1 .hf false d34 (.op (.len r33)),
 .g .h1 .hf false d35 (.op (.bin .gt r34 (.c (pi 255)))),
 o d36 (.pick r31 (.c (.bool true)) r35)]) (.shal k74_1 .skip)) (.seq (.shal k74_2 (.block 0 (.loop (.shal k74_3 (.seq (.block 1 (.shal k74_4 (.seq (.ops [o d44 (.fad 1 r4),
 o d45 (.ld1 r44),
 o d46 (.bslice 3 1 1 [(pi 0)] [.mk 0 1 r45]),
 .o d47 (.call 132 [r46]),
 o d48 (.un .not r47),
 m d49 r48,
 .g .h3 .h1 false d50 (.op (.fad 0 r4)),
 .g .h3 .h1 false d51 (.op (.ld1 r50)),
 .g .h3 .h1 false d52 (.op (.bslice 9 1 1 [(.str [])] [.mk 0 1 r51])),
 .g .h3 .h1 false d53 (.call 133 [r52]),
 .g .h3 .h1 false d54 (.op (.un .not r53)),
 o d55 (.pick r49 (.c (.bool true)) r54)]) (.shal k74_5 .skip)))) (.shal k74_6 .skip)))))) (.seq (.shal k74_7 (.block 2 (.loop (.shal k74_8 (.seq (.block 3 (.shal k74_9 (.seq (.ops [o d64 (.fad 0 r6),
 o d65 (.ld1 r64),
 o d66 (.bslice 9 1 1 [(.str [])] [.mk 0 1 r65]),
 .o d67 (.call 133 [r66]),
 o d68 (.un .not r67),
 m d69 r68,
 .g .h4 .h5 false d70 (.op (.fad 1 r6)),
 .g .h4 .h5 false d71 (.op (.ld1 r70)),
 .g .h4 .h5 false d72 (.call 134 [r71]),
 .g .h4 .h5 false d73 (.op (.un .not r72)),
 o d74 (.pick r69 (.c (.bool true)) r73)]) (.shal k74_10 .skip)))) (.shal k74_11 .skip)))))) (.shal k74_12 .skip)))))
def z74 : List Rs := [.t .h0 .h2]
def f74 : AF := .mk x74 z74
def k75_0 : KF := fun c i x r h => (fun (x0 x1 : AV) =>
 tR (lent x1 h) fun v2 h3 =>
 tT (c 135 [x0,v2] h3) fun v4 h5 =>
 tR (nic x0 h5) fun v6 h7 =>
 tR (fa 0 v6 h7) fun v8 h9 =>
 tR (ld v8 h9) fun v10 h11 =>
 tR (o_apps 5 (.c v10) (.c x1) .nil h11) fun v12 h13 =>
 tR (nic x0 h13) fun v14 h15 =>
 tR (fa 0 v14 h15) fun v16 h17 =>
 tR (sto v16 v12 h17) fun v18 h19 =>
 .nm T5 h19) (y0 r) (y1 r)
def x75 : AC := (.shal k75_0 .skip)
def z75 : List Rs := []
def f75 : AF := .mk x75 z75
def k76_0 : KF := fun c i x r h => (fun (x0 x1 : AV) =>
 tR (cK (.toInt .u64) x1 h) fun v2 h3 =>
 tT (c 95 [x0,v2,(pi 1)] h3) fun v4 h5 =>
 .nm T5 h5) (y0 r) (y1 r)
def x76 : AC := (.shal k76_0 .skip)
def z76 : List Rs := []
def f76 : AF := .mk x76 z76
def k77_0 : KF := fun c i x r h => (fun (x0 : AV) =>
 tR (bK (.isnil .s) x0 .nils h) fun v1 h2 =>
 ifR v1 (.ret (T14 .nils) h2) (tR (o_bslice 65 2 0 [] [] .nil h2) fun v3 h4 =>
 tR (appV 65 2 v3 x0 h4) fun v5 h6 =>
 .ret (T14 v5) h6)) (y0 r)
def x77 : AC := (.shal k77_0 .skip)
def z77 : List Rs := [.t .h0 .h2]
def f77 : AF := .mk x77 z77
def k78_0 : KF := fun c i x r h => (fun (x0 : AV) =>
 tR (bK (.isnil .s) x0 .nils h) fun v1 h2 =>
 ifR v1 (.ret (T14 .nils) h2) (tR (o_bslice 173 3 0 [] [] .nil h2) fun v3 h4 =>
 tR (appV 173 3 v3 x0 h4) fun v5 h6 =>
 .ret (T14 v5) h6)) (y0 r)
def x78 : AC := (.shal k78_0 .skip)
def z78 : List Rs := [.t .h0 .h2]
def f78 : AF := .mk x78 z78
def k80_0 : KF := fun c i x r h => (fun (x0 : AV) =>
 tT (c 136 [x0,(pi 10)] h) fun v1 h2 =>
 .ret (T14 v1) h2) (y0 r)
def x80 : AC := (.shal k80_0 .skip)
def z80 : List Rs := [.t .h0 .h2]
def f80 : AF := .mk x80 z80
def k81_1 : KF := fun c i x r h => (fun (x0 x1 : AV) =>
 tQ (nic x0 h) fun v2 =>
 tQ (fa 1 v2 h) fun v3 =>
 tQ (ld v3 h) fun v4 =>
 tQ (nic v4 h) fun v5 =>
 tQ (fa 0 v5 h) fun v6 =>
 tQ (o_ixa 5 3 (.c v6) (.c x1) .nil h) fun v7 =>
 tQ (fa 0 v7 h) fun v8 =>
 tQ (ld v8 h) fun v9 =>
 tQ (nic x0 h) fun v10 =>
 tQ (fa 1 v10 h) fun v11 =>
 tQ (ld v11 h) fun v12 =>
 tQ (nic v12 h) fun v13 =>
 tQ (fa 0 v13 h) fun v14 =>
 tQ (o_ixa 5 3 (.c v14) (.c x1) .nil h) fun v15 =>
 tQ (fa 1 v15 h) fun v16 =>
 tQ (ld v16 h) fun v17 =>
 .ret (T22 v9 v17) h) (y0 r) (y1 r)
def k81_0 : KF := fun c i x r h => (fun (x0 x1 : AV) =>
 tR (nic x0 h) fun v2 h3 =>
 tR (fa 0 v2 h3) fun v4 h5 =>
 tR (ld v4 h5) fun v6 h7 =>
 tT (c 38 [v6,x1] h7) fun v8 h9 =>
 tR (u_not v8 h9) fun v10 h11 =>
 ifR v10 (.ret (T22 (pi 0) (.str [])) h11) (x (T7 x0 x1) h11)) (y0 r) (y1 r)
def x81 : AC := (.shal k81_0 (.shal k81_1 .skip))
def z81 : List Rs := [.t .h0 .h4,.t .h0 .h5]
def f81 : AF := .mk x81 z81
def k83_2 : KF := fun c i x r h => (fun (x0 x1 x2 x3 : AV) =>
 ifR x3 (.ret (T12 x2 .nils) h) (.nm (T90 x0 x1 x2) h)) (y2 r) (y8 r) (y9 r) (y40 r)
def k83_3 : KF := fun c i x r h => (fun (x0 x1 x2 : AV) =>
 tR (fa 2 x1 h) fun v3 h4 =>
 tR (ld v3 h4) fun v5 h6 =>
 tR (fa 0 x1 h6) fun v7 h8 =>
 tR (ld v7 h8) fun v9 h10 =>
 tR (b_sub x0 v9 h10) fun v11 h12 =>
 tR (o_slc 1 (.c v5) (.some (.c v11)) .none .none .nil h12) fun v13 h14 =>
 tT (c 138 [v13] h14) fun v15 h16 =>
 .ret (T12 x2 v15) h16) (y2 r) (y8 r) (y9 r)
def k83_1 : KF := fun c i x r h => (fun (x0 x1 : AV) =>
 tR (fa 0 x1 h) fun v2 h3 =>
 tR (ld v2 h3) fun v4 h5 =>
 tR (fa 2 x1 h5) fun v6 h7 =>
 tR (ld v6 h7) fun v8 h9 =>
 tR (len v8 h9) fun v10 h11 =>
 tR (b_add v4 v10 h11) fun v12 h13 =>
 x (T90 x0 x1 v12) h13) (y2 r) (y8 r)
def k83_0 : KF := fun c i x r h => (fun (x0 x1 x2 : AV) =>
 tR (nic x0 h) fun v3 h4 =>
 tR (fa 0 v3 h4) fun v5 h6 =>
 tR (ld v5 h6) fun v7 h8 =>
 tT (c 38 [v7,x1] h8) fun v9 h10 =>
 tR (u_not v9 h10) fun v11 h12 =>
 ifR v11 (.ret (T12 (pi 0) .nils) h12) (tR (nic x0 h12) fun v13 h14 =>
 tR (fa 1 v13 h14) fun v15 h16 =>
 tR (ld v15 h16) fun v17 h18 =>
 tR (nic v17 h18) fun v19 h20 =>
 tR (fa 0 v19 h20) fun v21 h22 =>
 tR (o_ixa 5 3 (.c v21) (.c x1) .nil h22) fun v23 h24 =>
 tR (o_ldn 3 (.c v23) .nil h24) fun v25 h26 =>
 tR (o_alloc 76 3 (.k1 (.mk (pi 0) (.str []) .nils .undef .undef .undef .undef .undef .undef .undef .undef .undef .undef .undef .undef .undef)) .nil h26) fun v27 h28 =>
 tR (o_stn 3 (.c v27) (.c v25) .nil h28) fun v29 h30 =>
 x (T89 x2 v27) h30)) (y0 r) (y1 r) (y2 r)
def x83 : AC := (.shal k83_0 (.shal k83_1 (.seq (.seq (.ops [m d32 r2,
 o d33 (.fad 0 r8),
 o d34 (.ld1 r33),
 o d35 (.bin .lt r32 r34),
 m d36 r35,
 .g .h2 .h4 false d37 (.op (.mv r2)),
 .g .h2 .h4 false d38 (.op (.mv r9)),
 .g .h2 .h4 false d39 (.op (.bin .ge r37 r38)),
 o d40 (.pick r36 (.c (.bool true)) r39)]) (.shal k83_2 .skip)) (.shal k83_3 .skip))))
def z83 : List Rs := [.t .h0 .h6,.t .h0 .h7]
def f83 : AF := .mk x83 z83
def k84_1 : KF := fun c i x r h => (fun (x0 x1 x2 : AV) =>
 tR (cK (.s2b 5) x1 h) fun v3 h4 =>
 tT (c 139 [v3] h4) fun v5 h6 =>
 tR (o_ext 0 (.c v5) .nil h6) fun v7 h8 =>
 tR (o_ext 1 (.c v5) .nil h8) fun v9 h10 =>
 tR (o_alloc 34 7 (.k1 (.mk (pi 0) (pi 0) (pi 0) (.str []) (.str []) .nils .nils .undef .undef .undef .undef .undef .undef .undef .undef .undef)) .nil h10) fun v11 h12 =>
 tR (o_stn 7 (.c v11) (.c v7) .nil h12) fun v13 h14 =>
 tR (b_ne v9 (pi 0) h14) fun v15 h16 =>
 ifR v15 (tR (o_build [(pi 0),(pi 0),(.str [])] [.mk 0 1 (.c (pi 12))] .nil h16) fun v17 h18 =>
 tR (o_stn 3 (.c x2) (.c v17) .nil h18) fun v19 h20 =>
 .ret (T12 x2 (pi 0)) h20) (tQ (nic x0 h16) fun v21 =>
 tQ (fa 0 v21 h16) fun v22 =>
 tQ (ld v22 h16) fun v23 =>
 tQ (o_ldn 7 (.c v11) .nil h16) fun v24 =>
 tX (c 140 [v23,v24] h16) fun v25 h26 =>
 tX (RV.toT (o_stn 3 (.c x2) (.c v25) .nil h26)) fun v27 h28 =>
 x (T12 x2 (pi 0)) h28)) (y0 r) (y2 r) (y6 r)
def k84_0 : KF := fun c i x r h => (fun (x0 x1 x2 : AV) =>
 tR (o_alloc 28 3 (.k1 (.mk (pi 0) (pi 0) (.str []) .undef .undef .undef .undef .undef .undef .undef .undef .undef .undef .undef .undef .undef)) .nil h) fun v3 h4 =>
 tR (nic x0 h4) fun v5 h6 =>
 tR (fa 1 v5 h6) fun v7 h8 =>
 tR (ld v7 h8) fun v9 h10 =>
 tR (b_ne x1 v9 h10) fun v11 h12 =>
 ifR v11 (tR (o_build [(pi 0),(pi 0),(.str [])] [] .nil h12) fun v13 h14 =>
 tR (o_stn 3 (.c v3) (.c v13) .nil h14) fun v15 h16 =>
 .ret (T12 v3 (pi 1)) h16) (tR (nic x0 h12) fun v17 h18 =>
 tR (fa 1 v17 h18) fun v19 h20 =>
 tR (ld v19 h20) fun v21 h22 =>
 tR (b_add v21 (pi 1) h22) fun v23 h24 =>
 tR (nic x0 h24) fun v25 h26 =>
 tR (fa 1 v25 h26) fun v27 h28 =>
 tR (sto v27 v23 h28) fun v29 h30 =>
 x (T91 x0 x2 v3) h30)) (y0 r) (y1 r) (y2 r)
def x84 : AC := (.shal k84_0 (.shal k84_1 .ret))
def z84 : List Rs := [.agg 3 .h0 .h6,.t .h0 .h7]
def f84 : AF := .mk x84 z84
def k85_0 : KF := fun c i x r h => (fun (x0 x1 x2 : AV) =>
 tR (o_alloc 28 3 (.k1 (.mk (pi 0) (pi 0) (.str []) .undef .undef .undef .undef .undef .undef .undef .undef .undef .undef .undef .undef .undef)) .nil h) fun v3 h4 =>
 tR (nic x0 h4) fun v5 h6 =>
 tR (fa 0 v5 h6) fun v7 h8 =>
 tR (ld v7 h8) fun v9 h10 =>
 tT (c 141 [v9,x1,x2] h10) fun v11 h12 =>
 tR (o_ext 0 (.c v11) .nil h12) fun v13 h14 =>
 tR (o_ext 1 (.c v11) .nil h14) fun v15 h16 =>
 tR (o_stn 3 (.c v3) (.c v13) .nil h16) fun v17 h18 =>
 .ret (T12 v3 v15) h18) (y0 r) (y1 r) (y2 r)
def x85 : AC := (.shal k85_0 .skip)
def z85 : List Rs := [.agg 3 .h0 .h6,.t .h0 .h7]
def f85 : AF := .mk x85 z85
def k86_0 : KF := fun c i x r h => (fun (x0 x1 : AV) =>
 tR (nic x0 h) fun v2 h3 =>
 tR (fa 0 v2 h3) fun v4 h5 =>
 tR (ld v4 h5) fun v6 h7 =>
 tT (c 142 [v6,x1] h7) fun v8 h9 =>
 tR (o_ext 0 (.c v8) .nil h9) fun v10 h11 =>
 tR (o_ext 1 (.c v8) .nil h11) fun v12 h13 =>
 .ret (T22 v10 v12) h13) (y0 r) (y1 r)
def x86 : AC := (.shal k86_0 .skip)
def z86 : List Rs := [.t .h0 .h4,.t .h0 .h5]
def f86 : AF := .mk x86 z86
def k87_3 : KF := fun c i x r h => (fun (x0 x1 x2 x3 x4 x5 x6 x7 : AV) =>
 ifR x7 (.ex 1 (T95 x0 x1 x2 x3 x4 x5 x6) h) (.nm (T95 x0 x1 x2 x3 x4 x5 x6) h)) (y0 r) (y1 r) (y2 r) (y6 r) (y11 r) (y12 r) (y13 r) (y27 r)
def k87_4 : KF := fun c i x r h => (fun (x0 x1 x2 x3 : AV) =>
 tR (u_not x2 h) fun v4 h5 =>
 ifR v4 (.ret T5 h5) (x (T96 x0 x1 x2 x3) h5)) (y0 r) (y1 r) (y2 r) (y6 r)
def k87_2 : KF := fun c i x r h => (fun (x0 x1 x2 x3 x4 x5 : AV) =>
 tR (ix 6 x3 x5 h) fun v6 h7 =>
 tR (o_ldn 6 (.c v6) .nil h7) fun v8 h9 =>
 tR (o_alloc 260 6 (.k1 (.mk (pi 0) (pi 0) (pi 0) (.bool false) (.str []) (pi 0) .undef .undef .undef .undef .undef .undef .undef .undef .undef .undef)) .nil h9) fun v10 h11 =>
 tR (o_stn 6 (.c v10) (.c v8) .nil h11) fun v12 h13 =>
 x (T94 x0 x1 x2 x5 v10 x3 x4 x5) h13) (y0 r) (y1 r) (y2 r) (y11 r) (y12 r) (y13 r)
def k87_5 : KF := fun c i x r h => (fun (x0 x1 x2 x3 x4 x5 : AV) =>
 tR (b_add x5 (pi 1) h) fun v6 h7 =>
 .nm (T92 x0 x1 x2 x3 x4 v6) h7) (y0 r) (y1 r) (y2 r) (y11 r) (y12 r) (y13 r)
def k87_1 : KF := fun c i x r h => (fun (x0 x1 x2 x3 x4 x5 : AV) =>
 tR (b_lt x5 x4 h) fun v6 h7 =>
 ifR v6 (x (T92 x0 x1 x2 x3 x4 x5) h7) (.ex 0 (T93 x0 x1 x2) h7)) (y0 r) (y1 r) (y2 r) (y11 r) (y12 r) (y13 r)
def k87_0 : KF := fun c i x r h => (fun (x0 x1 x2 : AV) =>
 tR (nic x0 h) fun v3 h4 =>
 tR (fa 17 v3 h4) fun v5 h6 =>
 tR (ld v5 h6) fun v7 h8 =>
 tR (len v7 h8) fun v9 h10 =>
 x (T92 x0 x1 x2 v7 v9 (pi 0)) h10) (y0 r) (y1 r) (y2 r)
def k87_7 : KF := fun c i x r h => (fun (x0 : AV) =>
 tR (nic x0 h) fun v1 h2 =>
 tR (fa 19 v1 h2) fun v3 h4 =>
 tR (ld v3 h4) fun v5 h6 =>
 tR (b_eq v5 (pi 2) h6) fun v7 h8 =>
 ifR v7 (tT (c 143 [x0] h8) fun v9 h10 =>
 .nm T5 h10) (tR (b_eq v5 (pi 0) h8) fun v11 h12 =>
 ifR v11 (tR (nic x0 h12) fun v13 h14 =>
 tR (fa 3 v13 h14) fun v15 h16 =>
 tR (ld v15 h16) fun v17 h18 =>
 tR (nic x0 h18) fun v19 h20 =>
 tR (fa 23 v19 h20) fun v21 h22 =>
 tR (sto v21 v17 h22) fun v23 h24 =>
 tT (c 144 [x0] h24) fun v25 h26 =>
 .nm T5 h26) (.nm T5 h12))) (y0 r)
def k87_6 : KF := fun c i x r h => (fun (x0 x1 x2 : AV) =>
 tR (nic x0 h) fun v3 h4 =>
 tR (fa 18 v3 h4) fun v5 h6 =>
 tR (ld v5 h6) fun v7 h8 =>
 tR (b_add v7 (pi 1) h8) fun v9 h10 =>
 tR (nic x0 h10) fun v11 h12 =>
 tR (fa 18 v11 h12) fun v13 h14 =>
 tR (sto v13 v9 h14) fun v15 h16 =>
 x (T93 x0 x1 x2) h16) (y0 r) (y1 r) (y2 r)
def x87 : AC := (.seq (.shal k87_0 (.block 0 (.loop (.shal k87_1 (.seq (.block 1 (.shal k87_2 (.seq (.seq (.ops [o d18 (.fad 4 r7),
 o d19 (.ld1 r18),
 m d20 r1,
 o d21 (.bin .sne r19 r20),
 m d22 r21,
 .g .h1 .h6 false d23 (.op (.fad 3 r7)),
 .g .h1 .h6 false d24 (.op (.ld1 r23)),
 .g .h1 .h6 false d25 (.op (.mv r2)),
 .g .h1 .h6 false d26 (.op (.bin .bne r24 r25)),
 o d27 (.pick r22 (.c (.bool true)) r26)]) (.shal k87_3 .skip)) (.shal k87_4 (.seq (.drw [q 0 (m d31 r0),
 q 0 (o d32 (.nilc r31)),
 q 0 (o d33 (.fad 17 r32)),
 q 0 (o d34 (.ld1 r33)),
 q 0 (m d35 r6),
 q 0 (m d36 r6),
 q 0 (o d37 (.slc 6 r34 .none (.some r35) (.some r36))),
 q 0 (m d38 r0),
 q 0 (o d39 (.nilc r38)),
 q 0 (o d40 (.fad 17 r39)),
 q 0 (o d41 (.ld1 r40)),
 q 0 (m d42 r6),
 q 0 (o d43 (.bin .add r42 a1)),
 q 0 (o d44 (.slc 6 r41 (.some r43) .none .none)),
 w (o d45 (.app 260 6 r37 r44)),
 q 1 (m d30 r0),
 q 0 (o d46 (.nilc r30)),
 q 0 (o d47 (.fad 17 r46)),
 w (o .no (.st1 r47 r45))]) (.exit 0)))))) (.shal k87_5 .skip)))))) (.shal k87_6 (.seq (.drw [q 0 (m d61 r0),
 q 0 (o d62 (.nilc r61)),
 q 0 (o d63 (.fad 1 r62)),
 q 0 (o d64 (.ld1 r63)),
 q 0 (m d65 r0),
 q 0 (o d66 (.nilc r65)),
 q 0 (o d67 (.fad 6 r66)),
 q 0 (o d68 (.ld1 r67)),
 q 0 (m d69 r0),
 q 0 (o d70 (.nilc r69)),
 q 0 (o d71 (.fad 18 r70)),
 q 0 (o d72 (.ld1 r71)),
 q 0 (o d73 (.build [(pi 0),(pi 0),(pi 0)] [.mk 0 1 r64,.mk 1 1 r68,.mk 2 1 r72])),
 q 0 (m d74 r2),
 q 0 (m d75 r1),
 q 0 (o d76 (.build [(pi 0),(pi 0),(pi 0),(.bool false),(.str []),(pi 0)] [.mk 0 3 r73,.mk 3 1 r74,.mk 4 1 r75,.mk 5 1 (.c (ni 0))])),
 w (o d77 (.bslice 260 6 1 [(pi 0),(pi 0),(pi 0),(.bool false),(.str []),(pi 0)] [.mk 0 6 r76])),
 q 1 (m d57 r0),
 q 1 (o d58 (.nilc r57)),
 q 1 (o d59 (.fad 17 r58)),
 q 1 (o d60 (.ld1 r59)),
 w (o d78 (.app 260 6 r60 r77)),
 q 2 (m d56 r0),
 q 0 (o d79 (.nilc r56)),
 q 0 (o d80 (.fad 17 r79)),
 w (o .no (.st1 r80 r78))]) (.shal k87_7 .skip))))
def z87 : List Rs := []
def f87 : AF := .mk x87 z87
def k88_1 : KF := fun c i x r h => (fun (x0 x1 : AV) =>
 tR (nic x0 h) fun v2 h3 =>
 tR (fa 0 v2 h3) fun v4 h5 =>
 tR (ld v4 h5) fun v6 h7 =>
 tR (len v6 h7) fun v8 h9 =>
 tR (b_rem x1 v8 h9) fun v10 h11 =>
 .ret (T1 v10) h11) (y0 r) (y1 r)
def k88_0 : KF := fun c i x r h => (fun (x0 x1 : AV) =>
 tR (nic x0 h) fun v2 h3 =>
 tR (fa 0 v2 h3) fun v4 h5 =>
 tR (ld v4 h5) fun v6 h7 =>
 tR (len v6 h7) fun v8 h9 =>
 tR (b_eq v8 (pi 0) h9) fun v10 h11 =>
 ifR v10 (.ret (T1 (ni 0)) h11) (tR (b_lt x1 (pi 0) h11) fun v12 h13 =>
 ifR v12 (tR (b_add x1 (pi 1) h13) fun v14 h15 =>
 tR (u_neg v14 h15) fun v16 h17 =>
 x (T7 x0 v16) h17) (x (T7 x0 x1) h13))) (y0 r) (y1 r)
def x88 : AC := (.shal k88_0 (.shal k88_1 .skip))
def z88 : List Rs := [.t .h0 .h4]
def f88 : AF := .mk x88 z88
def k89_1 : KF := fun c i x r h => (fun (x0 x1 x2 x3 : AV) =>
 tQ (o_slc 3 (.c x0) .none (.some (.c x1)) .none .nil h) fun v4 =>
 tQ (o_slc 3 (.c x0) (.some (.c x2)) .none .none .nil h) fun v5 =>
 tX (RV.toT (appV 192 3 v4 v5 h)) fun v6 h7 =>
 tR (len v6 h7) fun v8 h9 =>
 tR (o_slc 3 (.c v6) (.some (.c v8)) (.some (.c x3)) .none .nil h9) fun v10 h11 =>
 tR (o_clr [(pi 0),(pi 0),.nils] (.c v10) .nil h11) fun v12 h13 =>
 .ret (T8 v6) h13) (y0 r) (y1 r) (y2 r) (y7 r)
def k89_0 : KF := fun c i x r h => (fun (x0 x1 x2 : AV) =>
 tR (len x0 h) fun v3 h4 =>
 tR (o_slc 3 (.c x0) (.some (.c x1)) (.some (.c x2)) (.some (.c v3)) .nil h4) fun v5 h6 =>
 tR (b_eq x1 x2 h6) fun v7 h8 =>
 ifR v7 (.ret (T8 x0) h8) (tR (len x0 h8) fun v9 h10 =>
 x (T97 x0 x1 x2 v9) h10)) (y0 r) (y1 r) (y2 r)
def x89 : AC := (.shal k89_0 (.shal k89_1 .skip))
def z89 : List Rs := [.t .h0 .h6]
def f89 : AF := .mk x89 z89
def k90_5 : KF := fun c i x r h => (fun (x0 x1 x2 x3 : AV) =>
 tR (fa 0 x1 h) fun v4 h5 =>
 tR (ld v4 h5) fun v6 h7 =>
 tR (o_ldn 2 (.c x3) .nil h7) fun v8 h9 =>
 tT (c 146 [x0,v6,v8,x2] h9) fun v10 h11 =>
 .nm T5 h11) (y0 r) (y3 r) (y4 r) (y6 r)
def k90_7 : KF := fun c i x r h => (fun (x0 x1 x2 x3 : AV) =>
 tR (fa 0 x1 h) fun v4 h5 =>
 tR (ld v4 h5) fun v6 h7 =>
 tR (o_ldn 2 (.c x3) .nil h7) fun v8 h9 =>
 tT (c 147 [x0,v6,v8,x2] h9) fun v10 h11 =>
 .nm T5 h11) (y0 r) (y3 r) (y4 r) (y6 r)
def k90_9 : KF := fun c i x r h => (fun (x0 x1 x2 x3 : AV) =>
 tR (fa 0 x1 h) fun v4 h5 =>
 tR (ld v4 h5) fun v6 h7 =>
 tR (o_ldn 2 (.c x3) .nil h7) fun v8 h9 =>
 tT (c 148 [x0,v6,v8,x2] h9) fun v10 h11 =>
 .nm T5 h11) (y0 r) (y3 r) (y4 r) (y6 r)
def k90_11 : KF := fun c i x r h => (fun (x0 x1 x2 : AV) =>
 tR (b_eq x2 (pi 5) h) fun v3 h4 =>
 ifR v3 (tR (o_ldn 2 (.c x1) .nil h4) fun v5 h6 =>
 tT (c 150 [x0,v5] h6) fun v7 h8 =>
 .nm T5 h8) (.nm T5 h4)) (y0 r) (y6 r) (y29 r)
def k90_10 : KF := fun c i x r h => (fun (x0 x1 x2 x3 x4 : AV) =>
 tR (b_eq x4 (pi 4) h) fun v5 h6 =>
 x (T103 x0 x1 x2 x3 x4 v5) h6) (y0 r) (y3 r) (y4 r) (y6 r) (y29 r)
def k90_8 : KF := fun c i x r h => (fun (x0 x1 x2 x3 x4 : AV) =>
 tR (b_eq x4 (pi 3) h) fun v5 h6 =>
 x (T102 x0 x1 x2 x3 x4 v5) h6) (y0 r) (y3 r) (y4 r) (y6 r) (y29 r)
def k90_6 : KF := fun c i x r h => (fun (x0 x1 x2 x3 x4 : AV) =>
 tR (b_eq x4 (pi 2) h) fun v5 h6 =>
 x (T101 x0 x1 x2 x3 x4 v5) h6) (y0 r) (y3 r) (y4 r) (y6 r) (y29 r)
def k90_4 : KF := fun c i x r h => (fun (x0 x1 x2 x3 x4 : AV) =>
 tR (b_eq x4 (pi 1) h) fun v5 h6 =>
 x (T100 x0 x1 x2 x3 x4 v5) h6) (y0 r) (y3 r) (y4 r) (y6 r) (y29 r)
def k90_3 : KF := fun c i x r h => (fun (x0 x1 x2 x3 x4 : AV) =>
 x (T99 x0 x1 x2 x4 x3) h) (y0 r) (y3 r) (y4 r) (y5 r) (y6 r)
def k90_13 : KF := fun c i x r h => (fun (x0 x1 x2 x3 : AV) =>
 tR (b_lt x3 x2 h) fun v4 h5 =>
 ifR v4 (tR (ix 4 x1 x3 h5) fun v6 h7 =>
 tR (o_ldn 4 (.c v6) .nil h7) fun v8 h9 =>
 tR (o_alloc 227 4 (.k1 (.mk (pi 0) (pi 0) (pi 0) (.str []) .undef .undef .undef .undef .undef .undef .undef .undef .undef .undef .undef .undef)) .nil h9) fun v10 h11 =>
 tR (o_stn 4 (.c v10) (.c v8) .nil h11) fun v12 h13 =>
 tR (fa 0 v10 h13) fun v14 h15 =>
 tR (ld v14 h15) fun v16 h17 =>
 tR (fa 3 v10 h17) fun v18 h19 =>
 tR (ld v18 h19) fun v20 h21 =>
 tT (c 152 [x0,v16,v20] h21) fun v22 h23 =>
 tR (b_add x3 (pi 1) h23) fun v24 h25 =>
 .nm (T104 x0 x1 x2 v24) h25) (.ex 2 (T104 x0 x1 x2 x3) h5)) (y0 r) (y69 r) (y70 r) (y71 r)
def k90_12 : KF := fun c i x r h => (fun (x0 x1 : AV) =>
 tT (c 151 [x1] h) fun v2 h3 =>
 tR (len v2 h3) fun v4 h5 =>
 x (T104 x0 v2 v4 (pi 0)) h5) (y0 r) (y4 r)
def k90_14 : KF := fun c i x r h => (fun (x0 x1 : AV) =>
 tT (c 113 [x1] h) fun v2 h3 =>
 tT (c 154 [x0,v2] h3) fun v4 h5 =>
 .nm T5 h5) (y0 r) (y4 r)
def k90_2 : KF := fun c i x r h => (fun (x0 x1 x2 x3 x4 : AV) =>
 tT (c 107 [x2] h) fun v5 h6 =>
 tR (o_stn 2 (.c x4) (.c v5) .nil h6) fun v7 h8 =>
 tQ (nic x0 h8) fun v9 =>
 tQ (fa 8 v9 h8) fun v10 =>
 tQ (ld v10 h8) fun v11 =>
 tQ (o_ldn 2 (.c x4) .nil h8) fun v12 =>
 tX (c 145 [v11,v12] h8) fun v13 h14 =>
 x (T98 x0 x1 x2 x3 x4) h14) (y0 r) (y3 r) (y4 r) (y5 r) (y6 r)
def k90_1 : KF := fun c i x r h => (fun (x0 x1 : AV) =>
 tR (fa 2 x1 h) fun v2 h3 =>
 tR (ld v2 h3) fun v4 h5 =>
 tT (c 69 [v4] h5) fun v6 h7 =>
 tT (c 105 [v6] h7) fun v8 h9 =>
 tR (o_alloc 208 2 (.k1 (.mk (pi 0) (pi 0) .undef .undef .undef .undef .undef .undef .undef .undef .undef .undef .undef .undef .undef .undef)) .nil h9) fun v10 h11 =>
 tR (b_eq v8 (pi 6) h11) fun v12 h13 =>
 ifR v12 (.go 0 (T45 x0 x1 v6) h13) (tR (b_eq v8 (pi 7) h13) fun v14 h15 =>
 ifR v14 (.go 1 (T45 x0 x1 v6) h15) (tR (b_eq v8 (pi 8) h15) fun v16 h17 =>
 ifR v16 (.go 2 (T45 x0 x1 v6) h17) (x (T98 x0 x1 v6 v8 v10) h17)))) (y0 r) (y3 r)
def k90_0 : KF := fun c i x r h => (fun (x0 x1 : AV) =>
 tR (o_box 192 (.c x1) .nil h) fun v2 h3 =>
 x (T15 x0 v2) h3) (y0 r) (y1 r)
def x90 : AC := (.shal k90_0 (.scope (.shal k90_1 (.shal k90_2 (.seq (.shal k90_3 (.block 1 (.shal k90_4 (.cond r30 (.shal k90_5 .skip) (.shal k90_6 (.cond r38 (.shal k90_7 .skip) (.shal k90_8 (.cond r46 (.shal k90_9 .skip) (.shal k90_10 (.cond r54 (.drw [q 0 (m d60 r4),
 w (.o d61 (.call 103 [r60])),
 q 1 (m d56 r0),
 q 1 (o d57 (.fad 0 r3)),
 q 1 (o d58 (.ld1 r57)),
 q 1 (o d59 (.ldn 2 r6)),
 w (.o d62 (.call 149 [r56,r58,r59,r61]))]) (.shal k90_11 .skip))))))))))) (.seq .ret (.seq (.label 0) (.seq (.shal k90_12 (.block 2 (.loop (.shal k90_13 .skip)))) (.seq .ret (.seq (.label 1) (.seq (.drw [q 0 (m d85 r4),
 w (.o d86 (.call 103 [r85])),
 q 1 (m d82 r0),
 q 1 (o d83 (.fad 0 r3)),
 q 1 (o d84 (.ld1 r83)),
 w (.o d87 (.call 153 [r82,r84,r86]))]) (.seq .ret (.seq (.label 2) (.shal k90_14 .skip))))))))))))))
def z90 : List Rs := []
def f90 : AF := .mk x90 z90
def k91_0 : KF := fun c i x r h => (fun (x0 x1 x2 x3 : AV) =>
 tR (nic x0 h) fun v4 h5 =>
 tR (fa 0 v4 h5) fun v6 h7 =>
 tR (ld v6 h7) fun v8 h9 =>
 tR (len v8 h9) fun v10 h11 =>
 tR (b_lt v10 (pi 4000) h11) fun v12 h13 =>
 ifR v12 (tR (nic x0 h13) fun v14 h15 =>
 tR (fa 0 v14 h15) fun v16 h17 =>
 tR (ld v16 h17) fun v18 h19 =>
 tR (o_build [(pi 0),(pi 0),.nils] [.mk 0 1 (.c x1),.mk 1 1 (.c x2),.mk 2 1 (.c x3)] .nil h19) fun v20 h21 =>
 tR (o_bslice 192 3 1 [(pi 0),(pi 0),.nils] [.mk 0 3 (.c v20)] .nil h21) fun v22 h23 =>
 tR (appV 192 3 v18 v22 h23) fun v24 h25 =>
 tR (nic x0 h25) fun v26 h27 =>
 tR (fa 0 v26 h27) fun v28 h29 =>
 tR (sto v28 v24 h29) fun v30 h31 =>
 .nm T5 h31) (.nm T5 h13)) (y0 r) (y1 r) (y2 r) (y3 r)
def x91 : AC := (.shal k91_0 .skip)
def z91 : List Rs := []
def f91 : AF := .mk x91 z91
def k95_1 : KF := fun c i x r h => (fun (x0 x1 x2 : AV) =>
 tR (b_eq x2 (pi 0) h) fun v3 h4 =>
 ifR v3 (.ret T5 h4) (tR (nic x0 h4) fun v5 h6 =>
 tR (fa 0 v5 h6) fun v7 h8 =>
 tR (ld v7 h8) fun v9 h10 =>
 tR (cK (.toInt .u8) x1 h10) fun v11 h12 =>
 tR (o_bslice 5 1 1 [(.int .u8 (.ofNat 0))] [.mk 0 1 (.c v11)] .nil h12) fun v13 h14 =>
 tR (appV 5 1 v9 v13 h14) fun v15 h16 =>
 tR (nic x0 h16) fun v17 h18 =>
 tR (fa 0 v17 h18) fun v19 h20 =>
 tR (sto v19 v15 h20) fun v21 h22 =>
 tR (bK .shr x1 (.int .u64 (.ofNat 8)) h22) fun v23 h24 =>
 tR (b_sub x2 (pi 1) h24) fun v25 h26 =>
 .go 0 (T37 x0 v23 v25) h26)) (y0 r) (y1 r) (y6 r)
def k95_0 : KF := fun c i x r h => (fun (x0 x1 x2 : AV) =>
 x (T37 x0 x1 x2) h) (y0 r) (y1 r) (y2 r)
def x95 : AC := (.scope (.shal k95_0 (.seq (.label 0) (.shal k95_1 .skip))))
def z95 : List Rs := []
def f95 : AF := .mk x95 z95
def k96_0 : KF := fun c i x r h => (fun (x0 : AV) =>
 tR (bK (.isnil .s) x0 .nils h) fun v1 h2 =>
 ifR v1 (.ret (T14 .nils) h2) (tR (o_bslice 5 1 0 [] [] .nil h2) fun v3 h4 =>
 tR (appV 5 1 v3 x0 h4) fun v5 h6 =>
 .ret (T14 v5) h6)) (y0 r)
def x96 : AC := (.shal k96_0 .skip)
def z96 : List Rs := [.t .h0 .h2]
def f96 : AF := .mk x96 z96
def k101_1 : KF := fun c i x r h => (fun (x0 x1 : AV) =>
 tR (nic x0 h) fun v2 h3 =>
 tR (fa 0 v2 h3) fun v4 h5 =>
 tR (ld v4 h5) fun v6 h7 =>
 tR (lkp (.one .i) (.str []) true v6 x1 h7) fun v8 h9 =>
 tR (o_ext 0 (.c v8) .nil h9) fun v10 h11 =>
 tR (o_ext 1 (.c v8) .nil h11) fun v12 h13 =>
 tR (u_not v12 h13) fun v14 h15 =>
 ifR v14 (.ret (T14 x1) h15) (tR (b_add x1 (pi 1) h15) fun v16 h17 =>
 .nm (T15 x0 v16) h17)) (y0 r) (y3 r)
def k101_0 : KF := fun c i x r h => (fun (x0 : AV) =>
 tR (nic x0 h) fun v1 h2 =>
 tR (fa 1 v1 h2) fun v3 h4 =>
 tR (ld v3 h4) fun v5 h6 =>
 x (T15 x0 v5) h6) (y0 r)
def x101 : AC := (.shal k101_0 (.block 0 (.loop (.shal k101_1 .skip))))
def z101 : List Rs := [.t .h0 .h2]
def f101 : AF := .mk x101 z101
def k102_2 : KF := fun c i x r h => (fun (x0 x1 x2 x3 : AV) =>
 tR (b_add x3 (pi 1) h) fun v4 h5 =>
 .nm (T105 x0 x1 x2 v4) h5) (y0 r) (y16 r) (y17 r) (y18 r)
def k102_1 : KF := fun c i x r h => (fun (x0 x1 x2 x3 : AV) =>
 tR (b_lt x3 x2 h) fun v4 h5 =>
 ifR v4 (tR (ix 4 x1 x3 h5) fun v6 h7 =>
 tR (o_ldn 4 (.c v6) .nil h7) fun v8 h9 =>
 tR (o_alloc 227 4 (.k1 (.mk (pi 0) (pi 0) (pi 0) (.str []) .undef .undef .undef .undef .undef .undef .undef .undef .undef .undef .undef .undef)) .nil h9) fun v10 h11 =>
 tR (o_stn 4 (.c v10) (.c v8) .nil h11) fun v12 h13 =>
 tQ (nic x0 h13) fun v14 =>
 tQ (fa 9 v14 h13) fun v15 =>
 tQ (ld v15 h13) fun v16 =>
 tQ (fa 0 v10 h13) fun v17 =>
 tQ (ld v17 h13) fun v18 =>
 tX (c 162 [v16,v18] h13) fun v19 h20 =>
 tQ (o_ext 0 (.c v19) .nil h20) fun v21 =>
 tQ (o_ext 1 (.c v19) .nil h20) fun v22 =>
 tR (u_not v22 h20) fun v23 h24 =>
 ifR v23 (.ret (T14 (.bool true)) h24) (x (T105 x0 x1 x2 x3) h24)) (.ex 0 (T13 x0) h5)) (y0 r) (y16 r) (y17 r) (y18 r)
def k102_0 : KF := fun c i x r h => (fun (x0 : AV) =>
 x (T13 x0) h) (y0 r)
def x102 : AC := (.shal k102_0 (.seq (.seq (.drw [q 0 (m d11 r0),
 q 0 (o d12 (.nilc r11)),
 q 0 (o d13 (.fad 9 r12)),
 q 0 (o d14 (.ld1 r13)),
 w (.o d15 (.call 101 [r14])),
 q 1 (m d7 r0),
 q 1 (o d8 (.nilc r7)),
 q 1 (o d9 (.fad 7 r8)),
 q 1 (o d10 (.ld1 r9)),
 w (.o d16 (.call 118 [r10,r15])),
 q 0 (o d17 (.len r16)),
 q 2 (m d18 a0)]) (.block 0 (.loop (.shal k102_1 (.shal k102_2 .skip))))) (.seq (.drw [q 0 (m d39 r0),
 q 0 (o d40 (.nilc r39)),
 q 0 (o d41 (.fad 9 r40)),
 q 0 (o d42 (.ld1 r41)),
 w (.o d43 (.call 101 [r42])),
 q 1 (m d35 r0),
 q 1 (o d36 (.nilc r35)),
 q 1 (o d37 (.fad 10 r36)),
 q 1 (o d38 (.ld1 r37)),
 q 0 (o d44 (.bin .gt r38 r43)),
 q 0 (m d2 r44)]) .ret)))
def z102 : List Rs := [.t .h0 .h2]
def f102 : AF := .mk x102 z102
def k103_0 : KF := fun c i x r h => (fun (x0 : AV) =>
 tT (c 163 [x0,(pi 8)] h) fun v1 h2 =>
 tR (cK (.toInt .i64) v1 h2) fun v3 h4 =>
 .ret (T14 v3) h4) (y0 r)
def x103 : AC := (.shal k103_0 .skip)
def z103 : List Rs := [.t .h0 .h2]
def f103 : AF := .mk x103 z103
def k105_0 : KF := fun c i x r h => (fun (x0 : AV) =>
 tT (c 163 [x0,(pi 1)] h) fun v1 h2 =>
 tR (cK (.toInt .i64) v1 h2) fun v3 h4 =>
 .ret (T14 v3) h4) (y0 r)
def x105 : AC := (.shal k105_0 .skip)
def z105 : List Rs := [.t .h0 .h2]
def f105 : AF := .mk x105 z105
def k106_0 : KF := fun c i x r h => (fun (x0 x1 x2 : AV) =>
 tR (o_box 208 (.c x1) .nil h) fun v3 h4 =>
 tQ (nic x0 h4) fun v5 =>
 tQ (fa 0 v5 h4) fun v6 =>
 tQ (o_ldn 2 (.c v6) .nil h4) fun v7 =>
 tQ (o_ldn 2 (.c v3) .nil h4) fun v8 =>
 tX (c 166 [v7,v8] h4) fun v9 h10 =>
 tQ (u_not v9 h10) fun v11 =>
 ifR v11 (.ret (T12 (.bool false) .nils) h10) (tR (o_ldn 2 (.c v3) .nil h10) fun v12 h13 =>
 tR (nic x0 h13) fun v14 h15 =>
 tR (fa 0 v14 h15) fun v16 h17 =>
 tR (o_stn 2 (.c v16) (.c v12) .nil h17) fun v18 h19 =>
 tT (c 118 [x0,x2] h19) fun v20 h21 =>
 x (T12 (.bool true) v20) h21)) (y0 r) (y1 r) (y2 r)
def x106 : AC := (.shal k106_0 .ret)
def z106 : List Rs := [.t .h0 .h6,.t .h0 .h7]
def f106 : AF := .mk x106 z106
def k107_0 : KF := fun c i x r h => (fun (x0 : AV) =>
 tR (o_alloc 208 2 (.k1 (.mk (pi 0) (pi 0) .undef .undef .undef .undef .undef .undef .undef .undef .undef .undef .undef .undef .undef .undef)) .nil h) fun v1 h2 =>
 tT (c 103 [x0] h2) fun v3 h4 =>
 tT (c 103 [x0] h4) fun v5 h6 =>
 tR (o_build [(pi 0),(pi 0)] [.mk 0 1 (.c v3),.mk 1 1 (.c v5)] .nil h6) fun v7 h8 =>
 tR (o_stn 2 (.c v1) (.c v7) .nil h8) fun v9 h10 =>
 .ret (T14 v1) h10) (y0 r)
def x107 : AC := (.shal k107_0 .skip)
def z107 : List Rs := [.agg 2 .h0 .h2]
def f107 : AF := .mk x107 z107
def k108_0 : KF := fun c i x r h => (fun (x0 x1 : AV) =>
 tR (nic x0 h) fun v2 h3 =>
 tR (fa 7 v2 h3) fun v4 h5 =>
 tR (ld v4 h5) fun v6 h7 =>
 tT (c 167 [v6,x1] h7) fun v8 h9 =>
 tR (o_ext 0 (.c v8) .nil h9) fun v10 h11 =>
 tR (o_ext 1 (.c v8) .nil h11) fun v12 h13 =>
 tR (o_alloc 227 4 (.k1 (.mk (pi 0) (pi 0) (pi 0) (.str []) .undef .undef .undef .undef .undef .undef .undef .undef .undef .undef .undef .undef)) .nil h13) fun v14 h15 =>
 tR (o_stn 4 (.c v14) (.c v10) .nil h15) fun v16 h17 =>
 tR (fa 3 v14 h17) fun v18 h19 =>
 tR (ld v18 h19) fun v20 h21 =>
 .ret (T1 v20) h21) (y0 r) (y1 r)
def x108 : AC := (.shal k108_0 .skip)
def z108 : List Rs := [.t .h0 .h4]
def f108 : AF := .mk x108 z108
def k109_2 : KF := fun c i x r h => (fun (x0 x1 x2 x3 : AV) =>
 ifR x3 (.nm (T45 x0 x1 x2) h) (.ex 0 (T45 x0 x1 x2) h)) (y0 r) (y3 r) (y4 r) (y15 r)
def k109_3 : KF := fun c i x r h => (fun (x0 x1 x2 : AV) =>
 tT (c 169 [x0,(pi 65535)] h) fun v3 h4 =>
 tR (o_apps 5 (.c x1) (.c v3) .nil h4) fun v5 h6 =>
 .nm (T45 x0 v5 x2) h6) (y0 r) (y3 r) (y4 r)
def k109_1 : KF := fun c i x r h => (fun (x0 x1 : AV) =>
 tT (c 103 [x0] h) fun v2 h3 =>
 x (T45 x0 x1 v2) h3) (y0 r) (y3 r)
def k109_4 : KF := fun c i x r h => (fun (x0 : AV) =>
 tR (cK .b2s x0 h) fun v1 h2 =>
 .ret (T14 v1) h2) (y3 r)
def k109_0 : KF := fun c i x r h => (fun (x0 : AV) =>
 x (T15 x0 .nils) h) (y0 r)
def x109 : AC := (.shal k109_0 (.seq (.shal k109_1 (.block 0 (.loop (.seq (.seq (.ops [m d7 r3,
 o d8 (.len r7),
 m d9 r4,
 o d10 (.bin .lt r8 r9),
 m d11 r10,
 .g .h0 .hb true d12 (.op (.mv r0)),
 .g .h0 .hb true d13 (.call 168 [r12]),
 .g .h0 .hb true d14 (.op (.un .not r13)),
 o d15 (.pick r11 r14 (.c (.bool false)))]) (.shal k109_2 .skip)) (.shal k109_3 .skip))))) (.shal k109_4 .skip)))
def z109 : List Rs := [.t .h0 .h2]
def f109 : AF := .mk x109 z109
def k111_1 : KF := fun c i x r h => (fun (x0 x1 x2 : AV) =>
 ifR x2 (.ret (T8 (.bool false)) h) (.nm (T7 x0 x1) h)) (y0 r) (y1 r) (y23 r)
def k111_2 : KF := fun c i x r h => (fun (x0 x1 : AV) =>
 tR (nic x0 h) fun v2 h3 =>
 tR (fa 10 v2 h3) fun v4 h5 =>
 tR (ld v4 h5) fun v6 h7 =>
 tR (b_add x1 (pi 1) h7) fun v8 h9 =>
 tR (maxV false [v6,v8] h9) fun v10 h11 =>
 tR (nic x0 h11) fun v12 h13 =>
 tR (fa 10 v12 h13) fun v14 h15 =>
 tR (sto v14 v10 h15) fun v16 h17 =>
 .ret (T8 (.bool true)) h17) (y0 r) (y1 r)
def k111_0 : KF := fun c i x r h => (fun (x0 x1 x2 : AV) =>
 x (T93 x0 x1 x2) h) (y0 r) (y1 r) (y2 r)
def x111 : AC := (.shal k111_0 (.seq (.seq (.ops [m d7 r1,
 m d8 r0,
 o d9 (.nilc r8),
 o d10 (.fad 13 r9),
 o d11 (.fad 0 r10),
 o d12 (.ld1 r11),
 o d13 (.bin .lt r7 r12),
 m d14 r13,
 .g .h0 .he false d15 (.op (.mv r0)),
 .g .h0 .he false d16 (.op (.nilc r15)),
 .g .h0 .he false d17 (.op (.fad 9 r16)),
 .g .h0 .he false d18 (.op (.ld1 r17)),
 .g .h0 .he false d19 (.op (.mv r1)),
 .g .h0 .he false d20 (.op (.mv r2)),
 .g .h0 .he false d21 (.call 170 [r18,r19,r20]),
 .g .h0 .he false d22 (.op (.un .not r21)),
 o d23 (.pick r14 (.c (.bool true)) r22)]) (.shal k111_1 .skip)) (.shal k111_2 .skip)))
def z111 : List Rs := [.t .h0 .h6]
def f111 : AF := .mk x111 z111
def k114_0 : KF := fun c i x r h => (fun (x0 x1 : AV) =>
 tT (c 56 [] h) fun v2 h3 =>
 tT (c 76 [v2,x0] h3) fun v4 h5 =>
 tT (AV.onFn x1 (fun f l => c f (List.append [v2] l) h5) (.err 202)) fun v6 h7 =>
 tT (c 58 [v2] h7) fun v8 h9 =>
 tT (c 174 [v8] h9) fun v10 h11 =>
 .ret (T1 v10) h11) (y0 r) (y1 r)
def x114 : AC := (.shal k114_0 .skip)
def z114 : List Rs := [.t .h0 .h4]
def f114 : AF := .mk x114 z114
def k115_0 : KF := fun c i x r h => (fun (x0 x1 : AV) =>
 tR (ld x1 h) fun v2 h3 =>
 tR (nic v2 h3) fun v4 h5 =>
 tR (fa 6 v4 h5) fun v6 h7 =>
 tR (ld v6 h7) fun v8 h9 =>
 tT (c 57 [x0,v8] h9) fun v10 h11 =>
 .nm T5 h11) (y0 r) (y1 r)
def x115 : AC := (.shal k115_0 .skip)
def z115 : List Rs := []
def f115 : AF := .mk x115 z115
def k118_4 : KF := fun c i x r h => (fun (x0 x1 x2 : AV) =>
 tR (b_add x2 (pi 1) h) fun v3 h4 =>
 .nm (T74 x0 x1 v3) h4) (y0 r) (y5 r) (y6 r)
def k118_3 : KF := fun c i x r h => (fun (x0 x1 x2 : AV) =>
 tR (nic x0 h) fun v3 h4 =>
 tR (fa 2 v3 h4) fun v5 h6 =>
 tR (ld v5 h6) fun v7 h8 =>
 tR (lkp (.one .i) (.agg [(pi 0),(pi 0),(pi 0),(.str [])]) true v7 x2 h8) fun v9 h10 =>
 tR (o_ext 0 (.c v9) .nil h10) fun v11 h12 =>
 tR (o_ext 1 (.c v9) .nil h12) fun v13 h14 =>
 tR (o_alloc 227 4 (.k1 (.mk (pi 0) (pi 0) (pi 0) (.str []) .undef .undef .undef .undef .undef .undef .undef .undef .undef .undef .undef .undef)) .nil h14) fun v15 h16 =>
 tR (o_stn 4 (.c v15) (.c v11) .nil h16) fun v17 h18 =>
 ifR v13 (tR (o_ldn 4 (.c v15) .nil h18) fun v19 h20 =>
 tR (o_bslice 227 4 1 [(pi 0),(pi 0),(pi 0),(.str [])] [.mk 0 4 (.c v19)] .nil h20) fun v21 h22 =>
 tR (appV 227 4 x1 v21 h22) fun v23 h24 =>
 x (T74 x0 v23 x2) h24) (x (T74 x0 x1 x2) h18)) (y0 r) (y5 r) (y6 r)
def k118_2 : KF := fun c i x r h => (fun (x0 x1 x2 : AV) =>
 tR (nic x0 h) fun v3 h4 =>
 tR (fa 3 v3 h4) fun v5 h6 =>
 tR (ld v5 h6) fun v7 h8 =>
 tR (b_lt x2 v7 h8) fun v9 h10 =>
 ifR v9 (x (T74 x0 x1 x2) h10) (.ex 0 (T40 x1) h10)) (y0 r) (y5 r) (y6 r)
def k118_1 : KF := fun c i x r h => (fun (x0 x1 x2 : AV) =>
 tR (maxV false [x1,(pi 0)] h) fun v3 h4 =>
 x (T74 x0 x2 v3) h4) (y0 r) (y1 r) (y5 r)
def k118_5 : KF := fun c i x r h => (fun (x0 : AV) =>
 .ret (T1 x0) h) (y5 r)
def k118_0 : KF := fun c i x r h => (fun (x0 x1 : AV) =>
 x (T2 x0 x1 .nils) h) (y0 r) (y1 r)
def x118 : AC := (.shal k118_0 (.seq (.shal k118_1 (.block 0 (.loop (.shal k118_2 (.shal k118_3 (.shal k118_4 .skip)))))) (.shal k118_5 .skip)))
def z118 : List Rs := [.t .h0 .h4]
def f118 : AF := .mk x118 z118
def k120_0 : KF := fun c i x r h => (fun (x0 x1 : AV) =>
 tR (o_box 208 (.c x1) .nil h) fun v2 h3 =>
 tR (fa 0 v2 h3) fun v4 h5 =>
 tR (ld v4 h5) fun v6 h7 =>
 tT (c 57 [x0,v6] h7) fun v8 h9 =>
 tR (fa 1 v2 h9) fun v10 h11 =>
 tR (ld v10 h11) fun v12 h13 =>
 tT (c 57 [x0,v12] h13) fun v14 h15 =>
 .nm T5 h15) (y0 r) (y1 r)
def x120 : AC := (.shal k120_0 .skip)
def z120 : List Rs := []
def f120 : AF := .mk x120 z120
def k121_1 : KF := fun c i x r h => (fun (x0 x1 : AV) =>
 tR (lent x1 h) fun v2 h3 =>
 tR (b_gt v2 (pi 0) h3) fun v4 h5 =>
 ifR v4 (tR (lent x1 h5) fun v6 h7 =>
 tR (maxV true [v6,(pi 65535)] h7) fun v8 h9 =>
 tR (o_slcs (.c x1) .none (.some (.c v8)) .nil h9) fun v10 h11 =>
 tT (c 75 [x0,v10] h11) fun v12 h13 =>
 tR (o_slcs (.c x1) (.some (.c v8)) .none .nil h13) fun v14 h15 =>
 .nm (T7 x0 v14) h15) (.ex 0 (T7 x0 x1) h5)) (y0 r) (y1 r)
def k121_0 : KF := fun c i x r h => (fun (x0 x1 : AV) =>
 tR (lent x1 h) fun v2 h3 =>
 tT (c 57 [x0,v2] h3) fun v4 h5 =>
 x (T7 x0 x1) h5) (y0 r) (y1 r)
def x121 : AC := (.shal k121_0 (.block 0 (.loop (.shal k121_1 .skip))))
def z121 : List Rs := []
def f121 : AF := .mk x121 z121
def k122_0 : KF := fun c i x r h => (fun (x0 x1 : AV) =>
 tR (ld x1 h) fun v2 h3 =>
 tR (nic v2 h3) fun v4 h5 =>
 tR (fa 7 v4 h5) fun v6 h7 =>
 tR (ld v6 h7) fun v8 h9 =>
 tT (c 123 [v8] h9) fun v10 h11 =>
 tT (c 120 [x0,v10] h11) fun v12 h13 =>
 .nm T5 h13) (y0 r) (y1 r)
def x122 : AC := (.shal k122_0 .skip)
def z122 : List Rs := []
def f122 : AF := .mk x122 z122
def k123_0 : KF := fun c i x r h => (fun (x0 : AV) =>
 tR (o_alloc 208 2 (.k1 (.mk (pi 0) (pi 0) .undef .undef .undef .undef .undef .undef .undef .undef .undef .undef .undef .undef .undef .undef)) .nil h) fun v1 h2 =>
 tR (nic x0 h2) fun v3 h4 =>
 tR (fa 0 v3 h4) fun v5 h6 =>
 tR (o_ldn 2 (.c v5) .nil h6) fun v7 h8 =>
 tR (o_stn 2 (.c v1) (.c v7) .nil h8) fun v9 h10 =>
 .ret (T14 v1) h10) (y0 r)
def x123 : AC := (.shal k123_0 .skip)
def z123 : List Rs := [.agg 2 .h0 .h2]
def f123 : AF := .mk x123 z123
def k124_4 : KF := fun c i x r h => (fun (x0 x1 x2 : AV) =>
 tR (b_add x2 (pi 1) h) fun v3 h4 =>
 .nm (T74 x0 x1 v3) h4) (y0 r) (y5 r) (y6 r)
def k124_3 : KF := fun c i x r h => (fun (x0 x1 x2 : AV) =>
 tR (nic x0 h) fun v3 h4 =>
 tR (fa 9 v3 h4) fun v5 h6 =>
 tR (ld v5 h6) fun v7 h8 =>
 tT (c 162 [v7,x2] h8) fun v9 h10 =>
 tR (o_ext 0 (.c v9) .nil h10) fun v11 h12 =>
 tR (o_ext 1 (.c v9) .nil h12) fun v13 h14 =>
 ifR v13 (tR (o_build [(pi 0),(pi 0),(pi 0),(.str [])] [.mk 0 1 (.c x2),.mk 3 1 (.c v11)] .nil h14) fun v15 h16 =>
 tR (o_bslice 227 4 1 [(pi 0),(pi 0),(pi 0),(.str [])] [.mk 0 4 (.c v15)] .nil h16) fun v17 h18 =>
 tR (appV 227 4 x1 v17 h18) fun v19 h20 =>
 x (T74 x0 v19 x2) h20) (x (T74 x0 x1 x2) h14)) (y0 r) (y5 r) (y6 r)
def k124_2 : KF := fun c i x r h => (fun (x0 x1 x2 : AV) =>
 tR (nic x0 h) fun v3 h4 =>
 tR (fa 10 v3 h4) fun v5 h6 =>
 tR (ld v5 h6) fun v7 h8 =>
 tR (b_lt x2 v7 h8) fun v9 h10 =>
 ifR v9 (x (T74 x0 x1 x2) h10) (.ex 0 (T40 x1) h10)) (y0 r) (y5 r) (y6 r)
def k124_1 : KF := fun c i x r h => (fun (x0 x1 x2 : AV) =>
 tR (nic x0 h) fun v3 h4 =>
 tR (fa 13 v3 h4) fun v5 h6 =>
 tR (fa 0 v5 h6) fun v7 h8 =>
 tR (ld v7 h8) fun v9 h10 =>
 tR (maxV false [x1,v9] h10) fun v11 h12 =>
 x (T74 x0 x2 v11) h12) (y0 r) (y1 r) (y5 r)
def k124_5 : KF := fun c i x r h => (fun (x0 : AV) =>
 .ret (T1 x0) h) (y5 r)
def k124_0 : KF := fun c i x r h => (fun (x0 x1 : AV) =>
 x (T2 x0 x1 .nils) h) (y0 r) (y1 r)
def x124 : AC := (.shal k124_0 (.seq (.shal k124_1 (.block 0 (.loop (.shal k124_2 (.shal k124_3 (.shal k124_4 .skip)))))) (.shal k124_5 .skip)))
def z124 : List Rs := [.t .h0 .h4]
def f124 : AF := .mk x124 z124
def k125_0 : KF := fun c i x r h => (fun (x0 x1 : AV) =>
 tR (nic x0 h) fun v2 h3 =>
 tR (fa 7 v2 h3) fun v4 h5 =>
 tR (ld v4 h5) fun v6 h7 =>
 tT (c 167 [v6,x1] h7) fun v8 h9 =>
 tR (o_ext 0 (.c v8) .nil h9) fun v10 h11 =>
 tR (o_ext 1 (.c v8) .nil h11) fun v12 h13 =>
 tR (o_alloc 227 4 (.k1 (.mk (pi 0) (pi 0) (pi 0) (.str []) .undef .undef .undef .undef .undef .undef .undef .undef .undef .undef .undef .undef)) .nil h13) fun v14 h15 =>
 tR (o_stn 4 (.c v14) (.c v10) .nil h15) fun v16 h17 =>
 .ret (T1 v12) h17) (y0 r) (y1 r)
def x125 : AC := (.shal k125_0 .skip)
def z125 : List Rs := [.t .h0 .h4]
def f125 : AF := .mk x125 z125
def k127_0 : KF := fun c i x r h => (fun (x0 x1 : AV) =>
 tR (len x1 h) fun v2 h3 =>
 tR (b_gt v2 (pi 4194304) h3) fun v4 h5 =>
 ifR v4 (.ret (T1 (pi 13)) h5) (tT (c 96 [x1] h5) fun v6 h7 =>
 tR (nic x0 h7) fun v8 h9 =>
 tR (fa 0 v8 h9) fun v10 h11 =>
 tR (sto v10 v6 h11) fun v12 h13 =>
 tR (nic x0 h13) fun v14 h15 =>
 tR (fa 0 v14 h15) fun v16 h17 =>
 tR (ld v16 h17) fun v18 h19 =>
 tR (len v18 h19) fun v20 h21 =>
 tR (nic x0 h21) fun v22 h23 =>
 tR (fa 1 v22 h23) fun v24 h25 =>
 tR (sto v24 v20 h25) fun v26 h27 =>
 .ret (T1 (pi 0)) h27)) (y0 r) (y1 r)
def x127 : AC := (.shal k127_0 .skip)
def z127 : List Rs := [.t .h0 .h4]
def f127 : AF := .mk x127 z127
def k128_0 : KF := fun c i x r h => (fun (x0 : AV) =>
 tR (nic x0 h) fun v1 h2 =>
 tR (fa 1 v1 h2) fun v3 h4 =>
 tR (ld v3 h4) fun v5 h6 =>
 .ret (T14 v5) h6) (y0 r)
def x128 : AC := (.shal k128_0 .skip)
def z128 : List Rs := [.t .h0 .h2]
def f128 : AF := .mk x128 z128
def k129_3 : KF := fun c i x r h => (fun (x0 x1 x2 : AV) =>
 tR (nic x0 h) fun v3 h4 =>
 tR (fa 1 v3 h4) fun v5 h6 =>
 tR (ld v5 h6) fun v7 h8 =>
 tR (b_add v7 (pi 1) h8) fun v9 h10 =>
 tR (nic x0 h10) fun v11 h12 =>
 tR (fa 1 v11 h12) fun v13 h14 =>
 tR (sto v13 v9 h14) fun v15 h16 =>
 .nm (T45 x0 x1 x2) h16) (y0 r) (y3 r) (y4 r)
def k129_2 : KF := fun c i x r h => (fun (x0 x1 x2 : AV) =>
 tR (nic x0 h) fun v3 h4 =>
 tR (fa 1 v3 h4) fun v5 h6 =>
 tR (ld v5 h6) fun v7 h8 =>
 tR (b_lt v7 x2 h8) fun v9 h10 =>
 ifR v9 (x (T45 x0 x1 x2) h10) (.ex 0 (T21 x1) h10)) (y0 r) (y3 r) (y4 r)
def k129_1 : KF := fun c i x r h => (fun (x0 x1 : AV) =>
 tT (c 101 [x0] h) fun v2 h3 =>
 x (T45 x0 x1 v2) h3) (y0 r) (y3 r)
def k129_4 : KF := fun c i x r h => (fun (x0 : AV) =>
 .ret (T14 x0) h) (y3 r)
def k129_0 : KF := fun c i x r h => (fun (x0 : AV) =>
 x (T15 x0 .nils) h) (y0 r)
def x129 : AC := (.shal k129_0 (.seq (.shal k129_1 (.block 0 (.loop (.shal k129_2 (.seq (.block 1 (.drw [q 0 (m d21 r0),
 q 0 (o d22 (.nilc r21)),
 q 0 (o d23 (.fad 0 r22)),
 q 0 (o d24 (.ld1 r23)),
 q 0 (m d25 r0),
 q 0 (o d26 (.nilc r25)),
 q 0 (o d27 (.fad 1 r26)),
 q 0 (o d28 (.ld1 r27)),
 q 0 (o d29 (.lkp (.one .i) (.str []) false r24 r28)),
 w (o d30 (.bslice 9 1 1 [(.str [])] [.mk 0 1 r29])),
 q 1 (m d20 r3),
 w (o d31 (.app 9 1 r20 r30)),
 q 0 (m d3 r31)])) (.shal k129_3 .skip)))))) (.shal k129_4 .skip)))
def z129 : List Rs := [.t .h0 .h2]
def f129 : AF := .mk x129 z129
def k130_1 : KF := fun c i x r h => (fun (x0 x1 x2 x3 x4 x5 : AV) =>
 ifR x5 (.ret T5 h) (.nm (T106 x0 x1 x2 x3 x4) h)) (y0 r) (y1 r) (y6 r) (y7 r) (y8 r) (y10 r)
def k130_5 : KF := fun c i x r h => (fun (x0 x1 x2 : AV) =>
 tQ (nic x0 h) fun v3 =>
 tQ (fa 0 v3 h) fun v4 =>
 tQ (ld v4 h) fun v5 =>
 tQ (nic v5 h) fun v6 =>
 tQ (fa 2 v6 h) fun v7 =>
 tQ (ld v7 h) fun v8 =>
 tQ (nic x0 h) fun v9 =>
 tQ (fa 1 v9 h) fun v10 =>
 tQ (ld v10 h) fun v11 =>
 tQ (nic x0 h) fun v12 =>
 tQ (fa 12 v12 h) fun v13 =>
 tQ (ld v13 h) fun v14 =>
 tQ (b_sub v14 (pi 1) h) fun v15 =>
 tQ (nic v8 h) fun v16 =>
 tX (i 2 v8 [v11,v15,x1,x2] h) fun v17 h18 =>
 .nm T5 h18) (y0 r) (y8 r) (y12 r)
def k130_4 : KF := fun c i x r h => (fun (x0 x1 x2 x3 x4 : AV) =>
 tQ (nic x0 h) fun v5 =>
 tQ (fa 11 v5 h) fun v6 =>
 tQ (ld v6 h) fun v7 =>
 tQ (o_ldn 3 (.c x2) .nil h) fun v8 =>
 tQ (nic x0 h) fun v9 =>
 tQ (fa 12 v9 h) fun v10 =>
 tQ (ld v10 h) fun v11 =>
 tQ (o_build [(pi 0),(pi 0)] [.mk 0 1 (.c x1),.mk 1 1 (.c v11)] .nil h) fun v12 =>
 tX (RV.toT (mup (.agg [.i,.i,.i]) v7 v8 v12 h)) fun v13 h14 =>
 tR (nic x0 h14) fun v15 h16 =>
 tR (fa 12 v15 h16) fun v17 h18 =>
 tR (ld v17 h18) fun v19 h20 =>
 tR (b_add v19 (pi 1) h20) fun v21 h22 =>
 tR (nic x0 h22) fun v23 h24 =>
 tR (fa 12 v23 h24) fun v25 h26 =>
 tR (sto v25 v21 h26) fun v27 h28 =>
 x (T109 x0 x3 x4) h28) (y0 r) (y1 r) (y6 r) (y8 r) (y12 r)
def k130_3 : KF := fun c i x r h => (fun (x0 x1 x2 x3 x4 x5 x6 : AV) =>
 ifR x3 (tQ (nic x0 h) fun v7 =>
 tQ (fa 11 v7 h) fun v8 =>
 tQ (ld v8 h) fun v9 =>
 tQ (o_ldn 3 (.c x2) .nil h) fun v10 =>
 tQ (o_build [(pi 0),(pi 0)] [.mk 0 1 (.c x1),.mk 1 1 (.c (ni 0))] .nil h) fun v11 =>
 tX (RV.toT (mup (.agg [.i,.i,.i]) v9 v10 v11 h)) fun v12 h13 =>
 ifR x6 (tQ (nic x0 h13) fun v14 =>
 tQ (fa 0 v14 h13) fun v15 =>
 tQ (ld v15 h13) fun v16 =>
 tQ (nic v16 h13) fun v17 =>
 tQ (fa 2 v17 h13) fun v18 =>
 tQ (ld v18 h13) fun v19 =>
 tQ (nic x0 h13) fun v20 =>
 tQ (fa 1 v20 h13) fun v21 =>
 tQ (ld v21 h13) fun v22 =>
 tQ (nic x0 h13) fun v23 =>
 tQ (fa 12 v23 h13) fun v24 =>
 tQ (ld v24 h13) fun v25 =>
 tQ (fa 4 x5 h13) fun v26 =>
 tQ (ld v26 h13) fun v27 =>
 tQ (nic v19 h13) fun v28 =>
 tX (i 1 v19 [v22,v25,v27] h13) fun v29 h30 =>
 .ret T5 h30) (.ret T5 h13)) (x (T108 x0 x1 x2 x4 x6) h)) (y0 r) (y1 r) (y6 r) (y7 r) (y8 r) (y11 r) (y12 r)
def k130_2 : KF := fun c i x r h => (fun (x0 x1 x2 x3 x4 : AV) =>
 tR (o_ldn 3 (.c x2) .nil h) fun v5 h6 =>
 tT (c 181 [x0,v5] h6) fun v7 h8 =>
 tR (o_ext 0 (.c v7) .nil h8) fun v9 h10 =>
 tR (o_ext 1 (.c v7) .nil h10) fun v11 h12 =>
 tR (o_alloc 260 6 (.k1 (.mk (pi 0) (pi 0) (pi 0) (.bool false) (.str []) (pi 0) .undef .undef .undef .undef .undef .undef .undef .undef .undef .undef)) .nil h12) fun v13 h14 =>
 tR (o_stn 6 (.c v13) (.c v9) .nil h14) fun v15 h16 =>
 tR (nic x0 h16) fun v17 h18 =>
 tR (fa 22 v17 h18) fun v19 h20 =>
 tR (sto v19 (pi 0) h20) fun v21 h22 =>
 x (T107 x0 x1 x2 x3 x4 v13 v11) h22) (y0 r) (y1 r) (y6 r) (y7 r) (y8 r)
def k130_0 : KF := fun c i x r h => (fun (x0 x1 x2 : AV) =>
 tT (c 180 [x2] h) fun v3 h4 =>
 tR (o_ext 0 (.c v3) .nil h4) fun v5 h6 =>
 tR (o_ext 1 (.c v3) .nil h6) fun v7 h8 =>
 tR (o_ext 2 (.c v3) .nil h8) fun v9 h10 =>
 tR (o_alloc 258 3 (.k1 (.mk (pi 0) (pi 0) (pi 0) .undef .undef .undef .undef .undef .undef .undef .undef .undef .undef .undef .undef .undef)) .nil h10) fun v11 h12 =>
 tR (o_stn 3 (.c v11) (.c v5) .nil h12) fun v13 h14 =>
 x (T106 x0 x1 v11 v7 v9) h14) (y0 r) (y1 r) (y2 r)
def x130 : AC := (.shal k130_0 (.seq (.seq (.drw [w (o d9 (.alloc 268 2 (.k1 (.mk (pi 0) (pi 0) .undef .undef .undef .undef .undef .undef .undef .undef .undef .undef .undef .undef .undef .undef)))),
 q 1 (m d20 r0),
 q 1 (o d21 (.nilc r20)),
 q 1 (o d22 (.fad 11 r21)),
 q 1 (o d23 (.ld1 r22)),
 q 1 (o d24 (.ldn 3 r6)),
 q 1 (o d25 (.lkp (.agg [.i,.i,.i]) (.agg [(pi 0),(pi 0)]) true r23 r24)),
 q 1 (m d19 r25),
 q 1 (o d26 (.ext 0 r19)),
 w (o .no (.stn 2 r9 r26)),
 q 2 (o d27 (.ext 1 r19)),
 q 0 (m d10 r27)]) (.shal k130_1 .skip)) (.shal k130_2 (.shal k130_3 (.shal k130_4 (.shal k130_5 .skip))))))
def z130 : List Rs := []
def f130 : AF := .mk x130 z130
def k132_3 : KF := fun c i x r h => (fun (x0 x1 x2 : AV) =>
 tR (b_add x2 (pi 1) h) fun v3 h4 =>
 .nm (T110 x0 x1 v3) h4) (y5 r) (y6 r) (y7 r)
def k132_2 : KF := fun c i x r h => (fun (x0 x1 x2 : AV) =>
 tR (b_lt x2 x1 h) fun v3 h4 =>
 ifR v3 (tR (ix 1 x0 x2 h4) fun v5 h6 =>
 tR (ld v5 h6) fun v7 h8 =>
 tR (b_lt v7 (ni 2147483647) h8) fun v9 h10 =>
 (fun (k11 : AV → Hp → RS) => gd v9 false (k11 v7 h10) (k11 .undef h10)) fun v12 h13 =>
 (fun (k14 : AV → Hp → RS) => gd v9 false (tR (b_gt v12 (pi 2147483647) h13) fun v17 h18 =>
 k14 v17 h18) (k14 .undef h13)) fun v15 h16 =>
 tR (o_pick (.c v9) (.c (.bool true)) (.c v15) .nil h16) fun v19 h20 =>
 ifR v19 (.ret (T14 (.bool false)) h20) (x (T110 x0 x1 x2) h20)) (.ex 0 T5 h4)) (y5 r) (y6 r) (y7 r)
def k132_1 : KF := fun c i x r h => (fun (x0 : AV) =>
 tR (len x0 h) fun v1 h2 =>
 x (T110 x0 v1 (pi 0)) h2) (y0 r)
def k132_4 : KF := fun c i x r h => .ret (T14 (.bool true)) h
def k132_0 : KF := fun c i x r h => (fun (x0 : AV) =>
 x (T13 x0) h) (y0 r)
def x132 : AC := (.shal k132_0 (.seq (.shal k132_1 (.block 0 (.loop (.shal k132_2 (.shal k132_3 .skip))))) (.shal k132_4 .skip)))
def z132 : List Rs := [.t .h0 .h2]
def f132 : AF := .mk x132 z132
def k133_2 : KF := fun c i x r h => (fun (x0 x1 x2 : AV) =>
 tR (b_lt x2 x1 h) fun v3 h4 =>
 ifR v3 (tR (ix 1 x0 x2 h4) fun v5 h6 =>
 tR (ld v5 h6) fun v7 h8 =>
 tR (lent v7 h8) fun v9 h10 =>
 tR (b_gt v9 (pi 65535) h10) fun v11 h12 =>
 ifR v11 (.ret (T14 (.bool false)) h12) (tR (b_add x2 (pi 1) h12) fun v13 h14 =>
 .nm (T110 x0 x1 v13) h14)) (.ex 0 (T110 x0 x1 x2) h4)) (y5 r) (y6 r) (y7 r)
def k133_1 : KF := fun c i x r h => (fun (x0 : AV) =>
 tR (len x0 h) fun v1 h2 =>
 x (T110 x0 v1 (pi 0)) h2) (y0 r)
def k133_3 : KF := fun c i x r h => .ret (T14 (.bool true)) h
def k133_0 : KF := fun c i x r h => (fun (x0 : AV) =>
 x (T13 x0) h) (y0 r)
def x133 : AC := (.shal k133_0 (.seq (.shal k133_1 (.block 0 (.loop (.shal k133_2 .skip)))) (.shal k133_3 .skip)))
def z133 : List Rs := [.t .h0 .h2]
def f133 : AF := .mk x133 z133
def k135_0 : KF := fun c i x r h => (fun (x0 x1 : AV) =>
 tR (cK (.toInt .u64) x1 h) fun v2 h3 =>
 tT (c 95 [x0,v2,(pi 2)] h3) fun v4 h5 =>
 .nm T5 h5) (y0 r) (y1 r)
def x135 : AC := (.shal k135_0 .skip)
def z135 : List Rs := []
def f135 : AF := .mk x135 z135
def k136_4 : KF := fun c i x r h => (fun (x0 x1 x2 x3 : AV) =>
 tR (b_add (pi 1) x3 h) fun v4 h5 =>
 tR (o_slca 24 1 (.c x1) (.some (.c (pi 1))) (.some (.c v4)) .none .nil h5) fun v6 h7 =>
 tT (c 184 [v6,x2] h7) fun v8 h9 =>
 tR (b_lt x0 (pi 0) h9) fun v10 h11 =>
 ifR v10 (tR (o_ixa 24 1 (.c x1) (.c (pi 0)) .nil h11) fun v12 h13 =>
 tR (sto v12 (.int .u8 (.ofNat 45)) h13) fun v14 h15 =>
 tR (b_add (pi 1) x3 h15) fun v16 h17 =>
 tR (o_slca 24 1 (.c x1) .none (.some (.c v16)) .none .nil h17) fun v18 h19 =>
 tR (cK .b2s v18 h19) fun v20 h21 =>
 .ret (T1 v20) h21) (tR (b_add (pi 1) x3 h11) fun v22 h23 =>
 tR (o_slca 24 1 (.c x1) (.some (.c (pi 1))) (.some (.c v22)) .none .nil h23) fun v24 h25 =>
 tR (cK .b2s v24 h25) fun v26 h27 =>
 .ret (T1 v26) h27)) (y0 r) (y5 r) (y6 r) (y7 r)
def k136_3 : KF := fun c i x r h => (fun (x0 : AV) =>
 tR (o_alloc 301 24 (.k2 (.mk (.mk (.int .u8 (.ofNat 0)) (.int .u8 (.ofNat 0)) (.int .u8 (.ofNat 0)) (.int .u8 (.ofNat 0)) (.int .u8 (.ofNat 0)) (.int .u8 (.ofNat 0)) (.int .u8 (.ofNat 0)) (.int .u8 (.ofNat 0)) (.int .u8 (.ofNat 0)) (.int .u8 (.ofNat 0)) (.int .u8 (.ofNat 0)) (.int .u8 (.ofNat 0)) (.int .u8 (.ofNat 0)) (.int .u8 (.ofNat 0)) (.int .u8 (.ofNat 0)) (.int .u8 (.ofNat 0))) (.mk (.int .u8 (.ofNat 0)) (.int .u8 (.ofNat 0)) (.int .u8 (.ofNat 0)) (.int .u8 (.ofNat 0)) (.int .u8 (.ofNat 0)) (.int .u8 (.ofNat 0)) (.int .u8 (.ofNat 0)) (.int .u8 (.ofNat 0)) .undef .undef .undef .undef .undef .undef .undef .undef) .nil .nil .nil .nil .nil .nil .nil .nil .nil .nil .nil .nil .nil .nil)) .nil h) fun v1 h2 =>
 tR (cK (.toInt .u64) x0 h2) fun v3 h4 =>
 tR (b_lt x0 (pi 0) h4) fun v5 h6 =>
 ifR v5 (tR (u_neg v3 h6) fun v7 h8 =>
 tT (c 183 [v7] h8) fun v9 h10 =>
 x (T112 x0 v1 v7 v9) h10) (tT (c 183 [v3] h6) fun v11 h12 =>
 x (T112 x0 v1 v3 v11) h12)) (y0 r)
def k136_2 : KF := fun c i x r h => (fun (x0 : AV) =>
 tR (b_le (pi 0) x0 h) fun v1 h2 =>
 (fun (k3 : AV → Hp → RS) => gd v1 true (k3 x0 h2) (k3 .undef h2)) fun v4 h5 =>
 (fun (k6 : AV → Hp → RS) => gd v1 true (tR (b_lt v4 (pi 100) h5) fun v9 h10 =>
 k6 v9 h10) (k6 .undef h5)) fun v7 h8 =>
 tR (o_pick (.c v1) (.c v7) (.c (.bool false)) .nil h8) fun v11 h12 =>
 ifR v11 (tT (c 182 [x0] h12) fun v13 h14 =>
 .ret (T1 v13) h14) (x (T13 x0) h12)) (y0 r)
def k136_1 : KF := fun c i x r h => (fun (x0 x1 : AV) =>
 tR (b_eq x1 (pi 10) h) fun v2 h3 =>
 x (T111 x0 x1 v2) h3) (y0 r) (y1 r)
def k136_5 : KF := fun c i x r h => (fun (x0 x1 : AV) =>
 tR (cK (.toInt .u64) x0 h) fun v2 h3 =>
 tR (b_lt x0 (pi 0) h3) fun v4 h5 =>
 tT (c 185 [.nils,v2,x1,v4,(.bool false)] h5) fun v6 h7 =>
 tR (o_ext 0 (.c v6) .nil h7) fun v8 h9 =>
 tR (o_ext 1 (.c v6) .nil h9) fun v10 h11 =>
 .ret (T1 v10) h11) (y0 r) (y1 r)
def k136_0 : KF := fun c i x r h => (fun (x0 x1 : AV) =>
 x (T7 x0 x1) h) (y0 r) (y1 r)
def x136 : AC := (.shal k136_0 (.seq (.shal k136_1 (.cond r11 (.shal k136_2 (.shal k136_3 (.shal k136_4 .skip))) .skip)) (.shal k136_5 .skip)))
def z136 : List Rs := [.t .h0 .h4]
def f136 : AF := .mk x136 z136
def k138_0 : KF := fun c i x r h => (fun (x0 : AV) =>
 tR (bK (.isnil .s) x0 .nils h) fun v1 h2 =>
 ifR v1 (.ret (T14 .nils) h2) (tR (o_bslice 9 1 0 [] [] .nil h2) fun v3 h4 =>
 tR (appV 9 1 v3 x0 h4) fun v5 h6 =>
 .ret (T14 v5) h6)) (y0 r)
def x138 : AC := (.shal k138_0 .skip)
def z138 : List Rs := [.t .h0 .h2]
def f138 : AF := .mk x138 z138
def k139_3 : KF := fun c i x r h => (fun (x0 x1 x2 x3 x4 : AV) =>
 tR (b_sub x4 (pi 1) h) fun v5 h6 =>
 .nm (T114 x0 x1 x2 x3 v5) h6) (y0 r) (y2 r) (y4 r) (y5 r) (y6 r)
def k139_2 : KF := fun c i x r h => (fun (x0 x1 x2 x3 x4 : AV) =>
 tR (b_gt x4 (pi 0) h) fun v5 h6 =>
 ifR v5 (tT (c 169 [x2,(pi 65535)] h6) fun v7 h8 =>
 tR (o_build [(.str []),(pi 0)] [.mk 0 1 (.c v7)] .nil h8) fun v9 h10 =>
 tR (o_alloc 65 2 (.k1 (.mk (.str []) (pi 0) .undef .undef .undef .undef .undef .undef .undef .undef .undef .undef .undef .undef .undef .undef)) .nil h10) fun v11 h12 =>
 tR (o_stn 2 (.c v11) (.c v9) .nil h12) fun v13 h14 =>
 tT (c 103 [x2] h14) fun v15 h16 =>
 tR (fa 1 v11 h16) fun v17 h18 =>
 tR (sto v17 v15 h18) fun v19 h20 =>
 tR (fa 5 x3 h20) fun v21 h22 =>
 tR (ld v21 h22) fun v23 h24 =>
 tR (o_ldn 2 (.c v11) .nil h24) fun v25 h26 =>
 tR (o_bslice 65 2 1 [(.str []),(pi 0)] [.mk 0 2 (.c v25)] .nil h26) fun v27 h28 =>
 tR (appV 65 2 v23 v27 h28) fun v29 h30 =>
 tR (fa 5 x3 h30) fun v31 h32 =>
 tR (sto v31 v29 h32) fun v33 h34 =>
 x (T114 x0 x1 x2 x3 x4) h34) (.ex 0 (T113 x0 x1 x2 x3) h6)) (y0 r) (y2 r) (y4 r) (y5 r) (y6 r)
def k139_1 : KF := fun c i x r h => (fun (x0 x1 x2 x3 : AV) =>
 tT (c 105 [x2] h) fun v4 h5 =>
 x (T114 x0 x1 x2 x3 v4) h5) (y0 r) (y2 r) (y4 r) (y5 r)
def k139_6 : KF := fun c i x r h => (fun (x0 x1 x2 x3 x4 : AV) =>
 tR (b_sub x4 (pi 1) h) fun v5 h6 =>
 .nm (T115 x0 x1 x2 x3 v5) h6) (y0 r) (y2 r) (y4 r) (y5 r) (y8 r)
def k139_5 : KF := fun c i x r h => (fun (x0 x1 x2 x3 x4 : AV) =>
 tR (b_gt x4 (pi 0) h) fun v5 h6 =>
 ifR v5 (x (T115 x0 x1 x2 x3 x4) h6) (.ex 2 (T113 x0 x1 x2 x3) h6)) (y0 r) (y2 r) (y4 r) (y5 r) (y8 r)
def k139_4 : KF := fun c i x r h => (fun (x0 x1 x2 x3 : AV) =>
 tT (c 105 [x2] h) fun v4 h5 =>
 x (T115 x0 x1 x2 x3 v4) h5) (y0 r) (y2 r) (y4 r) (y5 r)
def k139_8 : KF := fun c i x r h => (fun (x0 x1 x2 : AV) =>
 ifR x2 (tR (o_build [(pi 0),(pi 0),(pi 0),(.str []),(.str []),.nils,.nils] [] .nil h) fun v3 h4 =>
 tR (o_stn 7 (.c x0) (.c v3) .nil h4) fun v5 h6 =>
 .ret (T9 x0 (pi 12)) h6) (.nm (T117 x0 x1) h)) (y2 r) (y5 r) (y75 r)
def k139_7 : KF := fun c i x r h => (fun (x0 x1 x2 x3 : AV) =>
 tT (c 190 [x2] h) fun v4 h5 =>
 tR (o_ext 0 (.c v4) .nil h5) fun v6 h7 =>
 tR (o_ext 1 (.c v4) .nil h7) fun v8 h9 =>
 x (T116 x0 x1 x3 v6) h9) (y0 r) (y2 r) (y4 r) (y5 r)
def k139_9 : KF := fun c i x r h => (fun (x0 x1 : AV) =>
 tR (o_ldn 7 (.c x1) .nil h) fun v2 h3 =>
 tR (o_stn 7 (.c x0) (.c v2) .nil h3) fun v4 h5 =>
 .ret (T9 x0 (pi 0)) h5) (y2 r) (y5 r)
def k139_0 : KF := fun c i x r h => (fun (x0 : AV) =>
 tR (o_alloc 34 7 (.k1 (.mk (pi 0) (pi 0) (pi 0) (.str []) (.str []) .nils .nils .undef .undef .undef .undef .undef .undef .undef .undef .undef)) .nil h) fun v1 h2 =>
 tT (c 69 [x0] h2) fun v3 h4 =>
 tT (c 103 [v3] h4) fun v5 h6 =>
 tT (c 103 [v3] h6) fun v7 h8 =>
 tT (c 103 [v3] h8) fun v9 h10 =>
 tR (o_build [(pi 0),(pi 0),(pi 0),(.str []),(.str []),.nils,.nils] [.mk 0 1 (.c v5),.mk 1 1 (.c v7),.mk 2 1 (.c v9)] .nil h10) fun v11 h12 =>
 tR (o_alloc 34 7 (.k1 (.mk (pi 0) (pi 0) (pi 0) (.str []) (.str []) .nils .nils .undef .undef .undef .undef .undef .undef .undef .undef .undef)) .nil h12) fun v13 h14 =>
 tR (o_stn 7 (.c v13) (.c v11) .nil h14) fun v15 h16 =>
 tT (c 169 [v3,(pi 65535)] h16) fun v17 h18 =>
 tR (fa 3 v13 h18) fun v19 h20 =>
 tR (sto v19 v17 h20) fun v21 h22 =>
 tT (c 169 [v3,(pi 65535)] h22) fun v23 h24 =>
 tR (fa 4 v13 h24) fun v25 h26 =>
 tR (sto v25 v23 h26) fun v27 h28 =>
 x (T113 x0 v1 v3 v13) h28) (y0 r)
def x139 : AC := (.shal k139_0 (.seq (.shal k139_1 (.block 0 (.loop (.shal k139_2 (.shal k139_3 .skip))))) (.seq (.shal k139_4 (.block 2 (.loop (.shal k139_5 (.seq (.block 3 (.drw [q 0 (m d52 r4),
 w (.o d53 (.call 194 [r52])),
 w (o d54 (.bslice 173 3 1 [(.str []),.nils,(.bool false)] [.mk 0 3 r53])),
 q 2 (o d50 (.fad 6 r5)),
 q 2 (o d51 (.ld1 r50)),
 w (o d55 (.app 173 3 r51 r54)),
 q 0 (o d56 (.fad 6 r5)),
 w (o .no (.st1 r56 r55))])) (.shal k139_6 .skip)))))) (.seq (.shal k139_7 (.seq (.ops [m d62 r9,
 o d63 (.bin .ne r62 a0),
 m d64 r63,
 .g .h4 .h0 false d65 (.op (.ldn 7 r5)),
 .g .h4 .h0 false d66 (.call 74 [r65]),
 .g .h4 .h0 false d67 (.op (.un .not r66)),
 o d68 (.pick r64 (.c (.bool true)) r67),
 m d69 r68,
 .g .h4 .h5 false d70 (.op (.ldn 7 r5)),
 .g .h4 .h5 false d71 (.call 41 [r70]),
 .g .h4 .h5 false d72 (.op (.mv r0)),
 .g .h4 .h5 false d73 (.call 193 [r71,r72]),
 .g .h4 .h5 false d74 (.op (.un .not r73)),
 o d75 (.pick r69 (.c (.bool true)) r74)]) (.shal k139_8 .skip))) (.shal k139_9 .skip)))))
def z139 : List Rs := [.agg 7 .h0 .h2,.t .h0 .h3]
def f139 : AF := .mk x139 z139
def k140_2 : KF := fun c i x r h => (fun (x0 x1 : AV) =>
 tR (o_ldn 3 (.c x1) .nil h) fun v2 h3 =>
 tR (o_stn 3 (.c x0) (.c v2) .nil h3) fun v4 h5 =>
 .ret (T1 x0) h5) (y4 r) (y6 r)
def k140_1 : KF := fun c i x r h => (fun (x0 x1 x2 x3 x4 : AV) =>
 tR (b_eq x3 (pi 1) h) fun v5 h6 =>
 ifR v5 (tR (o_ldn 7 (.c x1) .nil h6) fun v7 h8 =>
 tT (c 196 [x0,v7] h8) fun v9 h10 =>
 tR (o_stn 3 (.c x4) (.c v9) .nil h10) fun v11 h12 =>
 tQ (nic x0 h12) fun v13 =>
 tQ (fa 3 v13 h12) fun v14 =>
 tQ (ld v14 h12) fun v15 =>
 tQ (fa 0 x1 h12) fun v16 =>
 tQ (ld v16 h12) fun v17 =>
 tQ (fa 1 x1 h12) fun v18 =>
 tQ (ld v18 h12) fun v19 =>
 tQ (o_ldn 3 (.c x4) .nil h12) fun v20 =>
 tX (c 197 [v15,v17,v19,v20] h12) fun v21 h22 =>
 x (T118 x2 x4) h22) (tR (b_eq x3 (pi 3) h6) fun v23 h24 =>
 ifR v23 (tR (o_build [(pi 0),(pi 0),(.str [])] [.mk 0 1 (.c (pi 28))] .nil h24) fun v25 h26 =>
 tR (o_stn 3 (.c x4) (.c v25) .nil h26) fun v27 h28 =>
 x (T118 x2 x4) h28) (tR (b_eq x3 (pi 0) h24) fun v29 h30 =>
 ifR v29 (tR (o_build [(pi 0),(pi 0),(.str [])] [.mk 0 1 (.c (pi 1))] .nil h30) fun v31 h32 =>
 tR (o_stn 3 (.c x4) (.c v31) .nil h32) fun v33 h34 =>
 x (T118 x2 x4) h34) (x (T118 x2 x4) h30)))) (y0 r) (y3 r) (y4 r) (y5 r) (y6 r)
def k140_0 : KF := fun c i x r h => (fun (x0 x1 : AV) =>
 tR (o_box 34 (.c x1) .nil h) fun v2 h3 =>
 tR (o_alloc 28 3 (.k1 (.mk (pi 0) (pi 0) (.str []) .undef .undef .undef .undef .undef .undef .undef .undef .undef .undef .undef .undef .undef)) .nil h3) fun v4 h5 =>
 tQ (nic x0 h5) fun v6 =>
 tQ (fa 3 v6 h5) fun v7 =>
 tQ (ld v7 h5) fun v8 =>
 tQ (fa 0 v2 h5) fun v9 =>
 tQ (ld v9 h5) fun v10 =>
 tQ (fa 1 v2 h5) fun v11 =>
 tQ (ld v11 h5) fun v12 =>
 tX (c 195 [v8,v10,v12] h5) fun v13 h14 =>
 tQ (o_ext 0 (.c v13) .nil h14) fun v15 =>
 tQ (o_ext 1 (.c v13) .nil h14) fun v16 =>
 tR (o_alloc 28 3 (.k1 (.mk (pi 0) (pi 0) (.str []) .undef .undef .undef .undef .undef .undef .undef .undef .undef .undef .undef .undef .undef)) .nil h14) fun v17 h18 =>
 tX (RV.toT (o_stn 3 (.c v17) (.c v16) .nil h18)) fun v19 h20 =>
 x (T98 x0 v2 v4 v15 v17) h20) (y0 r) (y1 r)
def x140 : AC := (.shal k140_0 (.shal k140_1 (.shal k140_2 .skip)))
def z140 : List Rs := [.agg 3 .h0 .h4]
def f140 : AF := .mk x140 z140
def k141_0 : KF := fun c i x r h => (fun (x0 x1 x2 : AV) =>
 tR (o_alloc 28 3 (.k1 (.mk (pi 0) (pi 0) (.str []) .undef .undef .undef .undef .undef .undef .undef .undef .undef .undef .undef .undef .undef)) .nil h) fun v3 h4 =>
 tR (nic x0 h4) fun v5 h6 =>
 tR (fa 3 v5 h6) fun v7 h8 =>
 tR (ld v7 h8) fun v9 h10 =>
 tT (c 195 [v9,x1,x2] h10) fun v11 h12 =>
 tR (o_ext 0 (.c v11) .nil h12) fun v13 h14 =>
 tR (o_ext 1 (.c v11) .nil h14) fun v15 h16 =>
 tR (o_alloc 28 3 (.k1 (.mk (pi 0) (pi 0) (.str []) .undef .undef .undef .undef .undef .undef .undef .undef .undef .undef .undef .undef .undef)) .nil h16) fun v17 h18 =>
 tR (o_stn 3 (.c v17) (.c v15) .nil h18) fun v19 h20 =>
 tR (o_ldn 3 (.c v17) .nil h20) fun v21 h22 =>
 tR (b_eq v13 (pi 2) h22) fun v23 h24 =>
 tR (o_stn 3 (.c v3) (.c v21) .nil h24) fun v25 h26 =>
 .ret (T12 v3 v23) h26) (y0 r) (y1 r) (y2 r)
def x141 : AC := (.shal k141_0 .skip)
def z141 : List Rs := [.agg 3 .h0 .h6,.t .h0 .h7]
def f141 : AF := .mk x141 z141
def k142_0 : KF := fun c i x r h => (fun (x0 x1 : AV) =>
 tR (nic x0 h) fun v2 h3 =>
 tR (fa 2 v2 h3) fun v4 h5 =>
 tR (ld v4 h5) fun v6 h7 =>
 tR (lkp (.one .s) .nilp false v6 x1 h7) fun v8 h9 =>
 tR (bK .peq v8 .nilp h9) fun v10 h11 =>
 ifR v10 (.ret (T22 .nils (.bool false)) h11) (tT (c 198 [v8] h11) fun v12 h13 =>
 .ret (T22 v12 (.bool true)) h13)) (y0 r) (y1 r)
def x142 : AC := (.shal k142_0 .skip)
def z142 : List Rs := [.t .h0 .h4,.t .h0 .h5]
def f142 : AF := .mk x142 z142
def k143_1 : KF := fun c i x r h => (fun (x0 x1 x2 : AV) =>
 ifR x2 (.nm (T119 x0 x1) h) (.ex 0 (T119 x0 x1) h)) (y0 r) (y2 r) (y17 r)
def k143_3 : KF := fun c i x r h => (fun (x0 x1 x2 x3 : AV) =>
 ifR x3 (.ex 1 (T120 x0 x1 x2) h) (.nm (T120 x0 x1 x2) h)) (y0 r) (y2 r) (y3 r) (y36 r)
def k143_5 : KF := fun c i x r h => (fun (x0 : AV) =>
 .nm (T119 x0 (ni 0)) h) (y0 r)
def k143_4 : KF := fun c i x r h => (fun (x0 x1 x2 : AV) =>
 tQ (nic x0 h) fun v3 =>
 tQ (fa 17 v3 h) fun v4 =>
 tQ (ld v4 h) fun v5 =>
 tQ (nic x0 h) fun v6 =>
 tQ (fa 21 v6 h) fun v7 =>
 tQ (ld v7 h) fun v8 =>
 tQ (ix 6 v5 x1 h) fun v9 =>
 tQ (fa 5 v9 h) fun v10 =>
 tX (RV.toT (sto v10 v8 h)) fun v11 h12 =>
 tR (nic x0 h12) fun v13 h14 =>
 tR (fa 21 v13 h14) fun v15 h16 =>
 tR (ld v15 h16) fun v17 h18 =>
 tR (b_add v17 (pi 1) h18) fun v19 h20 =>
 tR (nic x0 h20) fun v21 h22 =>
 tR (fa 21 v21 h22) fun v23 h24 =>
 tR (sto v23 v19 h24) fun v25 h26 =>
 x (T15 x0 x2) h26) (y0 r) (y2 r) (y3 r)
def k143_2 : KF := fun c i x r h => (fun (x0 x1 : AV) =>
 tR (nic x0 h) fun v2 h3 =>
 tR (fa 17 v2 h3) fun v4 h5 =>
 tR (ld v4 h5) fun v6 h7 =>
 tR (ix 6 v6 x1 h7) fun v8 h9 =>
 tR (o_ldn 6 (.c v8) .nil h9) fun v10 h11 =>
 tR (o_alloc 260 6 (.k1 (.mk (pi 0) (pi 0) (pi 0) (.bool false) (.str []) (pi 0) .undef .undef .undef .undef .undef .undef .undef .undef .undef .undef)) .nil h11) fun v12 h13 =>
 tR (o_stn 6 (.c v12) (.c v10) .nil h13) fun v14 h15 =>
 x (T120 x0 x1 v12) h15) (y0 r) (y2 r)
def k143_6 : KF := fun c i x r h => (fun (x0 x1 : AV) =>
 tR (b_add x1 (pi 1) h) fun v2 h3 =>
 .nm (T119 x0 v2) h3) (y0 r) (y2 r)
def k143_0 : KF := fun c i x r h => (fun (x0 : AV) =>
 x (T119 x0 (pi 0)) h) (y0 r)
def x143 : AC := (.shal k143_0 (.block 0 (.loop (.seq (.seq (.ops [m d4 r2,
 m d5 r0,
 o d6 (.nilc r5),
 o d7 (.fad 17 r6),
 o d8 (.ld1 r7),
 o d9 (.len r8),
 o d10 (.bin .lt r4 r9),
 m d11 r10,
 .g .h0 .hb true d12 (.op (.mv r0)),
 .g .h0 .hb true d13 (.op (.nilc r12)),
 .g .h0 .hb true d14 (.op (.fad 19 r13)),
 .g .h0 .hb true d15 (.op (.ld1 r14)),
 .g .h0 .hb true d16 (.op (.bin .eq r15 a2)),
 o d17 (.pick r11 r16 (.c (.bool false)))]) (.shal k143_1 .skip)) (.seq (.block 1 (.shal k143_2 (.seq (.seq (.ops [o d27 (.fad 5 r3),
 o d28 (.ld1 r27),
 o d29 (.bin .ge r28 a0),
 m d30 r29,
 .g .h1 .he false d31 (.op (.mv r0)),
 .g .h1 .he false d32 (.op (.nilc r31)),
 .g .h1 .he false d33 (.op (.fad 21 r32)),
 .g .h1 .he false d34 (.op (.ld1 r33)),
 .g .h1 .he false d35 (.op (.bin .ge r34 (.c (pi 1048576)))),
 o d36 (.pick r30 (.c (.bool true)) r35)]) (.shal k143_3 .skip)) (.shal k143_4 (.seq (.drw [q 0 (o d61 (.ldn 6 r3)),
 w (.o d62 (.call 200 [r61])),
 q 1 (m d55 r0),
 q 1 (m d56 r0),
 q 1 (o d57 (.nilc r56)),
 q 1 (o d58 (.fad 21 r57)),
 q 1 (o d59 (.ld1 r58)),
 q 1 (o d60 (.bin .sub r59 a1)),
 w (.o d63 (.call 199 [r55,r60,r62]))]) (.shal k143_5 .skip)))))) (.shal k143_6 .skip))))))
def z143 : List Rs := []
def f143 : AF := .mk x143 z143
def k144_1 : KF := fun c i x r h => (fun (x0 x1 x2 : AV) =>
 tR (ld x0 h) fun v3 h4 =>
 tT (c 156 [v3,(pi 1),(.fn 202 [x1,x2,x0])] h4) fun v5 h6 =>
 tR (ld x0 h6) fun v7 h8 =>
 tT (c 203 [v7] h8) fun v9 h10 =>
 .nm T5 h10) (y1 r) (y2 r) (y3 r)
def k144_0 : KF := fun c i x r h => (fun (x0 : AV) =>
 tR (o_box 107 (.c x0) .nil h) fun v1 h2 =>
 x (T20 v1) h2) (y0 r)
def x144 : AC := (.shal k144_0 (.seq (.drw [q 0 (o d8 (.ld1 r1)),
 q 0 (o d9 (.nilc r8)),
 q 0 (o d10 (.fad 7 r9)),
 q 0 (o d11 (.ld1 r10)),
 w (.o d12 (.call 123 [r11])),
 q 1 (o d4 (.ld1 r1)),
 q 1 (o d5 (.nilc r4)),
 q 1 (o d6 (.fad 8 r5)),
 q 1 (o d7 (.ld1 r6)),
 w (.o d13 (.call 145 [r7,r12]))]) (.seq (.drw [q 0 (o d14 (.ld1 r1)),
 q 0 (o d17 (.nilc r14)),
 q 0 (o d18 (.fad 19 r17)),
 w (o .no (.st1 r18 a1)),
 q 1 (o d15 (.ld1 r1)),
 q 0 (o d19 (.nilc r15)),
 q 0 (o d20 (.fad 20 r19)),
 n (o d16 (.mkmap)),
 w (o .no (.st1 r20 r16))]) (.seq (.drw [q 0 (o d25 (.ld1 r1)),
 q 0 (o d26 (.nilc r25)),
 q 0 (o d27 (.fad 9 r26)),
 q 0 (o d28 (.ld1 r27)),
 w (.o d29 (.call 101 [r28])),
 q 1 (o d21 (.ld1 r1)),
 q 1 (o d22 (.nilc r21)),
 q 1 (o d23 (.fad 8 r22)),
 q 1 (o d24 (.ld1 r23)),
 w (.o d30 (.call 201 [r24,r29])),
 q 2 (o d31 (.ld1 r1)),
 q 2 (o d32 (.nilc r31)),
 q 2 (o d33 (.fad 9 r32)),
 q 2 (o d34 (.ld1 r33)),
 w (.o d35 (.call 101 [r34])),
 n (o d2 (.alloc 208 2 (.k1 (.mk (pi 0) (pi 0) .undef .undef .undef .undef .undef .undef .undef .undef .undef .undef .undef .undef .undef .undef)))),
 n (o d3 (.alloc 3 1 (.k1 (.mk (pi 0) .undef .undef .undef .undef .undef .undef .undef .undef .undef .undef .undef .undef .undef .undef .undef)))),
 w (o .no (.stn 2 r2 r30)),
 w (o .no (.st1 r3 r35))]) (.shal k144_1 .skip)))))
def z144 : List Rs := []
def f144 : AF := .mk x144 z144
def k145_0 : KF := fun c i x r h => (fun (x0 x1 : AV) =>
 tR (o_box 208 (.c x1) .nil h) fun v2 h3 =>
 tQ (nic x0 h3) fun v4 =>
 tQ (fa 2 v4 h3) fun v5 =>
 tQ (ld v5 h3) fun v6 =>
 tQ (fa 0 v2 h3) fun v7 =>
 tQ (ld v7 h3) fun v8 =>
 tQ (maxV false [v6,v8] h3) fun v9 =>
 tQ (nic x0 h3) fun v10 =>
 tQ (fa 2 v10 h3) fun v11 =>
 tX (RV.toT (sto v11 v9 h3)) fun v12 h13 =>
 .nm T5 h13) (y0 r) (y1 r)
def x145 : AC := (.shal k145_0 .skip)
def z145 : List Rs := []
def f145 : AF := .mk x145 z145
def k146_1 : KF := fun c i x r h => (fun (x0 x1 x2 x3 x4 : AV) =>
 tR (ld x1 h) fun v5 h6 =>
 tR (o_ldn 2 (.c x2) .nil h6) fun v7 h8 =>
 tR (ld x3 h8) fun v9 h10 =>
 tT (c 204 [v5,v7,v9] h10) fun v11 h12 =>
 tR (o_ext 0 (.c v11) .nil h12) fun v13 h14 =>
 tR (o_ext 1 (.c v11) .nil h14) fun v15 h16 =>
 tR (o_alloc 220 1 (.k1 (.mk .nils .undef .undef .undef .undef .undef .undef .undef .undef .undef .undef .undef .undef .undef .undef .undef)) .nil h16) fun v17 h18 =>
 tR (sto v17 v13 h18) fun v19 h20 =>
 tR (u_not v15 h20) fun v21 h22 =>
 ifR v21 (tR (ld x1 h22) fun v23 h24 =>
 tT (c 205 [v23,x0] h24) fun v25 h26 =>
 .ret T5 h26) (tR (ld x1 h22) fun v27 h28 =>
 tR (o_ldn 2 (.c x2) .nil h28) fun v29 h30 =>
 tT (c 150 [v27,v29] h30) fun v31 h32 =>
 tR (ld x1 h32) fun v33 h34 =>
 tT (c 206 [v33,x0,(pi 2),(.fn 207 [x2,x4,v17,x1,x3])] h34) fun v35 h36 =>
 .nm T5 h36)) (y1 r) (y4 r) (y6 r) (y8 r) (y9 r)
def k146_0 : KF := fun c i x r h => (fun (x0 x1 x2 x3 : AV) =>
 tR (o_box 107 (.c x0) .nil h) fun v4 h5 =>
 tR (o_box 208 (.c x2) .nil h5) fun v6 h7 =>
 tT (c 103 [x3] h7) fun v8 h9 =>
 tT (c 103 [x3] h9) fun v10 h11 =>
 tR (o_alloc 3 1 (.k1 (.mk (pi 0) .undef .undef .undef .undef .undef .undef .undef .undef .undef .undef .undef .undef .undef .undef .undef)) .nil h11) fun v12 h13 =>
 tR (o_alloc 2 1 (.k1 (.mk (pi 0) .undef .undef .undef .undef .undef .undef .undef .undef .undef .undef .undef .undef .undef .undef .undef)) .nil h13) fun v14 h15 =>
 tR (sto v12 v8 h15) fun v16 h17 =>
 tR (sto v14 v10 h17) fun v18 h19 =>
 tQ (ld v12 h19) fun v20 =>
 tQ (ld v4 h19) fun v21 =>
 tQ (nic v21 h19) fun v22 =>
 tQ (fa 13 v22 h19) fun v23 =>
 tQ (fa 0 v23 h19) fun v24 =>
 tQ (ld v24 h19) fun v25 =>
 tQ (b_lt v20 v25 h19) fun v26 =>
 ifR v26 (tR (ld v4 h19) fun v27 h28 =>
 tR (ld v12 h28) fun v29 h30 =>
 tT (c 153 [v27,x1,v29] h30) fun v31 h32 =>
 .ret T5 h32) (x (T121 x1 v4 v6 v12 v14) h19)) (y0 r) (y1 r) (y2 r) (y3 r)
def x146 : AC := (.shal k146_0 (.shal k146_1 .skip))
def z146 : List Rs := []
def f146 : AF := .mk x146 z146
def k147_2 : KF := fun c i x r h => (fun (x0 x1 x2 x3 x4 x5 x6 x7 : AV) =>
 ifR x7 (.nm (T123 x0 x1 x2 x3 x4 x5 x6) h) (.ex 0 (T123 x0 x1 x2 x3 x4 x5 x6) h)) (y0 r) (y1 r) (y3 r) (y6 r) (y8 r) (y9 r) (y10 r) (y24 r)
def k147_3 : KF := fun c i x r h => (fun (x0 x1 x2 x3 x4 x5 x6 : AV) =>
 tT (c 107 [x2] h) fun v7 h8 =>
 tR (o_build [(pi 0),(pi 0),(pi 0),(.str [])] [.mk 1 2 (.c v7)] .nil h8) fun v9 h10 =>
 tR (o_alloc 227 4 (.k1 (.mk (pi 0) (pi 0) (pi 0) (.str []) .undef .undef .undef .undef .undef .undef .undef .undef .undef .undef .undef .undef)) .nil h10) fun v11 h12 =>
 tR (o_stn 4 (.c v11) (.c v9) .nil h12) fun v13 h14 =>
 tT (c 103 [x2] h14) fun v15 h16 =>
 tR (fa 0 v11 h16) fun v17 h18 =>
 tR (sto v17 v15 h18) fun v19 h20 =>
 tT (c 109 [x2] h20) fun v21 h22 =>
 tR (fa 3 v11 h22) fun v23 h24 =>
 tR (sto v23 v21 h24) fun v25 h26 =>
 tR (o_ldn 4 (.c v11) .nil h26) fun v27 h28 =>
 tR (o_bslice 227 4 1 [(pi 0),(pi 0),(pi 0),(.str [])] [.mk 0 4 (.c v27)] .nil h28) fun v29 h30 =>
 tR (appV 227 4 x5 v29 h30) fun v31 h32 =>
 tR (b_sub x6 (pi 1) h32) fun v33 h34 =>
 .nm (T123 x0 x1 x2 x3 x4 v31 v33) h34) (y0 r) (y1 r) (y3 r) (y6 r) (y8 r) (y9 r) (y10 r)
def k147_1 : KF := fun c i x r h => (fun (x0 x1 x2 x3 x4 x5 : AV) =>
 tT (c 103 [x2] h) fun v6 h7 =>
 x (T123 x0 x1 x2 x3 x4 x5 v6) h7) (y0 r) (y1 r) (y3 r) (y6 r) (y8 r) (y9 r)
def k147_5 : KF := fun c i x r h => (fun (x0 x1 x2 x3 x4 x5 x6 x7 : AV) =>
 tR (b_lt x7 x6 h) fun v8 h9 =>
 ifR v8 (tR (ix 4 x5 x7 h9) fun v10 h11 =>
 tR (o_ldn 4 (.c v10) .nil h11) fun v12 h13 =>
 tR (o_alloc 227 4 (.k1 (.mk (pi 0) (pi 0) (pi 0) (.str []) .undef .undef .undef .undef .undef .undef .undef .undef .undef .undef .undef .undef)) .nil h13) fun v14 h15 =>
 tR (o_stn 4 (.c v14) (.c v12) .nil h15) fun v16 h17 =>
 tR (fa 0 v14 h17) fun v18 h19 =>
 tR (ld v18 h19) fun v20 h21 =>
 tR (fa 3 v14 h21) fun v22 h23 =>
 tR (ld v22 h23) fun v24 h25 =>
 tT (c 152 [x0,v20,v24] h25) fun v26 h27 =>
 tR (b_add x7 (pi 1) h27) fun v28 h29 =>
 .nm (T124 x0 x1 x2 x3 x4 x5 x6 v28) h29) (.ex 2 (T124 x0 x1 x2 x3 x4 x5 x6 x7) h9)) (y0 r) (y1 r) (y6 r) (y8 r) (y9 r) (y41 r) (y42 r) (y43 r)
def k147_4 : KF := fun c i x r h => (fun (x0 x1 x2 x3 x4 x5 : AV) =>
 tT (c 151 [x2] h) fun v6 h7 =>
 tR (len v6 h7) fun v8 h9 =>
 x (T124 x0 x1 x3 x4 x5 v6 v8 (pi 0)) h9) (y0 r) (y1 r) (y3 r) (y6 r) (y8 r) (y9 r)
def k147_6 : KF := fun c i x r h => (fun (x0 x1 x2 x3 x4 : AV) =>
 ifR x4 (.ret T5 h) (.nm (T125 x0 x1 x2 x3) h)) (y0 r) (y1 r) (y6 r) (y9 r) (y75 r)
def k147_7 : KF := fun c i x r h => (fun (x0 x1 x2 x3 : AV) =>
 tQ (nic x0 h) fun v4 =>
 tQ (fa 8 v4 h) fun v5 =>
 tQ (ld v5 h) fun v6 =>
 tQ (o_ldn 2 (.c x2) .nil h) fun v7 =>
 tX (c 210 [v6,x1,v7,x3] h) fun v8 h9 =>
 tR (nic x0 h9) fun v10 h11 =>
 tR (fa 20 v10 h11) fun v12 h13 =>
 tR (ld v12 h13) fun v14 h15 =>
 tR (mup (.one .i) v14 x1 (pi 1) h15) fun v16 h17 =>
 tT (c 203 [x0] h17) fun v18 h19 =>
 .nm T5 h19) (y0 r) (y1 r) (y6 r) (y9 r)
def k147_0 : KF := fun c i x r h => (fun (x0 x1 x2 x3 : AV) =>
 tR (o_box 208 (.c x2) .nil h) fun v4 h5 =>
 tT (c 103 [x3] h5) fun v6 h7 =>
 x (T122 x0 x1 x3 v4 v6 .nils) h7) (y0 r) (y1 r) (y2 r) (y3 r)
def x147 : AC := (.shal k147_0 (.seq (.shal k147_1 (.block 0 (.loop (.seq (.seq (.ops [m d18 r10,
 o d19 (.bin .gt r18 a0),
 m d20 r19,
 .g .h1 .h4 true d21 (.op (.mv r3)),
 .g .h1 .h4 true d22 (.call 168 [r21]),
 .g .h1 .h4 true d23 (.op (.un .not r22)),
 o d24 (.pick r20 r23 (.c (.bool false)))]) (.shal k147_2 .skip)) (.shal k147_3 .skip))))) (.seq (.shal k147_4 (.block 2 (.loop (.shal k147_5 .skip)))) (.seq (.seq (.drw [q 0 (m d54 r8),
 q 0 (m d55 r0),
 q 0 (o d56 (.nilc r55)),
 q 0 (o d57 (.fad 6 r56)),
 q 0 (o d58 (.ld1 r57)),
 q 0 (o d59 (.bin .ne r54 r58)),
 q 0 (m d60 r59),
 q 0 (.g .h3 .hc false d61 (.op (.mv r0))),
 q 0 (.g .h3 .hc false d62 (.op (.nilc r61))),
 q 0 (.g .h3 .hc false d63 (.op (.fad 19 r62))),
 q 0 (.g .h3 .hc false d64 (.op (.ld1 r63))),
 q 0 (.g .h3 .hc false d65 (.op (.bin .ne r64 a1))),
 q 0 (o d66 (.pick r60 (.c (.bool true)) r65)),
 q 0 (m d67 r66),
 q 0 (.g .h4 .h3 false d69 (.op (.mv r0))),
 q 0 (.g .h4 .h3 false d70 (.op (.nilc r69))),
 q 0 (.g .h4 .h3 false d71 (.op (.fad 8 r70))),
 q 0 (.g .h4 .h3 false d72 (.op (.ld1 r71))),
 w (.g .h4 .h3 false d73 (.call 209 [r72])),
 q 1 (.g .h4 .h3 false d68 (.op (.ldn 2 r6))),
 q 0 (.g .h4 .h3 false d74 (.op (.bin (.ane [.i,.i]) r68 r73))),
 q 0 (o d75 (.pick r67 (.c (.bool true)) r74))]) (.shal k147_6 .skip)) (.shal k147_7 .skip)))))
def z147 : List Rs := []
def f147 : AF := .mk x147 z147
def k148_1 : KF := fun c i x r h => (fun (x0 x1 x2 x3 x4 : AV) =>
 tR (o_ldn 2 (.c x2) .nil h) fun v5 h6 =>
 tR (ld x3 h6) fun v7 h8 =>
 tT (c 211 [x0,v5,v7,x4] h8) fun v9 h10 =>
 tR (u_not v9 h10) fun v11 h12 =>
 ifR v11 (tT (c 205 [x0,x1] h12) fun v13 h14 =>
 .ret T5 h14) (tR (o_ldn 2 (.c x2) .nil h12) fun v15 h16 =>
 tT (c 150 [x0,v15] h16) fun v17 h18 =>
 tT (c 206 [x0,x1,(pi 4),(.fn 212 [x2,x3])] h18) fun v19 h20 =>
 .nm T5 h20)) (y0 r) (y1 r) (y6 r) (y8 r) (y9 r)
def k148_0 : KF := fun c i x r h => (fun (x0 x1 x2 x3 : AV) =>
 tR (o_box 208 (.c x2) .nil h) fun v4 h5 =>
 tT (c 103 [x3] h5) fun v6 h7 =>
 tR (o_alloc 3 1 (.k1 (.mk (pi 0) .undef .undef .undef .undef .undef .undef .undef .undef .undef .undef .undef .undef .undef .undef .undef)) .nil h7) fun v8 h9 =>
 tR (sto v8 v6 h9) fun v10 h11 =>
 tT (c 109 [x3] h11) fun v12 h13 =>
 tQ (ld v8 h13) fun v14 =>
 tQ (nic x0 h13) fun v15 =>
 tQ (fa 13 v15 h13) fun v16 =>
 tQ (fa 0 v16 h13) fun v17 =>
 tQ (ld v17 h13) fun v18 =>
 tQ (b_lt v14 v18 h13) fun v19 =>
 ifR v19 (tR (ld v8 h13) fun v20 h21 =>
 tT (c 153 [x0,x1,v20] h21) fun v22 h23 =>
 .ret T5 h23) (x (T126 x0 x1 v4 v8 v12) h13)) (y0 r) (y1 r) (y2 r) (y3 r)
def x148 : AC := (.shal k148_0 (.shal k148_1 .skip))
def z148 : List Rs := []
def f148 : AF := .mk x148 z148
def k149_1 : KF := fun c i x r h => (fun (x0 x1 x2 : AV) =>
 ifR x2 (.ret T5 h) (.nm (T15 x0 x1) h)) (y0 r) (y3 r) (y25 r)
def k149_2 : KF := fun c i x r h => (fun (x0 x1 : AV) =>
 tR (nic x0 h) fun v2 h3 =>
 tR (fa 8 v2 h3) fun v4 h5 =>
 tR (ld v4 h5) fun v6 h7 =>
 tT (c 214 [v6,x1,(.str [])] h7) fun v8 h9 =>
 tR (o_ext 0 (.c v8) .nil h9) fun v10 h11 =>
 tR (o_ext 1 (.c v8) .nil h11) fun v12 h13 =>
 ifR v12 (tT (c 215 [x0,x1,v10] h13) fun v14 h15 =>
 .nm T5 h15) (.nm T5 h13)) (y0 r) (y3 r)
def k149_0 : KF := fun c i x r h => (fun (x0 x1 x2 x3 : AV) =>
 tR (o_box 208 (.c x2) .nil h) fun v4 h5 =>
 x (T127 x0 x1 x3 v4) h5) (y0 r) (y1 r) (y2 r) (y3 r)
def x149 : AC := (.shal k149_0 (.seq (.seq (.drw [q 0 (m d10 r0),
 q 0 (o d11 (.nilc r10)),
 q 0 (o d12 (.fad 19 r11)),
 q 0 (o d13 (.ld1 r12)),
 q 0 (o d14 (.bin .ne r13 a2)),
 q 0 (m d15 r14),
 q 0 (.g .h0 .hf false d16 (.op (.mv r0))),
 q 0 (.g .h0 .hf false d17 (.op (.nilc r16))),
 q 0 (.g .h0 .hf false d18 (.op (.fad 8 r17))),
 q 0 (.g .h0 .hf false d19 (.op (.ld1 r18))),
 q 0 (.g .h0 .hf false d20 (.op (.mv r1))),
 q 0 (.g .h0 .hf false d21 (.op (.ldn 2 r6))),
 q 0 (.g .h0 .hf false d22 (.op (.mv r3))),
 w (.g .h0 .hf false d23 (.call 213 [r19,r20,r21,r22])),
 q 0 (.g .h0 .hf false d24 (.op (.un .not r23))),
 q 0 (o d25 (.pick r15 (.c (.bool true)) r24))]) (.shal k149_1 .skip)) (.shal k149_2 .skip)))
def z149 : List Rs := []
def f149 : AF := .mk x149 z149
def k150_1 : KF := fun c i x r h => (fun (x0 x1 : AV) =>
 ifR x1 (tR (nic x0 h) fun v2 h3 =>
 tR (fa 19 v2 h3) fun v4 h5 =>
 tR (sto v4 (pi 0) h5) fun v6 h7 =>
 .nm T5 h7) (.nm T5 h)) (y0 r) (y17 r)
def k150_0 : KF := fun c i x r h => (fun (x0 x1 : AV) =>
 tR (o_box 208 (.c x1) .nil h) fun v2 h3 =>
 x (T15 x0 v2) h3) (y0 r) (y1 r)
def x150 : AC := (.shal k150_0 (.seq (.drw [q 0 (m d4 r0),
 q 0 (o d5 (.nilc r4)),
 q 0 (o d6 (.fad 19 r5)),
 q 0 (o d7 (.ld1 r6)),
 q 0 (o d8 (.bin .ne r7 a0)),
 q 0 (m d9 r8),
 q 0 (.g .h0 .h9 true d10 (.op (.mv r0))),
 q 0 (.g .h0 .h9 true d11 (.op (.nilc r10))),
 q 0 (.g .h0 .h9 true d12 (.op (.fad 8 r11))),
 q 0 (.g .h0 .h9 true d13 (.op (.ld1 r12))),
 w (.g .h0 .h9 true d14 (.call 209 [r13])),
 q 1 (.g .h0 .h9 true d15 (.op (.ldn 2 r3))),
 w (.g .h0 .h9 true d16 (.call 166 [r14,r15])),
 q 0 (o d17 (.pick r9 r16 (.c (.bool false))))]) (.shal k150_1 .skip)))
def z150 : List Rs := []
def f150 : AF := .mk x150 z150
def k151_2 : KF := fun c i x r h => (fun (x0 x1 x2 x3 : AV) =>
 ifR x3 (.nm (T45 x0 x1 x2) h) (.ex 0 (T45 x0 x1 x2) h)) (y0 r) (y3 r) (y4 r) (y14 r)
def k151_3 : KF := fun c i x r h => (fun (x0 x1 x2 : AV) =>
 tT (c 103 [x0] h) fun v3 h4 =>
 tT (c 109 [x0] h4) fun v5 h6 =>
 tR (o_build [(pi 0),(pi 0),(pi 0),(.str [])] [.mk 0 1 (.c v3),.mk 3 1 (.c v5)] .nil h6) fun v7 h8 =>
 tR (o_bslice 227 4 1 [(pi 0),(pi 0),(pi 0),(.str [])] [.mk 0 4 (.c v7)] .nil h8) fun v9 h10 =>
 tR (appV 227 4 x1 v9 h10) fun v11 h12 =>
 tR (b_sub x2 (pi 1) h12) fun v13 h14 =>
 .nm (T45 x0 v11 v13) h14) (y0 r) (y3 r) (y4 r)
def k151_1 : KF := fun c i x r h => (fun (x0 x1 : AV) =>
 tT (c 103 [x0] h) fun v2 h3 =>
 x (T45 x0 x1 v2) h3) (y0 r) (y3 r)
def k151_4 : KF := fun c i x r h => (fun (x0 : AV) =>
 .ret (T14 x0) h) (y3 r)
def k151_0 : KF := fun c i x r h => (fun (x0 : AV) =>
 x (T15 x0 .nils) h) (y0 r)
def x151 : AC := (.shal k151_0 (.seq (.shal k151_1 (.block 0 (.loop (.seq (.seq (.ops [m d8 r4,
 o d9 (.bin .gt r8 a0),
 m d10 r9,
 .g .h0 .ha true d11 (.op (.mv r0)),
 .g .h0 .ha true d12 (.call 168 [r11]),
 .g .h0 .ha true d13 (.op (.un .not r12)),
 o d14 (.pick r10 r13 (.c (.bool false)))]) (.shal k151_2 .skip)) (.shal k151_3 .skip))))) (.shal k151_4 .skip)))
def z151 : List Rs := [.t .h0 .h2]
def f151 : AF := .mk x151 z151
def k152_1 : KF := fun c i x r h => (fun (x0 x1 x2 x3 x4 : AV) =>
 ifR x4 (tR (sto x3 (pi 5) h) fun v5 h6 =>
 .nm (T79 x0 x1 x2 x3) h6) (.nm (T79 x0 x1 x2 x3) h)) (y0 r) (y4 r) (y5 r) (y6 r) (y21 r)
def k152_2 : KF := fun c i x r h => (fun (x0 x1 x2 x3 : AV) =>
 tR (ld x3 h) fun v4 h5 =>
 tT (c 216 [x0,(.bool false),v4,(.fn 217 [x1,x3,x2])] h5) fun v6 h7 =>
 tT (c 71 [x0] h7) fun v8 h9 =>
 x (T13 x0) h9) (y0 r) (y4 r) (y5 r) (y6 r)
def k152_0 : KF := fun c i x r h => (fun (x0 x1 x2 : AV) =>
 tR (o_box 3 (.c x1) .nil h) fun v3 h4 =>
 tR (o_box 9 (.c x2) .nil h4) fun v5 h6 =>
 tR (ld v3 h6) fun v7 h8 =>
 tR (ld v5 h8) fun v9 h10 =>
 tT (c 111 [x0,v7,v9] h10) fun v11 h12 =>
 tR (u_not v11 h12) fun v13 h14 =>
 ifR v13 (.ret T5 h14) (tR (o_alloc 3 1 (.k1 (.mk (pi 0) .undef .undef .undef .undef .undef .undef .undef .undef .undef .undef .undef .undef .undef .undef .undef)) .nil h14) fun v15 h16 =>
 tR (sto v15 (pi 4) h16) fun v17 h18 =>
 x (T79 x0 v3 v5 v15) h18)) (y0 r) (y1 r) (y2 r)
def x152 : AC := (.shal k152_0 (.seq (.seq (.drw [q 0 (m d12 r0),
 q 0 (o d13 (.ld1 r4)),
 w (.o d14 (.call 125 [r12,r13])),
 q 0 (m d15 r14),
 q 0 (.g .h0 .hf true d16 (.op (.mv r0))),
 q 0 (.g .h0 .hf true d17 (.op (.ld1 r4))),
 w (.g .h0 .hf true d18 (.call 108 [r16,r17])),
 q 1 (.g .h0 .hf true d19 (.op (.ld1 r5))),
 q 0 (.g .h0 .hf true d20 (.op (.bin .seq r18 r19))),
 q 0 (o d21 (.pick r15 r20 (.c (.bool false))))]) (.shal k152_1 .skip)) (.shal k152_2 (.drw [q 0 (m d29 r0),
 q 0 (o d30 (.nilc r29)),
 q 0 (o d31 (.fad 24 r30)),
 q 0 (o d32 (.ld1 r31)),
 q 0 (m d33 r32),
 q 0 (.g .h2 .h1 false d38 (.op (.mv r0))),
 q 0 (.g .h2 .h1 false d39 (.op (.nilc r38))),
 q 0 (.g .h2 .h1 false d40 (.op (.fad 9 r39))),
 q 0 (.g .h2 .h1 false d41 (.op (.ld1 r40))),
 w (.g .h2 .h1 false d42 (.call 101 [r41])),
 q 1 (m d28 r0),
 q 1 (.g .h2 .h1 false d34 (.op (.mv r0))),
 q 1 (.g .h2 .h1 false d35 (.op (.nilc r34))),
 q 1 (.g .h2 .h1 false d36 (.op (.fad 10 r35))),
 q 1 (.g .h2 .h1 false d37 (.op (.ld1 r36))),
 q 0 (.g .h2 .h1 false d43 (.op (.bin .gt r37 r42))),
 q 0 (o d44 (.pick r33 (.c (.bool true)) r43)),
 q 0 (o d45 (.nilc r28)),
 q 0 (o d46 (.fad 24 r45)),
 w (o .no (.st1 r46 r44))]))))
def z152 : List Rs := []
def f152 : AF := .mk x152 z152
def k156_1 : KF := fun c i x r h => (fun (x0 x1 x2 x3 x4 : AV) =>
 tR (b_lt x4 x3 h) fun v5 h6 =>
 ifR v5 (tR (nic x0 h6) fun v7 h8 =>
 tR (fa 1 v7 h8) fun v9 h10 =>
 tR (ld v9 h10) fun v11 h12 =>
 tR (b_ne x4 v11 h12) fun v13 h14 =>
 ifR v13 (tT (c 206 [x0,x4,x1,x2] h14) fun v15 h16 =>
 tR (b_add x4 (pi 1) h16) fun v17 h18 =>
 .nm (T128 x0 x1 x2 x3 v17) h18) (tR (b_add x4 (pi 1) h14) fun v19 h20 =>
 .nm (T128 x0 x1 x2 x3 v19) h20)) (.ex 0 (T128 x0 x1 x2 x3 x4) h6)) (y0 r) (y1 r) (y2 r) (y11 r) (y12 r)
def k156_0 : KF := fun c i x r h => (fun (x0 x1 x2 : AV) =>
 tR (nic x0 h) fun v3 h4 =>
 tR (fa 0 v3 h4) fun v5 h6 =>
 tR (ld v5 h6) fun v7 h8 =>
 tT (c 65 [v7] h8) fun v9 h10 =>
 x (T128 x0 x1 x2 v9 (pi 0)) h10) (y0 r) (y1 r) (y2 r)
def x156 : AC := (.shal k156_0 (.block 0 (.loop (.shal k156_1 .skip))))
def z156 : List Rs := []
def f156 : AF := .mk x156 z156
def k162_0 : KF := fun c i x r h => (fun (x0 x1 : AV) =>
 tR (nic x0 h) fun v2 h3 =>
 tR (fa 0 v2 h3) fun v4 h5 =>
 tR (ld v4 h5) fun v6 h7 =>
 tR (lkp (.one .i) (.str []) true v6 x1 h7) fun v8 h9 =>
 tR (o_ext 0 (.c v8) .nil h9) fun v10 h11 =>
 tR (o_ext 1 (.c v8) .nil h11) fun v12 h13 =>
 .ret (T22 v10 v12) h13) (y0 r) (y1 r)
def x162 : AC := (.shal k162_0 .skip)
def z162 : List Rs := [.t .h0 .h4,.t .h0 .h5]
def f162 : AF := .mk x162 z162
def k163_2 : KF := fun c i x r h => (fun (x0 x1 x2 : AV) =>
 tR (b_gt x2 (pi 0) h) fun v3 h4 =>
 ifR v3 (tR (b_sub x2 (pi 1) h4) fun v5 h6 =>
 tR (bK .shl x0 (.int .u64 (.ofNat 8)) h6) fun v7 h8 =>
 tR (ix 1 x1 v5 h8) fun v9 h10 =>
 tR (ld v9 h10) fun v11 h12 =>
 tR (cK (.toInt .u64) v11 h12) fun v13 h14 =>
 tR (b_or v7 v13 h14) fun v15 h16 =>
 .go 0 (T129 u v15 x1 v5) h16) (.ret (T1 x0) h4)) (y5 r) (y6 r) (y7 r)
def k163_1 : KF := fun c i x r h => (fun (x0 x1 : AV) =>
 tT (c 226 [x0,x1] h) fun v2 h3 =>
 tR (len v2 h3) fun v4 h5 =>
 x (T110 (.int .u64 (.ofNat 0)) v2 v4) h5) (y0 r) (y1 r)
def k163_0 : KF := fun c i x r h => (fun (x0 x1 : AV) =>
 x (T7 x0 x1) h) (y0 r) (y1 r)
def x163 : AC := (.shal k163_0 (.scope (.shal k163_1 (.seq (.label 0) (.shal k163_2 .skip)))))
def z163 : List Rs := [.t .h0 .h4]
def f163 : AF := .mk x163 z163
def k165_0 : KF := fun c i x r h => (fun (x0 : AV) =>
 tT (c 227 [x0] h) fun v1 h2 =>
 tR (cK (.toInt .u8) v1 h2) fun v3 h4 =>
 tR (bK .shr v1 (.int .u64 (.ofNat 8)) h4) fun v5 h6 =>
 tR (cK (.toInt .u8) v5 h6) fun v7 h8 =>
 tR (bK .shr v1 (.int .u64 (.ofNat 16)) h8) fun v9 h10 =>
 tR (cK (.toInt .u8) v9 h10) fun v11 h12 =>
 tR (bK .shr v1 (.int .u64 (.ofNat 24)) h12) fun v13 h14 =>
 tR (cK (.toInt .u8) v13 h14) fun v15 h16 =>
 tR (o_bslice 5 1 4 [(.int .u8 (.ofNat 0)),(.int .u8 (.ofNat 0)),(.int .u8 (.ofNat 0)),(.int .u8 (.ofNat 0))] [.mk 0 1 (.c v3),.mk 1 1 (.c v7),.mk 2 1 (.c v11),.mk 3 1 (.c v15)] .nil h16) fun v17 h18 =>
 tR (appV 5 1 v17 x0 h18) fun v19 h20 =>
 .ret (T14 v19) h20) (y0 r)
def x165 : AC := (.shal k165_0 .skip)
def z165 : List Rs := [.t .h0 .h2]
def f165 : AF := .mk x165 z165
def k166_0 : KF := fun c i x r h => (fun (x0 x1 : AV) =>
 tR (o_box 208 (.c x0) .nil h) fun v2 h3 =>
 tR (o_box 208 (.c x1) .nil h3) fun v4 h5 =>
 tR (o_ldn 2 (.c v2) .nil h5) fun v6 h7 =>
 tR (o_ldn 2 (.c v4) .nil h7) fun v8 h9 =>
 tT (c 228 [v6,v8] h9) fun v10 h11 =>
 tR (b_lt v10 (pi 0) h11) fun v12 h13 =>
 .ret (T1 v12) h13) (y0 r) (y1 r)
def x166 : AC := (.shal k166_0 .skip)
def z166 : List Rs := [.t .h0 .h4]
def f166 : AF := .mk x166 z166
def k167_0 : KF := fun c i x r h => (fun (x0 x1 : AV) =>
 tR (o_alloc 227 4 (.k1 (.mk (pi 0) (pi 0) (pi 0) (.str []) .undef .undef .undef .undef .undef .undef .undef .undef .undef .undef .undef .undef)) .nil h) fun v2 h3 =>
 tR (nic x0 h3) fun v4 h5 =>
 tR (fa 2 v4 h5) fun v6 h7 =>
 tR (ld v6 h7) fun v8 h9 =>
 tR (lkp (.one .i) (.agg [(pi 0),(pi 0),(pi 0),(.str [])]) true v8 x1 h9) fun v10 h11 =>
 tR (o_ext 0 (.c v10) .nil h11) fun v12 h13 =>
 tR (o_ext 1 (.c v10) .nil h13) fun v14 h15 =>
 tR (o_alloc 227 4 (.k1 (.mk (pi 0) (pi 0) (pi 0) (.str []) .undef .undef .undef .undef .undef .undef .undef .undef .undef .undef .undef .undef)) .nil h15) fun v16 h17 =>
 tR (o_stn 4 (.c v16) (.c v12) .nil h17) fun v18 h19 =>
 tR (o_ldn 4 (.c v16) .nil h19) fun v20 h21 =>
 tR (o_stn 4 (.c v2) (.c v20) .nil h21) fun v22 h23 =>
 .ret (T22 v2 v14) h23) (y0 r) (y1 r)
def x167 : AC := (.shal k167_0 .skip)
def z167 : List Rs := [.agg 4 .h0 .h4,.t .h0 .h5]
def f167 : AF := .mk x167 z167
def k168_0 : KF := fun c i x r h => (fun (x0 : AV) =>
 tR (nic x0 h) fun v1 h2 =>
 tR (fa 2 v1 h2) fun v3 h4 =>
 tR (ld v3 h4) fun v5 h6 =>
 tR (b_ne v5 (pi 0) h6) fun v7 h8 =>
 .ret (T14 v7) h8) (y0 r)
def x168 : AC := (.shal k168_0 .skip)
def z168 : List Rs := [.t .h0 .h2]
def f168 : AF := .mk x168 z168
def k169_1 : KF := fun c i x r h => (fun (x0 x1 x2 x3 : AV) =>
 ifR x3 (tT (c 230 [x0,(pi 3),x1] h) fun v4 h5 =>
 .nm (T10 x0 x2) h5) (.nm (T10 x0 x2) h)) (y0 r) (y5 r) (y6 r) (y23 r)
def k169_2 : KF := fun c i x r h => (fun (x0 x1 : AV) =>
 tT (c 226 [x0,x1] h) fun v2 h3 =>
 tR (cK .b2s v2 h3) fun v4 h5 =>
 .ret (T1 v4) h5) (y0 r) (y6 r)
def k169_0 : KF := fun c i x r h => (fun (x0 x1 : AV) =>
 tR (nic x0 h) fun v2 h3 =>
 tR (fa 1 v2 h3) fun v4 h5 =>
 tR (ld v4 h5) fun v6 h7 =>
 tT (c 229 [x0] h7) fun v8 h9 =>
 x (T0 x0 x1 v6 v8) h9) (y0 r) (y1 r)
def x169 : AC := (.shal k169_0 (.seq (.seq (.ops [m d13 r0,
 o d14 (.nilc r13),
 o d15 (.fad 2 r14),
 o d16 (.ld1 r15),
 o d17 (.bin .eq r16 a0),
 m d18 r17,
 .g .h1 .h2 true d19 (.op (.mv r6)),
 .g .h1 .h2 true d20 (.op (.mv r1)),
 .g .h1 .h2 true d21 (.op (.max false [r20,a0])),
 .g .h1 .h2 true d22 (.op (.bin .gt r19 r21)),
 o d23 (.pick r18 r22 (.c (.bool false)))]) (.shal k169_1 .skip)) (.shal k169_2 .skip)))
def z169 : List Rs := [.t .h0 .h4]
def f169 : AF := .mk x169 z169
def k170_2 : KF := fun c i x r h => (fun (x0 x1 x2 x3 : AV) =>
 ifR x3 (.ret (T8 (.bool false)) h) (.nm (T93 x0 x1 x2) h)) (y0 r) (y1 r) (y2 r) (y30 r)
def k170_1 : KF := fun c i x r h => (fun (x0 x1 x2 : AV) =>
 tR (nic x0 h) fun v3 h4 =>
 tR (fa 0 v3 h4) fun v5 h6 =>
 tR (ld v5 h6) fun v7 h8 =>
 tR (lkp (.one .i) (.str []) true v7 x1 h8) fun v9 h10 =>
 tR (o_ext 0 (.c v9) .nil h10) fun v11 h12 =>
 tR (o_ext 1 (.c v9) .nil h12) fun v13 h14 =>
 x (T130 x0 x1 x2 v13) h14) (y0 r) (y1 r) (y2 r)
def k170_3 : KF := fun c i x r h => (fun (x0 x1 x2 : AV) =>
 tR (nic x0 h) fun v3 h4 =>
 tR (fa 0 v3 h4) fun v5 h6 =>
 tR (ld v5 h6) fun v7 h8 =>
 tR (mup (.one .i) v7 x1 x2 h8) fun v9 h10 =>
 .ret (T8 (.bool true)) h10) (y0 r) (y1 r) (y2 r)
def k170_0 : KF := fun c i x r h => (fun (x0 x1 x2 : AV) =>
 x (T93 x0 x1 x2) h) (y0 r) (y1 r) (y2 r)
def x170 : AC := (.shal k170_0 (.seq (.shal k170_1 (.seq (.ops [m d18 r8,
 m d19 r18,
 .g .h1 .h3 false d20 (.op (.mv r1)),
 .g .h1 .h3 false d21 (.op (.mv r0)),
 .g .h1 .h3 false d22 (.op (.nilc r21)),
 .g .h1 .h3 false d23 (.op (.fad 1 r22)),
 .g .h1 .h3 false d24 (.op (.ld1 r23)),
 .g .h1 .h3 false d25 (.op (.bin .lt r20 r24)),
 o d26 (.pick r19 (.c (.bool true)) r25),
 m d27 r26,
 .g .h1 .hb false d28 (.op (.mv r1)),
 .g .h1 .hb false d29 (.op (.bin .ge r28 (.c (pi 1048576)))),
 o d30 (.pick r27 (.c (.bool true)) r29)]) (.shal k170_2 .skip))) (.shal k170_3 .skip)))
def z170 : List Rs := [.t .h0 .h6]
def f170 : AF := .mk x170 z170
def k173_0 : KF := fun c i x r h => (fun (x0 : AV) =>
 tR (o_alloc 258 3 (.k1 (.mk (pi 0) (pi 0) (pi 0) .undef .undef .undef .undef .undef .undef .undef .undef .undef .undef .undef .undef .undef)) .nil h) fun v1 h2 =>
 tT (c 103 [x0] h2) fun v3 h4 =>
 tR (o_build [(pi 0),(pi 0),(pi 0)] [.mk 0 1 (.c v3)] .nil h4) fun v5 h6 =>
 tR (o_alloc 258 3 (.k1 (.mk (pi 0) (pi 0) (pi 0) .undef .undef .undef .undef .undef .undef .undef .undef .undef .undef .undef .undef .undef)) .nil h6) fun v7 h8 =>
 tR (o_stn 3 (.c v7) (.c v5) .nil h8) fun v9 h10 =>
 tT (c 103 [x0] h10) fun v11 h12 =>
 tR (fa 1 v7 h12) fun v13 h14 =>
 tR (sto v13 v11 h14) fun v15 h16 =>
 tT (c 103 [x0] h16) fun v17 h18 =>
 tR (fa 2 v7 h18) fun v19 h20 =>
 tR (sto v19 v17 h20) fun v21 h22 =>
 tR (o_ldn 3 (.c v7) .nil h22) fun v23 h24 =>
 tR (o_stn 3 (.c v1) (.c v23) .nil h24) fun v25 h26 =>
 .ret (T14 v1) h26) (y0 r)
def x173 : AC := (.shal k173_0 .skip)
def z173 : List Rs := [.agg 3 .h0 .h2]
def f173 : AF := .mk x173 z173
def k174_0 : KF := fun c i x r h => (fun (x0 : AV) =>
 tT (c 56 [] h) fun v1 h2 =>
 tT (c 165 [x0] h2) fun v3 h4 =>
 tR (len v3 h4) fun v5 h6 =>
 tT (c 57 [v1,v5] h6) fun v7 h8 =>
 tT (c 58 [v1] h8) fun v9 h10 =>
 tR (appV 5 1 v9 v3 h10) fun v11 h12 =>
 .ret (T14 v11) h12) (y0 r)
def x174 : AC := (.shal k174_0 .skip)
def z174 : List Rs := [.t .h0 .h2]
def f174 : AF := .mk x174 z174
def k178_0 : KF := fun c i x r h => (fun (x0 x1 : AV) =>
 tR (o_box 258 (.c x1) .nil h) fun v2 h3 =>
 tR (fa 0 v2 h3) fun v4 h5 =>
 tR (ld v4 h5) fun v6 h7 =>
 tT (c 57 [x0,v6] h7) fun v8 h9 =>
 tR (fa 1 v2 h9) fun v10 h11 =>
 tR (ld v10 h11) fun v12 h13 =>
 tT (c 57 [x0,v12] h13) fun v14 h15 =>
 tR (fa 2 v2 h15) fun v16 h17 =>
 tR (ld v16 h17) fun v18 h19 =>
 tT (c 57 [x0,v18] h19) fun v20 h21 =>
 .nm T5 h21) (y0 r) (y1 r)
def x178 : AC := (.shal k178_0 .skip)
def z178 : List Rs := []
def f178 : AF := .mk x178 z178
def k180_0 : KF := fun c i x r h => (fun (x0 : AV) =>
 tR (o_alloc 258 3 (.k1 (.mk (pi 0) (pi 0) (pi 0) .undef .undef .undef .undef .undef .undef .undef .undef .undef .undef .undef .undef .undef)) .nil h) fun v1 h2 =>
 tR (cK (.s2b 5) x0 h2) fun v3 h4 =>
 tT (c 69 [v3] h4) fun v5 h6 =>
 tT (c 173 [v5] h6) fun v7 h8 =>
 tR (o_alloc 258 3 (.k1 (.mk (pi 0) (pi 0) (pi 0) .undef .undef .undef .undef .undef .undef .undef .undef .undef .undef .undef .undef .undef)) .nil h8) fun v9 h10 =>
 tR (o_stn 3 (.c v9) (.c v7) .nil h10) fun v11 h12 =>
 tT (c 105 [v5] h12) fun v13 h14 =>
 tR (b_eq v13 (pi 1) h14) fun v15 h16 =>
 x (T131 x0 v1 v5 v9 v15) h16) (y0 r)
def x180 : AC := (.shal k180_0 (.seq (.drw [q 0 (m d21 r5),
 w (.o d22 (.call 236 [r21])),
 q 1 (o d16 (.ldn 3 r6)),
 w (o .no (.stn 3 r2 r16)),
 q 2 (m d17 r7),
 q 2 (m d18 r0),
 q 2 (m d19 r0),
 q 2 (o d20 (.lent r19)),
 q 1 (o d23 (.bin .sub r20 r22)),
 q 1 (o d24 (.slcs r18 (.some r23) .none)),
 q 0 (m d3 r17),
 q 0 (m d4 r24)]) .ret))
def z180 : List Rs := [.agg 3 .h0 .h2,.t .h0 .h3,.t .h0 .h4]
def f180 : AF := .mk x180 z180
def k181_2 : KF := fun c i x r h => (fun (x0 x1 : AV) =>
 tR (o_ldn 6 (.c x1) .nil h) fun v2 h3 =>
 tR (o_stn 6 (.c x0) (.c v2) .nil h3) fun v4 h5 =>
 .ret (T22 x0 (.bool true)) h5) (y4 r) (y7 r)
def k181_1 : KF := fun c i x r h => (fun (x0 x1 x2 : AV) =>
 tR (nic x0 h) fun v3 h4 =>
 tR (fa 17 v3 h4) fun v5 h6 =>
 tR (ld v5 h6) fun v7 h8 =>
 tR (ix 6 v7 x2 h8) fun v9 h10 =>
 tR (o_ldn 6 (.c v9) .nil h10) fun v11 h12 =>
 tR (o_alloc 260 6 (.k1 (.mk (pi 0) (pi 0) (pi 0) (.bool false) (.str []) (pi 0) .undef .undef .undef .undef .undef .undef .undef .undef .undef .undef)) .nil h12) fun v13 h14 =>
 tR (o_stn 6 (.c v13) (.c v11) .nil h14) fun v15 h16 =>
 tR (nic x0 h16) fun v17 h18 =>
 tR (fa 17 v17 h18) fun v19 h20 =>
 tR (ld v19 h20) fun v21 h22 =>
 tT (c 240 [v21] h22) fun v23 h24 =>
 tR (b_add x2 (pi 1) h24) fun v25 h26 =>
 tT (c 239 [v23,x2,v25] h26) fun v27 h28 =>
 tR (nic x0 h28) fun v29 h30 =>
 tR (fa 17 v29 h30) fun v31 h32 =>
 tR (sto v31 v27 h32) fun v33 h34 =>
 x (T133 x1 v13) h34) (y0 r) (y4 r) (y6 r)
def k181_0 : KF := fun c i x r h => (fun (x0 x1 : AV) =>
 tR (o_box 258 (.c x1) .nil h) fun v2 h3 =>
 tR (o_alloc 260 6 (.k1 (.mk (pi 0) (pi 0) (pi 0) (.bool false) (.str []) (pi 0) .undef .undef .undef .undef .undef .undef .undef .undef .undef .undef)) .nil h3) fun v4 h5 =>
 tR (nic x0 h5) fun v6 h7 =>
 tR (fa 17 v6 h7) fun v8 h9 =>
 tR (ld v8 h9) fun v10 h11 =>
 tT (c 237 [v10,(.fn 238 [v2])] h11) fun v12 h13 =>
 tR (b_lt v12 (pi 0) h13) fun v14 h15 =>
 ifR v14 (tR (o_build [(pi 0),(pi 0),(pi 0),(.bool false),(.str []),(pi 0)] [] .nil h15) fun v16 h17 =>
 tR (o_stn 6 (.c v4) (.c v16) .nil h17) fun v18 h19 =>
 .ret (T22 v4 (.bool false)) h19) (x (T132 x0 v4 v12) h15)) (y0 r) (y1 r)
def x181 : AC := (.shal k181_0 (.shal k181_1 (.shal k181_2 .skip)))
def z181 : List Rs := [.agg 6 .h0 .h4,.t .h0 .h5]
def f181 : AF := .mk x181 z181
def k182_0 : KF := fun c i x r h => (fun (x0 : AV) =>
 tR (b_lt x0 (pi 10) h) fun v1 h2 =>
 ifR v1 (tR (b_add x0 (pi 1) h2) fun v3 h4 =>
 tR (o_slcs (.c (.str [48,49,50,51,52,53,54,55,56,57,97,98,99,100,101,102,103,104,105,106,107,108,109,110,111,112,113,114,115,116,117,118,119,120,121,122])) (.some (.c x0)) (.some (.c v3)) .nil h4) fun v5 h6 =>
 .ret (T14 v5) h6) (tR (b_mul x0 (pi 2) h2) fun v7 h8 =>
 tR (b_mul x0 (pi 2) h8) fun v9 h10 =>
 tR (b_add v9 (pi 2) h10) fun v11 h12 =>
 tR (o_slcs (.c (.str [48,48,48,49,48,50,48,51,48,52,48,53,48,54,48,55,48,56,48,57,49,48,49,49,49,50,49,51,49,52,49,53,49,54,49,55,49,56,49,57,50,48,50,49,50,50,50,51,50,52,50,53,50,54,50,55,50,56,50,57,51,48,51,49,51,50,51,51,51,52,51,53,51,54,51,55,51,56,51,57,52,48,52,49,52,50,52,51,52,52,52,53,52,54,52,55,52,56,52,57,53,48,53,49,53,50,53,51,53,52,53,53,53,54,53,55,53,56,53,57,54,48,54,49,54,50,54,51,54,52,54,53,54,54,54,55,54,56,54,57,55,48,55,49,55,50,55,51,55,52,55,53,55,54,55,55,55,56,55,57,56,48,56,49,56,50,56,51,56,52,56,53,56,54,56,55,56,56,56,57,57,48,57,49,57,50,57,51,57,52,57,53,57,54,57,55,57,56,57,57])) (.some (.c v7)) (.some (.c v11)) .nil h12) fun v13 h14 =>
 .ret (T14 v13) h14)) (y0 r)
def x182 : AC := (.shal k182_0 .skip)
def z182 : List Rs := [.t .h0 .h2]
def f182 : AF := .mk x182 z182
def k190_2 : KF := fun c i x r h => .ret (T9 (pi 0) (pi 0)) h
def k190_1 : KF := fun c i x r h => (fun (x0 : AV) =>
 tR (nic x0 h) fun v1 h2 =>
 tR (fa 2 v1 h2) fun v3 h4 =>
 tR (ld v3 h4) fun v5 h6 =>
 tR (b_ne v5 (pi 0) h6) fun v7 h8 =>
 ifR v7 (tQ (nic x0 h8) fun v9 =>
 tQ (fa 2 v9 h8) fun v10 =>
 tQ (ld v10 h8) fun v11 =>
 tQ (nic x0 h8) fun v12 =>
 tQ (fa 3 v12 h8) fun v13 =>
 tQ (ld v13 h8) fun v14 =>
 .ret (T9 v11 v14) h8) (tQ (nic x0 h8) fun v15 =>
 tQ (fa 1 v15 h8) fun v16 =>
 tQ (ld v16 h8) fun v17 =>
 tQ (nic x0 h8) fun v18 =>
 tQ (fa 0 v18 h8) fun v19 =>
 tQ (ld v19 h8) fun v20 =>
 tQ (len v20 h8) fun v21 =>
 tQ (b_lt v17 v21 h8) fun v22 =>
 ifR v22 (tQ (nic x0 h8) fun v23 =>
 tQ (fa 1 v23 h8) fun v24 =>
 tQ (ld v24 h8) fun v25 =>
 .ret (T9 (pi 11) v25) h8) (x T5 h8))) (y0 r)
def k190_0 : KF := fun c i x r h => (fun (x0 : AV) =>
 x (T13 x0) h) (y0 r)
def x190 : AC := (.shal k190_0 (.shal k190_1 (.shal k190_2 .skip)))
def z190 : List Rs := [.t .h0 .h2,.t .h0 .h3]
def f190 : AF := .mk x190 z190
def k193_0 : KF := fun c i x r h => (fun (x0 x1 : AV) =>
 tR (cK .b2s x0 h) fun v2 h3 =>
 tR (cK .b2s x1 h3) fun v4 h5 =>
 tR (b_seq v2 v4 h5) fun v6 h7 =>
 .ret (T1 v6) h7) (y0 r) (y1 r)
def x193 : AC := (.shal k193_0 .skip)
def z193 : List Rs := [.t .h0 .h4]
def f193 : AF := .mk x193 z193
def k195_1 : KF := fun c i x r h => (fun (x0 x1 x2 x3 x4 : AV) =>
 ifR x4 (tR (o_build [(pi 0),(pi 0),(.str [])] [] .nil h) fun v5 h6 =>
 tR (o_stn 3 (.c x3) (.c v5) .nil h6) fun v7 h8 =>
 .ret (T12 (pi 0) x3) h8) (tR (nic x0 h) fun v9 h10 =>
 tR (fa 0 v9 h10) fun v11 h12 =>
 tR (o_ixa 16 4 (.c v11) (.c x1) .nil h12) fun v13 h14 =>
 tR (fa 0 v13 h14) fun v15 h16 =>
 tR (ld v15 h16) fun v17 h18 =>
 tR (b_gt x2 v17 h18) fun v19 h20 =>
 ifR v19 (tR (o_build [(pi 0),(pi 0),(.str [])] [] .nil h20) fun v21 h22 =>
 tR (o_stn 3 (.c x3) (.c v21) .nil h22) fun v23 h24 =>
 .ret (T12 (pi 1) x3) h24) (tR (nic x0 h20) fun v25 h26 =>
 tR (fa 0 v25 h26) fun v27 h28 =>
 tR (o_ixa 16 4 (.c v27) (.c x1) .nil h28) fun v29 h30 =>
 tR (fa 0 v29 h30) fun v31 h32 =>
 tR (ld v31 h32) fun v33 h34 =>
 tR (b_eq x2 v33 h34) fun v35 h36 =>
 ifR v35 (tQ (nic x0 h36) fun v37 =>
 tQ (fa 0 v37 h36) fun v38 =>
 tQ (o_ixa 16 4 (.c v38) (.c x1) .nil h36) fun v39 =>
 tQ (fa 1 v39 h36) fun v40 =>
 tQ (o_ldn 3 (.c v40) .nil h36) fun v41 =>
 tX (RV.toT (o_stn 3 (.c x3) (.c v41) .nil h36)) fun v42 h43 =>
 .ret (T12 (pi 2) x3) h43) (.nm (T134 x3) h36)))) (y0 r) (y1 r) (y2 r) (y7 r) (y8 r)
def k195_2 : KF := fun c i x r h => (fun (x0 : AV) =>
 tR (o_build [(pi 0),(pi 0),(.str [])] [] .nil h) fun v1 h2 =>
 tR (o_stn 3 (.c x0) (.c v1) .nil h2) fun v3 h4 =>
 .ret (T12 (pi 3) x0) h4) (y7 r)
def k195_0 : KF := fun c i x r h => (fun (x0 x1 x2 : AV) =>
 tR (o_alloc 28 3 (.k1 (.mk (pi 0) (pi 0) (.str []) .undef .undef .undef .undef .undef .undef .undef .undef .undef .undef .undef .undef .undef)) .nil h) fun v3 h4 =>
 x (T97 x0 x1 x2 v3) h4) (y0 r) (y1 r) (y2 r)
def x195 : AC := (.shal k195_0 (.seq (.block 0 (.seq (.ops [m d9 r1,
 o d10 (.bin .lt r9 a0),
 m d11 r10,
 .g .h0 .hb false d12 (.op (.mv r1)),
 .g .h0 .hb false d13 (.op (.bin .ge r12 (.c (pi 16)))),
 o d14 (.pick r11 (.c (.bool true)) r13),
 m d15 r14,
 .g .h0 .hf false d16 (.op (.mv r2)),
 .g .h0 .hf false d17 (.op (.bin .lt r16 a1)),
 o d18 (.pick r15 (.c (.bool true)) r17),
 m d19 r18,
 .g .h1 .h3 false d20 (.op (.mv r2)),
 .g .h1 .h3 false d21 (.op (.bin .gt r20 (.c (pi 1073741824)))),
 o d22 (.pick r19 (.c (.bool true)) r21),
 m d8 r22]) (.shal k195_1 .skip))) (.shal k195_2 .skip)))
def z195 : List Rs := [.t .h0 .h6,.agg 3 .h0 .h7]
def f195 : AF := .mk x195 z195
def k196_4 : KF := fun c i x r h => (fun (x0 x1 : AV) =>
 tR (o_build [(pi 0),(pi 0),(.str [])] [.mk 0 1 (.c x1)] .nil h) fun v2 h3 =>
 tR (o_stn 3 (.c x0) (.c v2) .nil h3) fun v4 h5 =>
 .ret (T1 x0) h5) (y4 r) (y5 r)
def k196_3 : KF := fun c i x r h => (fun (x0 x1 x2 : AV) =>
 tQ (nic x0 h) fun v3 =>
 tQ (fa 0 v3 h) fun v4 =>
 tQ (ld v4 h) fun v5 =>
 tQ (fa 3 x1 h) fun v6 =>
 tQ (ld v6 h) fun v7 =>
 tQ (fa 5 x1 h) fun v8 =>
 tQ (ld v8 h) fun v9 =>
 tX (c 246 [v5,v7,v9] h) fun v10 h11 =>
 tR (b_eq v10 (pi 0) h11) fun v12 h13 =>
 ifR v12 (tR (fa 3 x1 h13) fun v14 h15 =>
 tR (ld v14 h15) fun v16 h17 =>
 tR (fa 5 x1 h17) fun v18 h19 =>
 tR (ld v18 h19) fun v20 h21 =>
 tT (c 256 [x0,v16,v20] h21) fun v22 h23 =>
 x (T22 x2 v10) h23) (x (T22 x2 v10) h13)) (y0 r) (y3 r) (y4 r)
def k196_7 : KF := fun c i x r h => (fun (x0 x1 x2 : AV) =>
 tR (fa 3 x1 h) fun v3 h4 =>
 tR (ld v3 h4) fun v5 h6 =>
 tR (fa 4 x1 h6) fun v7 h8 =>
 tR (ld v7 h8) fun v9 h10 =>
 tT (c 260 [x0,v5,v9] h10) fun v11 h12 =>
 tR (o_stn 3 (.c x2) (.c v11) .nil h12) fun v13 h14 =>
 .ret (T1 x2) h14) (y0 r) (y3 r) (y4 r)
def k196_6 : KF := fun c i x r h => (fun (x0 x1 x2 x3 : AV) =>
 tR (b_eq x3 (pi 3) h) fun v4 h5 =>
 x (T138 x0 x1 x2 v4) h5) (y0 r) (y3 r) (y4 r) (y10 r)
def k196_5 : KF := fun c i x r h => (fun (x0 x1 x2 x3 : AV) =>
 tR (b_eq x3 (pi 2) h) fun v4 h5 =>
 x (T137 x0 x1 x2 x3 v4) h5) (y0 r) (y3 r) (y4 r) (y10 r)
def k196_2 : KF := fun c i x r h => (fun (x0 x1 x2 x3 : AV) =>
 tR (b_eq x3 (pi 1) h) fun v4 h5 =>
 x (T136 x0 x1 x2 x3 v4) h5) (y0 r) (y3 r) (y4 r) (y10 r)
def k196_1 : KF := fun c i x r h => (fun (x0 x1 x2 : AV) =>
 tR (fa 2 x1 h) fun v3 h4 =>
 tR (ld v3 h4) fun v5 h6 =>
 x (T135 x0 x1 x2 v5) h6) (y0 r) (y3 r) (y4 r)
def k196_8 : KF := fun c i x r h => (fun (x0 : AV) =>
 tR (o_build [(pi 0),(pi 0),(.str [])] [.mk 0 1 (.c (pi 12))] .nil h) fun v1 h2 =>
 tR (o_stn 3 (.c x0) (.c v1) .nil h2) fun v3 h4 =>
 .ret (T1 x0) h4) (y4 r)
def k196_0 : KF := fun c i x r h => (fun (x0 x1 : AV) =>
 tR (o_box 34 (.c x1) .nil h) fun v2 h3 =>
 tR (o_alloc 28 3 (.k1 (.mk (pi 0) (pi 0) (.str []) .undef .undef .undef .undef .undef .undef .undef .undef .undef .undef .undef .undef .undef)) .nil h3) fun v4 h5 =>
 x (T45 x0 v2 v4) h5) (y0 r) (y1 r)
def x196 : AC := (.shal k196_0 (.seq (.shal k196_1 (.block 0 (.shal k196_2 (.cond r11 (.shal k196_3 (.shal k196_4 .skip)) (.shal k196_5 (.cond r32 (.bad 0) (.shal k196_6 (.cond r58 (.shal k196_7 .skip) (.bad 0))))))))) (.shal k196_8 .skip)))
def z196 : List Rs := [.agg 3 .h0 .h4]
def f196 : AF := .mk x196 z196
def k197_1 : KF := fun c i x r h => (fun (x0 x1 x2 x3 : AV) =>
 tQ (o_ldn 3 (.c x3) .nil h) fun v4 =>
 tQ (o_build [(pi 0),(pi 0),(pi 0),(.str [])] [.mk 0 1 (.c x2),.mk 1 3 (.c v4)] .nil h) fun v5 =>
 tQ (nic x0 h) fun v6 =>
 tQ (fa 0 v6 h) fun v7 =>
 tQ (o_ixa 16 4 (.c v7) (.c x1) .nil h) fun v8 =>
 tX (RV.toT (o_stn 4 (.c v8) (.c v5) .nil h)) fun v9 h10 =>
 .ret (T139 (pi 0)) h10) (y0 r) (y1 r) (y2 r) (y7 r)
def k197_0 : KF := fun c i x r h => (fun (x0 x1 x2 x3 : AV) =>
 tR (o_box 28 (.c x3) .nil h) fun v4 h5 =>
 tT (c 195 [x0,x1,x2] h5) fun v6 h7 =>
 tR (o_ext 0 (.c v6) .nil h7) fun v8 h9 =>
 tR (o_ext 1 (.c v6) .nil h9) fun v10 h11 =>
 tR (o_alloc 28 3 (.k1 (.mk (pi 0) (pi 0) (.str []) .undef .undef .undef .undef .undef .undef .undef .undef .undef .undef .undef .undef .undef)) .nil h11) fun v12 h13 =>
 tR (o_stn 3 (.c v12) (.c v10) .nil h13) fun v14 h15 =>
 tR (b_ne v8 (pi 1) h15) fun v16 h17 =>
 ifR v16 (.ret (T139 (pi 1)) h17) (x (T97 x0 x1 x2 v4) h17)) (y0 r) (y1 r) (y2 r) (y3 r)
def x197 : AC := (.shal k197_0 (.shal k197_1 .skip))
def z197 : List Rs := [.t .h0 .h8]
def f197 : AF := .mk x197 z197
def k199_1 : KF := fun c i x r h => (fun (x0 x1 x2 x3 x4 : AV) =>
 ifR x4 (.ret T5 h) (.nm (T96 x0 x1 x2 x3) h)) (y0 r) (y1 r) (y2 r) (y6 r) (y31 r)
def k199_4 : KF := fun c i x r h => (fun (x0 x1 x2 x3 : AV) =>
 tR (o_ldn 2 (.c x3) .nil h) fun v4 h5 =>
 tT (c 221 [x0,v4,x1,x2] h5) fun v6 h7 =>
 .nm T5 h7) (y0 r) (y1 r) (y2 r) (y6 r)
def k199_3 : KF := fun c i x r h => (fun (x0 x1 x2 x3 : AV) =>
 tQ (nic x0 h) fun v4 =>
 tQ (fa 8 v4 h) fun v5 =>
 tQ (ld v5 h) fun v6 =>
 tQ (nic x0 h) fun v7 =>
 tQ (fa 1 v7 h) fun v8 =>
 tQ (ld v8 h) fun v9 =>
 tQ (o_ldn 2 (.c x3) .nil h) fun v10 =>
 tX (c 213 [v6,v9,v10,x1] h) fun v11 h12 =>
 ifR v11 (tT (c 215 [x0,x1,x2] h12) fun v13 h14 =>
 x (T96 x0 x1 x2 x3) h14) (x (T96 x0 x1 x2 x3) h12)) (y0 r) (y1 r) (y2 r) (y6 r)
def k199_2 : KF := fun c i x r h => (fun (x0 x1 x2 x3 : AV) =>
 tR (o_ldn 2 (.c x3) .nil h) fun v4 h5 =>
 tT (c 211 [x0,v4,x1,x2] h5) fun v6 h7 =>
 tR (u_not v6 h7) fun v8 h9 =>
 ifR v8 (tR (nic x0 h9) fun v10 h11 =>
 tR (fa 19 v10 h11) fun v12 h13 =>
 tR (sto v12 (pi 0) h13) fun v14 h15 =>
 .ret T5 h15) (x (T96 x0 x1 x2 x3) h9)) (y0 r) (y1 r) (y2 r) (y6 r)
def k199_0 : KF := fun c i x r h => (fun (x0 x1 x2 : AV) =>
 tR (nic x0 h) fun v3 h4 =>
 tR (fa 8 v3 h4) fun v5 h6 =>
 tR (ld v5 h6) fun v7 h8 =>
 tT (c 209 [v7] h8) fun v9 h10 =>
 tR (o_alloc 208 2 (.k1 (.mk (pi 0) (pi 0) .undef .undef .undef .undef .undef .undef .undef .undef .undef .undef .undef .undef .undef .undef)) .nil h10) fun v11 h12 =>
 tR (o_stn 2 (.c v11) (.c v9) .nil h12) fun v13 h14 =>
 tR (nic x0 h14) fun v15 h16 =>
 tR (fa 8 v15 h16) fun v17 h18 =>
 tR (ld v17 h18) fun v19 h20 =>
 tT (c 214 [v19,x1,x2] h20) fun v21 h22 =>
 tR (o_ext 0 (.c v21) .nil h22) fun v23 h24 =>
 tR (o_ext 1 (.c v21) .nil h24) fun v25 h26 =>
 x (T140 x0 x1 v23 v11 v25) h26) (y0 r) (y1 r) (y2 r)
def x199 : AC := (.shal k199_0 (.seq (.seq (.ops [m d23 r7,
 o d24 (.un .not r23),
 m d25 r24,
 .g .h1 .h9 false d26 (.op (.mv r0)),
 .g .h1 .h9 false d27 (.op (.nilc r26)),
 .g .h1 .h9 false d28 (.op (.fad 19 r27)),
 .g .h1 .h9 false d29 (.op (.ld1 r28)),
 .g .h1 .h9 false d30 (.op (.bin .ne r29 a2)),
 o d31 (.pick r25 (.c (.bool true)) r30)]) (.shal k199_1 .skip)) (.shal k199_2 (.shal k199_3 (.shal k199_4 .skip)))))
def z199 : List Rs := []
def f199 : AF := .mk x199 z199
def k200_1 : KF := fun c i x r h => (fun (x0 x1 : AV) =>
 tR (fa 3 x0 h) fun v2 h3 =>
 tR (ld v2 h3) fun v4 h5 =>
 ifR v4 (tT (c 58 [x1] h5) fun v6 h7 =>
 tR (cK .b2s v6 h7) fun v8 h9 =>
 .ret (T14 v8) h9) (x (T59 x0 x1) h5)) (y1 r) (y3 r)
def k200_0 : KF := fun c i x r h => (fun (x0 : AV) =>
 tR (o_box 260 (.c x0) .nil h) fun v1 h2 =>
 tT (c 56 [] h2) fun v3 h4 =>
 tR (fa 0 v1 h4) fun v5 h6 =>
 tR (o_ldn 3 (.c v5) .nil h6) fun v7 h8 =>
 tT (c 178 [v3,v7] h8) fun v9 h10 =>
 tR (fa 3 v1 h10) fun v11 h12 =>
 tR (ld v11 h12) fun v13 h14 =>
 ifR v13 (tT (c 76 [v3,(pi 1)] h14) fun v15 h16 =>
 x (T59 v1 v3) h16) (tT (c 76 [v3,(pi 0)] h14) fun v17 h18 =>
 x (T59 v1 v3) h18)) (y0 r)
def x200 : AC := (.shal k200_0 (.shal k200_1 (.seq (.drw [q 0 (m d20 r3),
 w (.o d21 (.call 58 [r20])),
 q 0 (o d22 (.conv .b2s r21)),
 q 1 (o d23 (.fad 4 r1)),
 q 1 (o d24 (.ld1 r23)),
 q 0 (o d25 (.bin .cat r22 r24)),
 q 0 (m d2 r25)]) .ret)))
def z200 : List Rs := [.t .h0 .h2]
def f200 : AF := .mk x200 z200
def k201_2 : KF := fun c i x r h => (fun (x0 x1 : AV) =>
 tR (nic x0 h) fun v2 h3 =>
 tR (fa 3 v2 h3) fun v4 h5 =>
 tR (o_ldn 2 (.c v4) .nil h5) fun v6 h7 =>
 tR (o_stn 2 (.c x1) (.c v6) .nil h7) fun v8 h9 =>
 .ret (T1 x1) h9) (y0 r) (y4 r)
def k201_1 : KF := fun c i x r h => (fun (x0 x1 x2 : AV) =>
 tR (maxV false [x1,(pi 0)] h) fun v3 h4 =>
 tR (nic x0 h4) fun v5 h6 =>
 tR (fa 5 v5 h6) fun v7 h8 =>
 tR (sto v7 v3 h8) fun v9 h10 =>
 tR (o_mkmap .nil h10) fun v11 h12 =>
 tR (nic x0 h12) fun v13 h14 =>
 tR (fa 6 v13 h14) fun v15 h16 =>
 tR (sto v15 v11 h16) fun v17 h18 =>
 tR (o_mkmap .nil h18) fun v19 h20 =>
 tR (nic x0 h20) fun v21 h22 =>
 tR (fa 7 v21 h22) fun v23 h24 =>
 tR (sto v23 v19 h24) fun v25 h26 =>
 tR (o_mkmap .nil h26) fun v27 h28 =>
 tR (nic x0 h28) fun v29 h30 =>
 tR (fa 8 v29 h30) fun v31 h32 =>
 tR (sto v31 v27 h32) fun v33 h34 =>
 x (T56 x0 x2) h34) (y0 r) (y1 r) (y4 r)
def k201_0 : KF := fun c i x r h => (fun (x0 x1 : AV) =>
 tR (o_alloc 208 2 (.k1 (.mk (pi 0) (pi 0) .undef .undef .undef .undef .undef .undef .undef .undef .undef .undef .undef .undef .undef .undef)) .nil h) fun v2 h3 =>
 tR (nic x0 h3) fun v4 h5 =>
 tR (fa 2 v4 h5) fun v6 h7 =>
 tR (ld v6 h7) fun v8 h9 =>
 tR (maxV true [v8,(pi 1073741823)] h9) fun v10 h11 =>
 tR (b_add v10 (pi 1) h11) fun v12 h13 =>
 tR (nic x0 h13) fun v14 h15 =>
 tR (fa 2 v14 h15) fun v16 h17 =>
 tR (sto v16 v12 h17) fun v18 h19 =>
 tQ (nic x0 h19) fun v20 =>
 tQ (fa 2 v20 h19) fun v21 =>
 tQ (ld v21 h19) fun v22 =>
 tQ (nic x0 h19) fun v23 =>
 tQ (fa 0 v23 h19) fun v24 =>
 tQ (ld v24 h19) fun v25 =>
 tQ (o_build [(pi 0),(pi 0)] [.mk 0 1 (.c v22),.mk 1 1 (.c v25)] .nil h19) fun v26 =>
 tQ (nic x0 h19) fun v27 =>
 tQ (fa 3 v27 h19) fun v28 =>
 tX (RV.toT (o_stn 2 (.c v28) (.c v26) .nil h19)) fun v29 h30 =>
 x (T66 x0 x1 v2) h30) (y0 r) (y1 r)
def x201 : AC := (.shal k201_0 (.shal k201_1 (.shal k201_2 .skip)))
def z201 : List Rs := [.agg 2 .h0 .h4]
def f201 : AF := .mk x201 z201
end
end Go.Am.Seat
