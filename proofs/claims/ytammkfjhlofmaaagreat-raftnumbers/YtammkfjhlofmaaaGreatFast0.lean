/- The same code in a form that runs faster, written by program. Nothing is asked. -/
import Derived.Test.YtammkfjhlofmaaaGreatHead
set_option linter.all false
namespace Go.Am.Seat
set_option linter.unusedVariables false
set_option maxRecDepth 20000
noncomputable section
def T0 (v2 v4 v5 v6 : AV) : A2 := N0 (.mk u u v2 u v4 v5 v6 u u u u u u u u u)
def T1 (v0 : AV) : A2 := N0 (.mk v0 u u u u u u u u u u u u u u u)
def T2 (v2 v4 v5 : AV) : A2 := N0 (.mk u u v2 u v4 v5 u u u u u u u u u u)
def T3 (v2 v4 v5 v7 : AV) : A2 := N0 (.mk u u v2 u v4 v5 u v7 u u u u u u u u)
def T4 (v2 v4 v5 v7 v8 v9 v10 v11 : AV) : A2 := N0 (.mk u u v2 u v4 v5 u v7 v8 v9 v10 v11 u u u u)
def T5 (v2 v4 v5 v7 v9 v10 v11 v12 v13 v14 v15 : AV) : A2 := N0 (.mk u u v2 u v4 v5 u v7 u v9 v10 v11 v12 v13 v14 v15)
def T6 (v2 v4 v5 v7 v9 v10 v11 v12 v13 v14 v15 v16 : AV) : A2 := N1 (.mk u u v2 u v4 v5 u v7 u v9 v10 v11 v12 v13 v14 v15) (.mk v16 u u u u u u u u u u u u u u u)
def T7 (v2 v3 : AV) : A2 := N0 (.mk u u v2 v3 u u u u u u u u u u u u)
def T8 (v0 v3 : AV) : A2 := N0 (.mk v0 u u v3 u u u u u u u u u u u u)
def T9 (v0 v3 v6 : AV) : A2 := N0 (.mk v0 u u v3 u u v6 u u u u u u u u u)
def T10 (v0 v3 v6 v7 : AV) : A2 := N0 (.mk v0 u u v3 u u v6 v7 u u u u u u u u)
def T11 (v0 v3 v6 v27 : AV) : A2 := N1 (.mk v0 u u v3 u u v6 u u u u u u u u u) (.mk u u u u u u u u u u u v27 u u u u)
def T12 (v4 : AV) : A2 := N0 (.mk u u u u v4 u u u u u u u u u u u)
def T13 (v0 v1 : AV) : A2 := N0 (.mk v0 v1 u u u u u u u u u u u u u u)
def T14 (v0 v1 v6 : AV) : A2 := N0 (.mk v0 v1 u u u u v6 u u u u u u u u u)
def T15 (v4 v5 : AV) : A2 := N0 (.mk u u u u v4 v5 u u u u u u u u u u)
def T16 (v1 v2 : AV) : A2 := N0 (.mk u v1 v2 u u u u u u u u u u u u u)
def T17 (v1 : AV) : A2 := N0 (.mk u v1 u u u u u u u u u u u u u u)
def T18 (v1 v3 : AV) : A2 := N0 (.mk u v1 u v3 u u u u u u u u u u u u)
def T19 (v0 v1 v5 : AV) : A2 := N0 (.mk v0 v1 u u u v5 u u u u u u u u u u)
def T20 (v2 : AV) : A2 := N0 (.mk u u v2 u u u u u u u u u u u u u)
def T21 (v0 v5 : AV) : A2 := N0 (.mk v0 u u u u v5 u u u u u u u u u u)
def T22 (v5 v12 v13 : AV) : A2 := N0 (.mk u u u u u v5 u u u u u u v12 v13 u u)
def T23 (v5 : AV) : A2 := N0 (.mk u u u u u v5 u u u u u u u u u u)
def T24 (v5 v6 v12 v13 : AV) : A2 := N0 (.mk u u u u u v5 v6 u u u u u v12 v13 u u)
def T25 (v5 v34 v35 v36 : AV) : A2 := N2 (.mk u u u u u v5 u u u u u u u u u u) .nil (.mk u u v34 v35 v36 u u u u u u u u u u u)
def T26 : A2 := .nil
def T27 (v0 v5 v6 : AV) : A2 := N0 (.mk v0 u u u u v5 v6 u u u u u u u u u)
def T28 (v0 v6 : AV) : A2 := N0 (.mk v0 u u u u u v6 u u u u u u u u u)
def T29 (v0 v1 v2 v9 : AV) : A2 := N0 (.mk v0 v1 v2 u u u u u u v9 u u u u u u)
def T30 (v0 v3 v12 v13 v14 : AV) : A2 := N0 (.mk v0 u u v3 u u u u u u u u v12 v13 v14 u)
def T31 (v3 v6 v32 v33 v34 : AV) : A2 := N2 (.mk u u u v3 u u v6 u u u u u u u u u) .nil (.mk v32 v33 v34 u u u u u u u u u u u u u)
def T32 (v6 : AV) : A2 := N0 (.mk u u u u u u v6 u u u u u u u u u)
def T33 (v3 v6 v8 v32 v33 v34 : AV) : A2 := N2 (.mk u u u v3 u u v6 u v8 u u u u u u u) .nil (.mk v32 v33 v34 u u u u u u u u u u u u u)
def T34 (v0 v7 v8 v9 : AV) : A2 := N0 (.mk v0 u u u u u u v7 v8 v9 u u u u u u)
def T35 (v0 v4 : AV) : A2 := N0 (.mk v0 u u u v4 u u u u u u u u u u u)
def T36 (v0 v81 v82 v83 : AV) : A2 := N5 (.mk v0 u u u u u u u u u u u u u u u) .nil .nil .nil .nil (.mk u v81 v82 v83 u u u u u u u u u u u u)
def T37 (v0 v1 v2 v11 v12 v13 : AV) : A2 := N0 (.mk v0 v1 v2 u u u u u u u u v11 v12 v13 u u)
def T38 (v0 v1 v2 : AV) : A2 := N0 (.mk v0 v1 v2 u u u u u u u u u u u u u)
def T39 (v0 v1 v2 v6 v7 v11 v12 v13 : AV) : A2 := N0 (.mk v0 v1 v2 u u u v6 v7 u u u v11 v12 v13 u u)
def T40 (v0 v1 v2 v6 v11 v12 v13 : AV) : A2 := N0 (.mk v0 v1 v2 u u u v6 u u u u v11 v12 v13 u u)
def T41 (v0 v1 v2 v6 : AV) : A2 := N0 (.mk v0 v1 v2 u u u v6 u u u u u u u u u)
def T42 (v0 v1 v2 v7 : AV) : A2 := N0 (.mk v0 v1 v2 u u u u v7 u u u u u u u u)
def T43 (v0 v3 v4 : AV) : A2 := N0 (.mk v0 u u v3 v4 u u u u u u u u u u u)
def T44 (v0 v3 v4 v5 v6 : AV) : A2 := N0 (.mk v0 u u v3 v4 v5 v6 u u u u u u u u u)
def T45 (v0 v3 v4 v6 v29 : AV) : A2 := N1 (.mk v0 u u v3 v4 u v6 u u u u u u u u u) (.mk u u u u u u u u u u u u u v29 u u)
def T46 (v0 v3 v4 v6 v29 v30 : AV) : A2 := N1 (.mk v0 u u v3 v4 u v6 u u u u u u u u u) (.mk u u u u u u u u u u u u u v29 v30 u)
def T47 (v0 v3 v4 v6 v29 v38 : AV) : A2 := N2 (.mk v0 u u v3 v4 u v6 u u u u u u u u u) (.mk u u u u u u u u u u u u u v29 u u) (.mk u u u u u u v38 u u u u u u u u u)
def T48 (v0 v3 v4 v6 v29 v46 : AV) : A2 := N2 (.mk v0 u u v3 v4 u v6 u u u u u u u u u) (.mk u u u u u u u u u u u u u v29 u u) (.mk u u u u u u u u u u u u u u v46 u)
def T49 (v0 v3 v4 v6 v29 v54 : AV) : A2 := N3 (.mk v0 u u v3 v4 u v6 u u u u u u u u u) (.mk u u u u u u u u u u u u u v29 u u) .nil (.mk u u u u u u v54 u u u u u u u u u)
def T50 (v0 v69 v70 v71 : AV) : A2 := N4 (.mk v0 u u u u u u u u u u u u u u u) .nil .nil .nil (.mk u u u u u v69 v70 v71 u u u u u u u u)
def T51 (v0 v91 : AV) : A2 := N5 (.mk v0 u u u u u u u u u u u u u u u) .nil .nil .nil .nil (.mk u u u u u u u u u u u v91 u u u u)
def T52 (v0 v1 v6 v39 : AV) : A2 := N2 (.mk v0 v1 u u u u v6 u u u u u u u u u) .nil (.mk u u u u u u u v39 u u u u u u u u)
def T53 (v0 v1 v6 v58 : AV) : A2 := N3 (.mk v0 v1 u u u u v6 u u u u u u u u u) .nil .nil (.mk u u u u u u u u u u v58 u u u u u)
def T54 (v0 v1 v6 v9 v10 v58 : AV) : A2 := N3 (.mk v0 v1 u u u u v6 u u v9 v10 u u u u u) .nil .nil (.mk u u u u u u u u u u v58 u u u u u)
def T55 (v0 v16 v17 v18 : AV) : A2 := N1 (.mk v0 u u u u u u u u u u u u u u u) (.mk v16 v17 v18 u u u u u u u u u u u u u)
def T56 (v0 v4 v5 : AV) : A2 := N0 (.mk v0 u u u v4 v5 u u u u u u u u u u)
def T57 (v0 v4 v5 v6 : AV) : A2 := N0 (.mk v0 u u u v4 v5 v6 u u u u u u u u u)
def T58 (v0 v1 v4 v12 : AV) : A2 := N0 (.mk v0 v1 u u v4 u u u u u u u v12 u u u)
def T59 (v0 v1 v4 v12 v13 : AV) : A2 := N0 (.mk v0 v1 u u v4 u u u u u u u v12 v13 u u)
def T60 (v0 v1 v4 v12 v20 : AV) : A2 := N1 (.mk v0 v1 u u v4 u u u u u u u v12 u u u) (.mk u u u u v20 u u u u u u u u u u u)
def T61 (v0 v1 v4 v12 v29 : AV) : A2 := N1 (.mk v0 v1 u u v4 u u u u u u u v12 u u u) (.mk u u u u u u u u u u u u u v29 u u)
def T62 (v0 v5 v6 v7 : AV) : A2 := N0 (.mk v0 u u u u v5 v6 v7 u u u u u u u u)
def T63 (v0 v1 v4 v12 v52 : AV) : A2 := N3 (.mk v0 v1 u u v4 u u u u u u u v12 u u u) .nil .nil (.mk u u u u v52 u u u u u u u u u u u)
def T64 (v1 v2 v29 v30 v31 : AV) : A2 := N1 (.mk u v1 v2 u u u u u u u u u u u u u) (.mk u u u u u u u u u u u u u v29 v30 v31)
def T65 (v1 v2 v50 v51 v52 : AV) : A2 := N3 (.mk u v1 v2 u u u u u u u u u u u u u) .nil .nil (.mk u u v50 v51 v52 u u u u u u u u u u u)
def T66 (v1 v2 v6 v7 v50 v51 v52 : AV) : A2 := N3 (.mk u v1 v2 u u u v6 v7 u u u u u u u u) .nil .nil (.mk u u v50 v51 v52 u u u u u u u u u u u)
def T67 (v0 v2 v14 v15 v16 : AV) : A2 := N1 (.mk v0 u v2 u u u u u u u u u u u v14 v15) (.mk v16 u u u u u u u u u u u u u u u)
def T68 (v0 v2 : AV) : A2 := N0 (.mk v0 u v2 u u u u u u u u u u u u u)
def T69 (v0 v2 v3 : AV) : A2 := N0 (.mk v0 u v2 v3 u u u u u u u u u u u u)
def T70 (v1 v4 v6 v8 v9 : AV) : A2 := N0 (.mk u v1 u u v4 u v6 u v8 v9 u u u u u u)
def T71 (v0 v1 v3 v6 v8 v9 : AV) : A2 := N0 (.mk v0 v1 u v3 u u v6 u v8 v9 u u u u u u)
def T72 (v0 v1 v3 v6 v8 v9 v10 : AV) : A2 := N0 (.mk v0 v1 u v3 u u v6 u v8 v9 v10 u u u u u)
def T73 (v0 v1 v6 v8 v9 v41 v42 v43 : AV) : A2 := N2 (.mk v0 v1 u u u u v6 u v8 v9 u u u u u u) .nil (.mk u u u u u u u u u v41 v42 v43 u u u u)
def T74 (v0 v1 v6 v9 : AV) : A2 := N0 (.mk v0 v1 u u u u v6 u u v9 u u u u u u)
def T75 (v0 v1 v6 v8 v9 : AV) : A2 := N0 (.mk v0 v1 u u u u v6 u v8 v9 u u u u u u)
def T76 (v0 v1 v3 v6 : AV) : A2 := N0 (.mk v0 v1 u v3 u u v6 u u u u u u u u u)
def T77 (v1 v3 v6 : AV) : A2 := N0 (.mk u v1 u v3 u u v6 u u u u u u u u u)
def T78 (v0 v37 : AV) : A2 := N2 (.mk v0 u u u u u u u u u u u u u u u) .nil (.mk u u u u u v37 u u u u u u u u u u)
def T79 (v0 v2 v3 v4 : AV) : A2 := N0 (.mk v0 u v2 v3 v4 u u u u u u u u u u u)
def T80 (v0 v2 v3 v4 v5 : AV) : A2 := N0 (.mk v0 u v2 v3 v4 v5 u u u u u u u u u u)
def T81 (v0 v1 v2 v11 v12 : AV) : A2 := N0 (.mk v0 v1 v2 u u u u u u u u v11 v12 u u u)
def T82 (v0 v10 v11 v12 : AV) : A2 := N0 (.mk v0 u u u u u u u u u v10 v11 v12 u u u)
def T83 (v6 v7 : AV) : A2 := N0 (.mk u u u u u u v6 v7 u u u u u u u u)
def T84 (v0 v3 v40 : AV) : A2 := N2 (.mk v0 u u v3 u u u u u u u u u u u u) .nil (.mk u u u u u u u u v40 u u u u u u u)
def T85 (v0 v3 v23 v24 v25 : AV) : A2 := N1 (.mk v0 u u v3 u u u u u u u u u u u u) (.mk u u u u u u u v23 v24 v25 u u u u u u)
def T86 (v3 : AV) : A2 := N0 (.mk u u u v3 u u u u u u u u u u u u)
def T87 (v0 v1 v6 v7 v8 : AV) : A2 := N0 (.mk v0 v1 u u u u v6 v7 v8 u u u u u u u)
def T88 (v0 v1 v6 v7 v8 v11 v12 : AV) : A2 := N0 (.mk v0 v1 u u u u v6 v7 v8 u u v11 v12 u u u)
def T89 (v0 v1 v6 v8 v12 : AV) : A2 := N0 (.mk v0 v1 u u u u v6 u v8 u u u v12 u u u)
def T90 (v0 v8 v12 : AV) : A2 := N0 (.mk v0 u u u u u u u v8 u u u v12 u u u)
def T91 (v0 v1 v2 v6 v7 : AV) : A2 := N0 (.mk v0 v1 v2 u u u v6 v7 u u u u u u u u)
def T92 (v0 v1 v4 : AV) : A2 := N0 (.mk v0 v1 u u v4 u u u u u u u u u u u)
def T93 (v0 v84 v85 v86 : AV) : A2 := N5 (.mk v0 u u u u u u u u u u u u u u u) .nil .nil .nil .nil (.mk u u u u v84 v85 v86 u u u u u u u u u)
def T94 (v0 v7 v8 : AV) : A2 := N0 (.mk v0 u u u u u u v7 v8 u u u u u u u)
def T95 (v0 v133 v134 : AV) : A2 := N8 (.mk v0 u u u u u u u u u u u u u u u) .nil .nil .nil .nil .nil .nil .nil (.mk u u u u u v133 v134 u u u u u u u u u)
def T96 (v5 v6 v7 : AV) : A2 := N0 (.mk u u u u u v5 v6 v7 u u u u u u u u)
def T97 (v4 v5 v6 v7 : AV) : A2 := N0 (.mk u u u u v4 v5 v6 v7 u u u u u u u u)
def T98 (v0 v2 v4 : AV) : A2 := N0 (.mk v0 u v2 u v4 u u u u u u u u u u u)
def T99 (v0 v1 v8 : AV) : A2 := N0 (.mk v0 v1 u u u u u u v8 u u u u u u u)
def T100 (v0 v3 v4 v5 : AV) : A2 := N0 (.mk v0 u u v3 v4 v5 u u u u u u u u u u)
def T101 (v0 v4 v5 v19 v20 v21 : AV) : A2 := N1 (.mk v0 u u u v4 v5 u u u u u u u u u u) (.mk u u u v19 v20 v21 u u u u u u u u u u)
def T102 (v0 v1 v3 v6 v8 : AV) : A2 := N0 (.mk v0 v1 u v3 u u v6 u v8 u u u u u u u)
def T103 (v0 v1 v3 v8 : AV) : A2 := N0 (.mk v0 v1 u v3 u u u u v8 u u u u u u u)
def T104 (v0 v3 v8 : AV) : A2 := N0 (.mk v0 u u v3 u u u u v8 u u u u u u u)
def T105 (v0 v3 v8 v49 : AV) : A2 := N3 (.mk v0 u u v3 u u u u v8 u u u u u u u) .nil .nil (.mk u v49 u u u u u u u u u u u u u u)
def T106 (v0 v3 v8 v9 : AV) : A2 := N0 (.mk v0 u u v3 u u u u v8 v9 u u u u u u)
def T107 (v8 : AV) : A2 := N0 (.mk u u u u u u u u v8 u u u u u u u)
def T108 (v0 v5 v6 v7 v9 : AV) : A2 := N0 (.mk v0 u u u u v5 v6 v7 u v9 u u u u u u)
def T109 (v0 v5 v6 v7 v10 : AV) : A2 := N0 (.mk v0 u u u u v5 v6 v7 u u v10 u u u u u)
def T110 (v0 v1 v9 : AV) : A2 := N0 (.mk v0 v1 u u u u u u u v9 u u u u u u)
def T111 (v0 v4 v5 v7 : AV) : A2 := N0 (.mk v0 u u u v4 v5 u v7 u u u u u u u u)
def T112 (v0 v4 v6 : AV) : A2 := N0 (.mk v0 u u u v4 u v6 u u u u u u u u u)
def T113 (v4 v7 : AV) : A2 := N0 (.mk u u u u v4 u u v7 u u u u u u u u)
def T114 (v1 v3 v11 : AV) : A2 := N0 (.mk u v1 u v3 u u u u u u u v11 u u u u)
def T115 (v1 v3 v22 : AV) : A2 := N1 (.mk u v1 u v3 u u u u u u u u u u u u) (.mk u u u u u u v22 u u u u u u u u u)
def T116 (v0 v1 v12 v13 : AV) : A2 := N0 (.mk v0 v1 u u u u u u u u u u v12 v13 u u)
def T117 (v0 v1 v5 v6 : AV) : A2 := N0 (.mk v0 v1 u u u v5 v6 u u u u u u u u u)
def T118 (v0 v1 v2 v8 : AV) : A2 := N0 (.mk v0 v1 v2 u u u u u v8 u u u u u u u)
def T119 (v0 v2 v5 v6 v7 : AV) : A2 := N0 (.mk v0 u v2 u u v5 v6 v7 u u u u u u u u)
def T120 (v0 v2 v3 v5 : AV) : A2 := N0 (.mk v0 u v2 v3 u v5 u u u u u u u u u u)
def T121 (v0 v1 v7 v8 : AV) : A2 := N0 (.mk v0 v1 u u u u u v7 v8 u u u u u u u)
def T122 (v1 v4 : AV) : A2 := N0 (.mk u v1 u u v4 u u u u u u u u u u u)
def T123 (v0 v1 v7 : AV) : A2 := N0 (.mk v0 v1 u u u u u v7 u u u u u u u u)
def T124 (v3 v7 v8 v9 : AV) : A2 := N0 (.mk u u u v3 u u u v7 v8 v9 u u u u u u)
def T125 (v3 v7 v8 v9 v17 : AV) : A2 := N1 (.mk u u u v3 u u u v7 v8 v9 u u u u u u) (.mk u v17 u u u u u u u u u u u u u u)
def T126 (v3 v6 v7 v8 : AV) : A2 := N0 (.mk u u u v3 u u v6 v7 v8 u u u u u u u)
def T127 (v0 v1 v2 v3 v4 v10 v11 : AV) : A2 := N0 (.mk v0 v1 v2 v3 v4 u u u u u v10 v11 u u u u)
def T128 (v0 v1 v2 v3 v4 v10 v11 v12 : AV) : A2 := N0 (.mk v0 v1 v2 v3 v4 u u u u u v10 v11 v12 u u u)
def T129 (v0 v1 v2 v3 v4 v10 v11 v12 v13 v14 : AV) : A2 := N0 (.mk v0 v1 v2 v3 v4 u u u u u v10 v11 v12 v13 v14 u)
def T130 (v0 v1 v2 v3 v4 v10 v11 v12 v13 : AV) : A2 := N0 (.mk v0 v1 v2 v3 v4 u u u u u v10 v11 v12 v13 u u)
def T131 (v0 v1 v2 v3 v4 v11 v16 v18 v19 v20 : AV) : A2 := N1 (.mk v0 v1 v2 v3 v4 u u u u u u v11 u u u u) (.mk v16 u v18 v19 v20 u u u u u u u u u u u)
def T132 (v0 v1 v2 v3 v4 v11 v16 v18 v19 v20 v125 : AV) : A2 := N7 (.mk v0 v1 v2 v3 v4 u u u u u u v11 u u u u) (.mk v16 u v18 v19 v20 u u u u u u u u u u u) .nil .nil .nil .nil .nil (.mk u u u u u u u u u u u u u v125 u u)
def T133 (v0 v1 v2 v3 v8 v9 : AV) : A2 := N0 (.mk v0 v1 v2 v3 u u u u v8 v9 u u u u u u)
def T134 (v0 v1 v2 v3 v8 v9 v10 : AV) : A2 := N0 (.mk v0 v1 v2 v3 u u u u v8 v9 v10 u u u u u)
def T135 (v0 v1 v2 v3 v8 v9 v10 v11 v12 : AV) : A2 := N0 (.mk v0 v1 v2 v3 u u u u v8 v9 v10 v11 v12 u u u)
def T136 (v0 v1 v2 v3 v8 v9 v10 v11 : AV) : A2 := N0 (.mk v0 v1 v2 v3 u u u u v8 v9 v10 v11 u u u u)
def T137 (v0 v1 v2 v3 v9 v14 v16 v17 v18 : AV) : A2 := N1 (.mk v0 v1 v2 v3 u u u u u v9 u u u u v14 u) (.mk v16 v17 v18 u u u u u u u u u u u u u)
def T138 (v0 v1 v2 v3 v9 v14 v16 v17 v18 v113 : AV) : A2 := N7 (.mk v0 v1 v2 v3 u u u u u v9 u u u u v14 u) (.mk v16 v17 v18 u u u u u u u u u u u u u) .nil .nil .nil .nil .nil (.mk u v113 u u u u u u u u u u u u u u)
def T139 (v0 v1 v2 v3 v8 : AV) : A2 := N0 (.mk v0 v1 v2 v3 u u u u v8 u u u u u u u)
def T140 (v0 v3 v8 v9 v10 : AV) : A2 := N0 (.mk v0 u u v3 u u u u v8 v9 v10 u u u u u)
def T141 (v0 v3 v8 v9 v10 v11 : AV) : A2 := N0 (.mk v0 u u v3 u u u u v8 v9 v10 v11 u u u u)
def T142 (v0 v3 v8 v9 v12 : AV) : A2 := N0 (.mk v0 u u v3 u u u u v8 v9 u u v12 u u u)
def T143 (v0 v1 v8 v17 : AV) : A2 := N1 (.mk v0 v1 u u u u u u v8 u u u u u u u) (.mk u v17 u u u u u u u u u u u u u u)
def T144 (v0 v1 v8 v9 v10 v11 : AV) : A2 := N0 (.mk v0 v1 u u u u u u v8 v9 v10 v11 u u u u)
def T145 (v0 v1 v8 v9 v10 v11 v12 : AV) : A2 := N0 (.mk v0 v1 u u u u u u v8 v9 v10 v11 v12 u u u)
def T146 (v0 v1 v3 v10 v11 v12 v13 : AV) : A2 := N0 (.mk v0 v1 u v3 u u u u u u v10 v11 v12 v13 u u)
def T147 (v0 v3 v10 v11 v12 v13 v14 : AV) : A2 := N0 (.mk v0 u u v3 u u u u u u v10 v11 v12 v13 v14 u)
def T148 (v11 v13 : AV) : A2 := N0 (.mk u u u u u u u u u u u v11 u v13 u u)
def T149 (v8 v9 : AV) : A2 := N0 (.mk u u u u u u u u v8 v9 u u u u u u)
def T150 (v0 v8 v9 : AV) : A2 := N0 (.mk v0 u u u u u u u v8 v9 u u u u u u)
def T151 (v0 v1 v2 v3 v9 : AV) : A2 := N0 (.mk v0 v1 v2 v3 u u u u u v9 u u u u u u)
def T152 (v0 v1 v2 v3 v9 v10 : AV) : A2 := N0 (.mk v0 v1 v2 v3 u u u u u v9 v10 u u u u u)
def T153 (v0 v1 v2 v3 v9 v10 v65 : AV) : A2 := N4 (.mk v0 v1 v2 v3 u u u u u v9 v10 u u u u u) .nil .nil .nil (.mk u v65 u u u u u u u u u u u u u u)
def T154 (v0 v1 v2 v3 v9 v10 v11 : AV) : A2 := N0 (.mk v0 v1 v2 v3 u u u u u v9 v10 v11 u u u u)
def T155 (v0 v1 v2 v3 v9 v10 v104 : AV) : A2 := N6 (.mk v0 v1 v2 v3 u u u u u v9 v10 u u u u u) .nil .nil .nil .nil .nil (.mk u u u u u u u u v104 u u u u u u u)
def T156 (v0 v1 v2 v3 v9 v10 v12 : AV) : A2 := N0 (.mk v0 v1 v2 v3 u u u u u v9 v10 u v12 u u u)
def T157 (v0 v1 v2 v3 v4 : AV) : A2 := N0 (.mk v0 v1 v2 v3 v4 u u u u u u u u u u u)
def T158 (v0 v1 v4 v11 v12 : AV) : A2 := N0 (.mk v0 v1 u u v4 u u u u u u v11 v12 u u u)
def T159 (v11 : AV) : A2 := N0 (.mk u u u u u u u u u u u v11 u u u u)
def T160 (v10 : AV) : A2 := N0 (.mk u u u u u u u u u u v10 u u u u u)
def T161 (v0 v1 v4 v12 v13 v71 : AV) : A2 := N4 (.mk v0 v1 u u v4 u u u u u u u v12 v13 u u) .nil .nil .nil (.mk u u u u u u u v71 u u u u u u u u)
def T162 (v10 v11 : AV) : A2 := N0 (.mk u u u u u u u u u u v10 v11 u u u u)
def T163 (v0 v1 v13 : AV) : A2 := N0 (.mk v0 v1 u u u u u u u u u u u v13 u u)
def T164 (v0 v6 v7 v8 : AV) : A2 := N0 (.mk v0 u u u u u v6 v7 v8 u u u u u u u)
def T165 (v0 v6 v7 v8 v9 : AV) : A2 := N0 (.mk v0 u u u u u v6 v7 v8 v9 u u u u u u)
def T166 (v0 v6 v7 v10 : AV) : A2 := N0 (.mk v0 u u u u u v6 v7 u u v10 u u u u u)
def T167 (v0 v1 v6 v15 : AV) : A2 := N0 (.mk v0 v1 u u u u v6 u u u u u u u u v15)
def T168 (v0 v1 v6 v7 v8 v9 : AV) : A2 := N0 (.mk v0 v1 u u u u v6 v7 v8 v9 u u u u u u)
def T169 (v0 v1 v6 v7 v8 v9 v10 : AV) : A2 := N0 (.mk v0 v1 u u u u v6 v7 v8 v9 v10 u u u u u)
def T170 (v0 v8 v9 v10 v11 v12 : AV) : A2 := N0 (.mk v0 u u u u u u u v8 v9 v10 v11 v12 u u u)
def T171 (v9 v11 : AV) : A2 := N0 (.mk u u u u u u u u u v9 u v11 u u u u)
def T172 (v0 v6 v7 : AV) : A2 := N0 (.mk v0 u u u u u v6 v7 u u u u u u u u)
def T173 (v0 v1 v2 v7 v8 : AV) : A2 := N0 (.mk v0 v1 v2 u u u u v7 v8 u u u u u u u)
def T174 (v0 v1 v2 v7 v8 v61 : AV) : A2 := N3 (.mk v0 v1 v2 u u u u v7 v8 u u u u u u u) .nil .nil (.mk u u u u u u u u u u u u u v61 u u)
def T175 (v0 v1 v2 v7 v8 v9 : AV) : A2 := N0 (.mk v0 v1 v2 u u u u v7 v8 v9 u u u u u u)
def T176 (v0 v1 v2 v7 v8 v98 : AV) : A2 := N6 (.mk v0 v1 v2 u u u u v7 v8 u u u u u u u) .nil .nil .nil .nil .nil (.mk u u v98 u u u u u u u u u u u u u)
def T177 (v0 v1 v2 v7 v8 v10 : AV) : A2 := N0 (.mk v0 v1 v2 u u u u v7 v8 u v10 u u u u u)
def T178 (v0 v1 v2 v3 : AV) : A2 := N0 (.mk v0 v1 v2 v3 u u u u u u u u u u u u)
def T179 (v0 v1 v9 v10 : AV) : A2 := N0 (.mk v0 v1 u u u u u u u v9 v10 u u u u u)
def T180 (v9 : AV) : A2 := N0 (.mk u u u u u u u u u v9 u u u u u u)
def T181 (v0 v1 v10 v11 : AV) : A2 := N0 (.mk v0 v1 u u u u u u u u v10 v11 u u u u)
def T182 (v0 v1 v10 v11 v65 : AV) : A2 := N4 (.mk v0 v1 u u u u u u u u v10 v11 u u u u) .nil .nil .nil (.mk u v65 u u u u u u u u u u u u u u)
def T183 (v0 v1 v11 : AV) : A2 := N0 (.mk v0 v1 u u u u u u u u u v11 u u u u)
def T184 (v0 v2 v3 v4 v10 : AV) : A2 := N0 (.mk v0 u v2 v3 v4 u u u u u v10 u u u u u)
def T185 (v0 v2 v3 v4 v10 v11 : AV) : A2 := N0 (.mk v0 u v2 v3 v4 u u u u u v10 v11 u u u u)
def T186 (v0 v1 v2 v4 v5 : AV) : A2 := N0 (.mk v0 v1 v2 u v4 v5 u u u u u u u u u u)
def T187 (v12 : AV) : A2 := N0 (.mk u u u u u u u u u u u u v12 u u u)
def T188 (v0 v2 v3 v8 : AV) : A2 := N0 (.mk v0 u v2 v3 u u u u v8 u u u u u u u)
def T189 (v0 v2 v3 v8 v9 : AV) : A2 := N0 (.mk v0 u v2 v3 u u u u v8 v9 u u u u u u)
def T190 (v0 v1 v2 v4 : AV) : A2 := N0 (.mk v0 v1 v2 u v4 u u u u u u u u u u u)
def T191 (v2 v3 v8 : AV) : A2 := N0 (.mk u u v2 v3 u u u u v8 u u u u u u u)
def k6_6 : KF := fun c i x r h => (fun (x137 x138 x139 x140 x141 x142 x143 x144 x145 x146 x147 : AV) =>
 tR (o_build [(pi 0),(pi 0),(pi 0),(.str [])] [.mk 0 1 (.c (pi 8)),.mk 1 1 (.c (pi 1))] .nil h) fun v148 h149 =>
 tT (c 15 [x139,v148] h149) fun v150 h151 =>
 tT (c 16 [x139,(pi 20000)] h151) fun v152 h153 =>
 tT (c 21 [x139,(pi 1)] h153) fun v154 h155 =>
 tR (o_ext 0 (.c v154) .nil h155) fun v156 h157 =>
 tR (o_ext 1 (.c v154) .nil h157) fun v158 h159 =>
 x (T6 x137 x138 x139 x140 x141 x142 x143 x144 x145 x146 x147 v156) h159) (y2 r) (y4 r) (y5 r) (y7 r) (y9 r) (y10 r) (y11 r) (y12 r) (y13 r) (y14 r) (y15 r)
def k6_5 : KF := fun c i x r h => (fun (x107 x108 x109 x110 x111 x112 x113 x114 : AV) =>
 tR (appV 36 4 x114 x111 h) fun v115 h116 =>
 tT (c 21 [x109,(pi 0)] h116) fun v117 h118 =>
 tR (o_ext 0 (.c v117) .nil h118) fun v119 h120 =>
 tR (o_ext 1 (.c v117) .nil h120) fun v121 h122 =>
 tR (o_build [(pi 0),(pi 0),(pi 0),(.str [])] [.mk 0 1 (.c (pi 9)),.mk 1 1 (.c (pi 0)),.mk 2 1 (.c (pi 2)),.mk 3 1 (.c (.str [110,111]))] .nil h122) fun v123 h124 =>
 tT (c 15 [x109,v123] h124) fun v125 h126 =>
 tR (o_build [(pi 0),(pi 0),(pi 0),(.str [])] [.mk 0 1 (.c (pi 9)),.mk 1 1 (.c (pi 0)),.mk 2 1 (.c (pi 1)),.mk 3 1 (.c (.str [115,110,97,112]))] .nil h126) fun v127 h128 =>
 tT (c 15 [x109,v127] h128) fun v129 h130 =>
 tT (c 21 [x109,(pi 0)] h130) fun v131 h132 =>
 tR (o_ext 0 (.c v131) .nil h132) fun v133 h134 =>
 tR (o_ext 1 (.c v131) .nil h134) fun v135 h136 =>
 x (T5 x107 x108 x109 x110 x112 x113 v115 v119 v121 v133 v135) h136) (y2 r) (y4 r) (y5 r) (y7 r) (y8 r) (y9 r) (y10 r) (y11 r)
def k6_4 : KF := fun c i x r h => (fun (x83 x84 x85 x86 : AV) =>
 tT (c 16 [x85,(pi 500)] h) fun v87 h88 =>
 tR (o_ext 0 (.c v87) .nil h88) fun v89 h90 =>
 tR (o_ext 1 (.c v87) .nil h90) fun v91 h92 =>
 tR (appV 36 4 x86 v89 h92) fun v93 h94 =>
 tT (c 20 [x85,(pi 1)] h94) fun v95 h96 =>
 tR (o_build [(pi 0),(pi 0),(pi 0),(.str [])] [.mk 0 1 (.c (pi 8)),.mk 1 1 (.c (pi 2))] .nil h96) fun v97 h98 =>
 tT (c 15 [x85,v97] h98) fun v99 h100 =>
 tT (c 16 [x85,(pi 20000)] h100) fun v101 h102 =>
 tR (o_ext 0 (.c v101) .nil h102) fun v103 h104 =>
 tR (o_ext 1 (.c v101) .nil h104) fun v105 h106 =>
 x (T4 x83 x84 x85 v93 v103 v91 v95 v99) h106) (y2 r) (y4 r) (y5 r) (y7 r)
def k6_3 : KF := fun c i x r h => (fun (x61 x62 x63 x64 : AV) =>
 tR (o_build [(pi 0),(pi 0),(pi 0),(.str [])] [.mk 0 1 (.c (pi 1)),.mk 1 1 (.c (pi 9)),.mk 3 1 (.c (.str [122]))] .nil h) fun v65 h66 =>
 tT (c 15 [x63,v65] h66) fun v67 h68 =>
 tR (appV 36 4 x64 v67 h68) fun v69 h70 =>
 tR (o_build [(pi 0),(pi 0),(pi 0),(.str [])] [.mk 0 1 (.c (pi 1)),.mk 1 1 (.c (pi 0))] .nil h70) fun v71 h72 =>
 tT (c 15 [x63,v71] h72) fun v73 h74 =>
 tR (appV 36 4 v69 v73 h74) fun v75 h76 =>
 tR (o_build [(pi 0),(pi 0),(pi 0),(.str [])] [.mk 0 1 (.c (pi 2)),.mk 1 1 (.c (pi 0))] .nil h76) fun v77 h78 =>
 tT (c 15 [x63,v77] h78) fun v79 h80 =>
 tR (appV 36 4 v75 v79 h80) fun v81 h82 =>
 x (T3 x61 x62 x63 v81) h82) (y2 r) (y4 r) (y5 r) (y7 r)
def k6_2 : KF := fun c i x r h => (fun (x34 x35 x36 : AV) =>
 tR (o_build [(pi 0),(pi 0),(pi 0),(.str [])] [.mk 0 1 (.c (pi 7)),.mk 1 1 (.c (pi 1))] .nil h) fun v37 h38 =>
 tT (c 15 [x36,v37] h38) fun v39 h40 =>
 tR (o_build [(pi 0),(pi 0),(pi 0),(.str [])] [.mk 0 1 (.c (pi 7)),.mk 1 1 (.c (pi 2)),.mk 2 1 (.c (pi 9))] .nil h40) fun v41 h42 =>
 tT (c 15 [x36,v41] h42) fun v43 h44 =>
 tR (o_build [(pi 0),(pi 0),(pi 0),(.str [])] [.mk 0 1 (.c (pi 1)),.mk 1 1 (.c (pi 0)),.mk 3 1 (.c (.str [120]))] .nil h44) fun v45 h46 =>
 tT (c 15 [x36,v45] h46) fun v47 h48 =>
 tR (o_build [(pi 0),(pi 0),(pi 0),(.str [])] [.mk 0 1 (.c (pi 2)),.mk 1 1 (.c (pi 0)),.mk 3 1 (.c (.str [109,97,114,107]))] .nil h48) fun v49 h50 =>
 tT (c 15 [x36,v49] h50) fun v51 h52 =>
 tR (appV 36 4 v47 v51 h52) fun v53 h54 =>
 tR (o_build [(pi 0),(pi 0),(pi 0),(.str [])] [.mk 0 1 (.c (pi 1)),.mk 1 1 (.c (pi 1)),.mk 3 1 (.c (.str [121]))] .nil h54) fun v55 h56 =>
 tT (c 15 [x36,v55] h56) fun v57 h58 =>
 tR (appV 36 4 v53 v57 h58) fun v59 h60 =>
 x (T3 x34 x35 x36 v59) h60) (y2 r) (y4 r) (y5 r)
def k6_1 : KF := fun c i x r h => (fun (x18 x19 x20 x21 : AV) =>
 tR (bK .peq x20 .nilp h) fun v22 h23 =>
 (fun (k24 : AV → Hp → RS) => gd v22 false (k24 x21 h23) (k24 .undef h23)) fun v25 h26 =>
 (fun (k27 : AV → Hp → RS) => gd v22 false (tR (b_ne v25 (pi 0) h26) fun v30 h31 =>
 k27 v30 h31) (k27 .undef h26)) fun v28 h29 =>
 tR (o_pick (.c v22) (.c (.bool true)) (.c v28) .nil h29) fun v32 h33 =>
 ifR v32 (.ret (T1 (.bool false)) h33) (x (T2 x18 x19 x20) h33)) (y2 r) (y4 r) (y5 r) (y6 r)
def k6_0 : KF := fun c i x r h => tT (c 14 [(pi 0)] h) fun v0 h1 =>
 tR (o_ext 0 (.c v0) .nil h1) fun v2 h3 =>
 tR (o_ext 1 (.c v0) .nil h3) fun v4 h5 =>
 tT (c 14 [(pi 6)] h5) fun v6 h7 =>
 tR (o_ext 0 (.c v6) .nil h7) fun v8 h9 =>
 tR (o_ext 1 (.c v6) .nil h9) fun v10 h11 =>
 tT (c 14 [(pi 3)] h11) fun v12 h13 =>
 tR (o_ext 0 (.c v12) .nil h13) fun v14 h15 =>
 tR (o_ext 1 (.c v12) .nil h15) fun v16 h17 =>
 x (T0 v4 v10 v14 v16) h17
def x6 : AC := (.shal k6_0 (.shal k6_1 (.shal k6_2 (.shal k6_3 (.shal k6_4 (.shal k6_5 (.shal k6_6 (.seq (.ops [m d117 r2,
 o d118 (.bin .eq r117 (.c (pi 1))),
 m d119 r118,
 .g .h7 .h7 true d120 (.op (.mv r4)),
 .g .h7 .h7 true d121 (.op (.bin .eq r120 (.c (pi 1)))),
 o d122 (.pick r119 r121 (.c (.bool false))),
 m d123 r122,
 .g .h7 .hb true d124 (.op (.mv r7)),
 .g .h7 .hb true d125 (.op (.len r124)),
 .g .h7 .hb true d126 (.op (.bin .eq r125 (.c (pi 0)))),
 o d127 (.pick r123 r126 (.c (.bool false))),
 m d128 r127,
 .g .h8 .h0 true d129 (.op (.mv r9)),
 .g .h8 .h0 true d130 (.op (.bin .le r129 (.c (pi 500)))),
 o d131 (.pick r128 r130 (.c (.bool false))),
 m d132 r131,
 .g .h8 .h4 true d133 (.op (.mv r10)),
 .g .h8 .h4 true d134 (.op (.un .not r133)),
 o d135 (.pick r132 r134 (.c (.bool false))),
 m d136 r135,
 .g .h8 .h8 true d137 (.op (.mv r11)),
 .g .h8 .h8 true d138 (.op (.len r137)),
 .g .h8 .h8 true d139 (.op (.bin .eq r138 (.c (pi 2)))),
 o d140 (.pick r136 r139 (.c (.bool false))),
 m d141 r140,
 .g .h8 .hd true d142 (.op (.mv r12)),
 .g .h8 .hd true d143 (.op (.bin .eq r142 (.c (pi 0)))),
 o d144 (.pick r141 r143 (.c (.bool false))),
 m d145 r144,
 .g .h9 .h1 true d146 (.op (.mv r13)),
 .g .h9 .h1 true d147 (.op (.lent r146)),
 .g .h9 .h1 true d148 (.op (.bin .eq r147 (.c (pi 0)))),
 o d149 (.pick r145 r148 (.c (.bool false))),
 m d150 r149,
 .g .h9 .h6 true d151 (.op (.mv r14)),
 .g .h9 .h6 true d152 (.op (.bin .eq r151 (.c (pi 1)))),
 o d153 (.pick r150 r152 (.c (.bool false))),
 m d154 r153,
 .g .h9 .ha true d155 (.op (.mv r15)),
 .g .h9 .ha true d156 (.op (.bin .seq r155 (.c (.str [115,110,97,112])))),
 o d157 (.pick r154 r156 (.c (.bool false))),
 m d158 r157,
 .g .h9 .he true d159 (.op (.mv r5)),
 .g .h9 .he true d160 (.call 19 [r159,(.c (pi 0))]),
 .g .h9 .he true d161 (.op (.len r160)),
 .g .h9 .he true d162 (.op (.bin .eq r161 (.c (pi 0)))),
 o d163 (.pick r158 r162 (.c (.bool false))),
 m d164 r163,
 .g .ha .h4 true d165 (.op (.mv r16)),
 .g .ha .h4 true d166 (.op (.mv r5)),
 .g .ha .h4 true d167 (.call 19 [r166,(.c (pi 1))]),
 .g .ha .h4 true d168 (.op (.len r167)),
 .g .ha .h4 true d169 (.op (.bin .add r165 r168)),
 .g .ha .h4 true d170 (.op (.bin .eq r169 (.c (pi 1)))),
 o d171 (.pick r164 r170 (.c (.bool false))),
 m d172 r171,
 .g .ha .hc true d173 (.op (.mv r5)),
 .g .ha .hc true d174 (.call 19 [r173,(.c (pi 2))]),
 .g .ha .hc true d175 (.op (.bslice 9 1 1 [(.str [])] [.mk 0 1 (.c (.str [120]))])),
 .g .ha .hc true d176 (.call 18 [r174,r175]),
 o d177 (.pick r172 r176 (.c (.bool false))),
 m d178 r177,
 .g .hb .h2 true d179 (.op (.mv r5)),
 .g .hb .h2 true d180 (.call 19 [r179,(.c (ni 0))]),
 .g .hb .h2 true d181 (.op (.len r180)),
 .g .hb .h2 true d182 (.op (.bin .eq r181 (.c (pi 0)))),
 o d183 (.pick r178 r182 (.c (.bool false))),
 m d184 r183,
 .g .hb .h8 true d185 (.call 17 []),
 o d186 (.pick r184 r185 (.c (.bool false))),
 m d0 r186]) .ret))))))))
def z6 : List Rs := [.t .h0 .h0]
def f6 : AF := .mk x6 z6
def k14_1 : KF := fun c i x r h => (fun (x13 : AV) =>
 tR (o_build [(pi 0),(.str []),.nils,(pi 0),(.str []),.nils,(pi 0),(.str []),.nils,(pi 0),(.str []),.nils,(pi 0),(.str []),.nils,.nils] [] .nil h) fun v14 h15 =>
 tR (o_box 70 (.c v14) .nil h15) fun v16 h17 =>
 tR (o_build [.nilp,.nilp] [.mk 1 1 (.c v16)] .nil h17) fun v18 h19 =>
 tR (o_box 73 (.c v18) .nil h19) fun v20 h21 =>
 tR (nic v20 h21) fun v22 h23 =>
 tR (fa 1 v22 h23) fun v24 h25 =>
 tR (ld v24 h25) fun v26 h27 =>
 tT (c 26 [x13,(.iface 65 v26)] h27) fun v28 h29 =>
 tR (nic v20 h29) fun v30 h31 =>
 tR (fa 0 v30 h31) fun v32 h33 =>
 tR (sto v32 v28 h33) fun v34 h35 =>
 .ret (T7 v20 (pi 0)) h35) (y0 r)
def k14_0 : KF := fun c i x r h => (fun (x0 : AV) =>
 tR (b_lt x0 (pi 1) h) fun v1 h2 =>
 (fun (k3 : AV → Hp → RS) => gd v1 false (k3 x0 h2) (k3 .undef h2)) fun v4 h5 =>
 (fun (k6 : AV → Hp → RS) => gd v1 false (tR (b_gt v4 (pi 5) h5) fun v9 h10 =>
 k6 v9 h10) (k6 .undef h5)) fun v7 h8 =>
 tR (o_pick (.c v1) (.c (.bool true)) (.c v7) .nil h8) fun v11 h12 =>
 ifR v11 (.ret (T7 .nilp (pi 1)) h12) (x (T1 x0) h12)) (y0 r)
def x14 : AC := (.shal k14_0 (.shal k14_1 .skip))
def z14 : List Rs := [.t .h0 .h2,.t .h0 .h3]
def f14 : AF := .mk x14 z14
def k15_3 : KF := fun c i x r h => (fun (x15 x16 x17 : AV) =>
 ifR x17 (tQ (nic x15 h) fun v18 =>
 tQ (fa 0 v18 h) fun v19 =>
 tQ (ld v19 h) fun v20 =>
 tQ (fa 1 x16 h) fun v21 =>
 tQ (ld v21 h) fun v22 =>
 tQ (fa 3 x16 h) fun v23 =>
 tQ (ld v23 h) fun v24 =>
 tX (c 27 [v20,v22,v24,(.bool false)] h) fun v25 h26 =>
 .nm (T1 x15) h26) (.nm (T1 x15) h)) (y0 r) (y3 r) (y17 r)
def k15_5 : KF := fun c i x r h => (fun (x32 x33 x34 x35 : AV) =>
 ifR x35 (tR (fa 3 x33 h) fun v36 h37 =>
 tR (ld v36 h37) fun v38 h39 =>
 tR (b_sne v38 (.str []) h39) fun v40 h41 =>
 ifR v40 (tQ (nic x32 h41) fun v42 =>
 tQ (fa 0 v42 h41) fun v43 =>
 tQ (ld v43 h41) fun v44 =>
 tQ (fa 1 x33 h41) fun v45 =>
 tQ (ld v45 h41) fun v46 =>
 tQ (fa 3 x33 h41) fun v47 =>
 tQ (ld v47 h41) fun v48 =>
 tX (c 27 [v44,v46,v48,(.bool true)] h41) fun v49 h50 =>
 .nm (T1 x32) h50) (.nm (T1 x32) h41)) (tR (b_eq x34 (pi 3) h) fun v51 h52 =>
 ifR v51 (tQ (nic x32 h52) fun v53 =>
 tQ (fa 0 v53 h52) fun v54 =>
 tQ (ld v54 h52) fun v55 =>
 tQ (fa 2 x33 h52) fun v56 =>
 tQ (ld v56 h52) fun v57 =>
 tX (c 28 [v55,v57] h52) fun v58 h59 =>
 .nm (T1 x32) h59) (tR (b_eq x34 (pi 4) h52) fun v60 h61 =>
 ifR v60 (tQ (nic x32 h61) fun v62 =>
 tQ (fa 0 v62 h61) fun v63 =>
 tQ (ld v63 h61) fun v64 =>
 tQ (fa 2 x33 h61) fun v65 =>
 tQ (ld v65 h61) fun v66 =>
 tX (c 29 [v64,v66] h61) fun v67 h68 =>
 .nm (T1 x32) h68) (tR (b_eq x34 (pi 5) h61) fun v69 h70 =>
 ifR v69 (tQ (nic x32 h70) fun v71 =>
 tQ (fa 0 v71 h70) fun v72 =>
 tQ (ld v72 h70) fun v73 =>
 tQ (fa 2 x33 h70) fun v74 =>
 tQ (ld v74 h70) fun v75 =>
 tX (c 30 [v73,v75] h70) fun v76 h77 =>
 .nm (T1 x32) h77) (tR (b_eq x34 (pi 6) h70) fun v78 h79 =>
 ifR v78 (tQ (nic x32 h79) fun v80 =>
 tQ (fa 0 v80 h79) fun v81 =>
 tQ (ld v81 h79) fun v82 =>
 tQ (fa 1 x33 h79) fun v83 =>
 tQ (ld v83 h79) fun v84 =>
 tQ (fa 2 x33 h79) fun v85 =>
 tQ (ld v85 h79) fun v86 =>
 tX (c 31 [v82,v84,v86] h79) fun v87 h88 =>
 .nm (T1 x32) h88) (tR (b_eq x34 (pi 7) h79) fun v89 h90 =>
 ifR v89 (tQ (nic x32 h90) fun v91 =>
 tQ (fa 0 v91 h90) fun v92 =>
 tQ (ld v92 h90) fun v93 =>
 tQ (fa 1 x33 h90) fun v94 =>
 tQ (ld v94 h90) fun v95 =>
 tQ (fa 2 x33 h90) fun v96 =>
 tQ (ld v96 h90) fun v97 =>
 tX (c 32 [v93,v95,v97] h90) fun v98 h99 =>
 .nm (T1 x32) h99) (tR (b_eq x34 (pi 8) h90) fun v100 h101 =>
 ifR v100 (tQ (nic x32 h101) fun v102 =>
 tQ (fa 0 v102 h101) fun v103 =>
 tQ (ld v103 h101) fun v104 =>
 tQ (fa 1 x33 h101) fun v105 =>
 tQ (ld v105 h101) fun v106 =>
 tX (c 33 [v104,v106] h101) fun v107 h108 =>
 .nm (T1 x32) h108) (tR (b_eq x34 (pi 9) h101) fun v109 h110 =>
 ifR v109 (tQ (nic x32 h110) fun v111 =>
 tQ (fa 0 v111 h110) fun v112 =>
 tQ (ld v112 h110) fun v113 =>
 tQ (fa 1 x33 h110) fun v114 =>
 tQ (ld v114 h110) fun v115 =>
 tQ (fa 2 x33 h110) fun v116 =>
 tQ (ld v116 h110) fun v117 =>
 tQ (fa 3 x33 h110) fun v118 =>
 tQ (ld v118 h110) fun v119 =>
 tX (c 34 [v113,v115,v117,v119] h110) fun v120 h121 =>
 .nm (T1 x32) h121) (.nm (T1 x32) h110))))))))) (y0 r) (y3 r) (y6 r) (y27 r)
def k15_4 : KF := fun c i x r h => (fun (x27 x28 x29 : AV) =>
 tR (b_eq x29 (pi 2) h) fun v30 h31 =>
 x (T11 x27 x28 x29 v30) h31) (y0 r) (y3 r) (y6 r)
def k15_2 : KF := fun c i x r h => (fun (x10 x11 x12 : AV) =>
 tR (b_eq x12 (pi 1) h) fun v13 h14 =>
 x (T10 x10 x11 x12 v13) h14) (y0 r) (y3 r) (y6 r)
def k15_1 : KF := fun c i x r h => (fun (x4 x5 : AV) =>
 tR (fa 0 x5 h) fun v6 h7 =>
 tR (ld v6 h7) fun v8 h9 =>
 x (T9 x4 x5 v8) h9) (y0 r) (y3 r)
def k15_6 : KF := fun c i x r h => (fun (x122 : AV) =>
 tT (c 35 [x122] h) fun v123 h124 =>
 .ret (T12 v123) h124) (y0 r)
def k15_0 : KF := fun c i x r h => (fun (x0 x1 : AV) =>
 tR (o_box 31 (.c x1) .nil h) fun v2 h3 =>
 x (T8 x0 v2) h3) (y0 r) (y1 r)
def x15 : AC := (.shal k15_0 (.seq (.shal k15_1 (.block 0 (.shal k15_2 (.cond r7 (.seq (.ops [o d9 (.fad 3 r3),
 o d10 (.ld1 r9),
 o d11 (.bin .sne r10 (.c (.str []))),
 m d12 r11,
 .g .h0 .hc true d13 (.op (.fad 3 r3)),
 .g .h0 .hc true d14 (.op (.ld1 r13)),
 .g .h0 .hc true d15 (.op (.lent r14)),
 .g .h0 .hc true d16 (.op (.bin .le r15 (.c (pi 10000)))),
 o d17 (.pick r12 r16 (.c (.bool false)))]) (.shal k15_3 .skip)) (.shal k15_4 (.shal k15_5 .skip)))))) (.shal k15_6 .skip)))
def z15 : List Rs := [.t .h0 .h4]
def f15 : AF := .mk x15 z15
def k16_2 : KF := fun c i x r h => (fun (x8 x9 x10 x11 : AV) =>
 ifR x11 (tR (b_add x10 (pi 1) h) fun v12 h13 =>
 .go 0 (T14 x8 x9 v12) h13) (.nm (T14 x8 x9 x10) h)) (y0 r) (y1 r) (y6 r) (y19 r)
def k16_3 : KF := fun c i x r h => (fun (x14 x15 x16 x17 : AV) =>
 ifR x17 (tR (nic x14 h) fun v18 h19 =>
 tR (fa 0 v18 h19) fun v20 h21 =>
 tR (ld v20 h21) fun v22 h23 =>
 tT (c 37 [v22] h23) fun v24 h25 =>
 tR (b_add x16 (pi 1) h25) fun v26 h27 =>
 .go 0 (T14 x14 x15 v26) h27) (.nm (T14 x14 x15 x16) h)) (y0 r) (y1 r) (y6 r) (y31 r)
def k16_4 : KF := fun c i x r h => (fun (x28 x29 : AV) =>
 tT (c 35 [x28] h) fun v30 h31 =>
 .ret (T15 v30 x29) h31) (y0 r) (y6 r)
def k16_1 : KF := fun c i x r h => (fun (x2 x3 : AV) =>
 tR (maxV false [x3,(pi 0)] h) fun v4 h5 =>
 tR (maxV true [v4,(pi 20000)] h5) fun v6 h7 =>
 x (T14 x2 v6 (pi 0)) h7) (y0 r) (y1 r)
def k16_0 : KF := fun c i x r h => (fun (x0 x1 : AV) =>
 x (T13 x0 x1) h) (y0 r) (y1 r)
def x16 : AC := (.shal k16_0 (.scope (.shal k16_1 (.seq (.label 0) (.seq (.seq (.ops [m d10 r6,
 m d11 r1,
 o d12 (.bin .lt r10 r11),
 m d13 r12,
 .g .h0 .hd true d14 (.op (.mv r0)),
 .g .h0 .hd true d15 (.op (.nilc r14)),
 .g .h0 .hd true d16 (.op (.fad 0 r15)),
 .g .h0 .hd true d17 (.op (.ld1 r16)),
 .g .h0 .hd true d18 (.call 28 [r17,(.c (pi 0))]),
 o d19 (.pick r13 r18 (.c (.bool false)))]) (.shal k16_2 .skip)) (.seq (.seq (.ops [m d22 r6,
 m d23 r1,
 o d24 (.bin .lt r22 r23),
 m d25 r24,
 .g .h1 .h9 true d26 (.op (.mv r0)),
 .g .h1 .h9 true d27 (.op (.nilc r26)),
 .g .h1 .h9 true d28 (.op (.fad 0 r27)),
 .g .h1 .h9 true d29 (.op (.ld1 r28)),
 .g .h1 .h9 true d30 (.call 36 [r29]),
 o d31 (.pick r25 r30 (.c (.bool false)))]) (.shal k16_3 .skip)) (.shal k16_4 .skip)))))))
def z16 : List Rs := [.t .h0 .h4,.t .h0 .h5]
def f16 : AF := .mk x16 z16
def k17_2 : KF := fun c i x r h => (fun (x20 : AV) =>
 tR (o_build [(pi 0),(pi 0),(pi 0),(.str [])] [.mk 0 1 (.c (pi 1)),.mk 1 1 (.c (pi 0)),.mk 3 1 (.c (.str [120]))] .nil h) fun v21 h22 =>
 tT (c 15 [x20,v21] h22) fun v23 h24 =>
 tT (c 16 [x20,(pi 20000)] h24) fun v25 h26 =>
 tR (o_ext 0 (.c v25) .nil h26) fun v27 h28 =>
 tR (o_ext 1 (.c v25) .nil h28) fun v29 h30 =>
 tR (appV 36 4 v23 v27 h30) fun v31 h32 =>
 x (T18 x20 v31) h32) (y1 r)
def k17_1 : KF := fun c i x r h => (fun (x6 x7 : AV) =>
 tR (bK .peq x6 .nilp h) fun v8 h9 =>
 (fun (k10 : AV → Hp → RS) => gd v8 false (k10 x7 h9) (k10 .undef h9)) fun v11 h12 =>
 (fun (k13 : AV → Hp → RS) => gd v8 false (tR (b_ne v11 (pi 0) h12) fun v16 h17 =>
 k13 v16 h17) (k13 .undef h12)) fun v14 h15 =>
 tR (o_pick (.c v8) (.c (.bool true)) (.c v14) .nil h15) fun v18 h19 =>
 ifR v18 (.ret (T1 (.bool false)) h19) (x (T17 x6) h19)) (y1 r) (y2 r)
def k17_0 : KF := fun c i x r h => tT (c 14 [(pi 3)] h) fun v0 h1 =>
 tR (o_ext 0 (.c v0) .nil h1) fun v2 h3 =>
 tR (o_ext 1 (.c v0) .nil h3) fun v4 h5 =>
 x (T16 v2 v4) h5
def x17 : AC := (.shal k17_0 (.shal k17_1 (.shal k17_2 (.seq (.ops [m d27 r3,
 o d28 (.len r27),
 o d29 (.bin .eq r28 (.c (pi 1))),
 m d30 r29,
 .g .h1 .he true d31 (.op (.mv r3)),
 .g .h1 .he true d32 (.op (.ixs 4 r31 (.c (pi 0)))),
 .g .h1 .he true d33 (.op (.ldn 4 r32)),
 .g .h1 .he true d34 (.op (.build [(pi 0),(pi 0),(.str []),(pi 0)] [.mk 0 1 (.c (pi 1)),.mk 2 1 (.c (.str [120]))])),
 .g .h1 .he true d35 (.op (.bin (.aeq [.i,.i,.s,.i]) r33 r34)),
 o d36 (.pick r30 r35 (.c (.bool false))),
 m d37 r36,
 .g .h2 .h5 true d38 (.op (.mv r1)),
 .g .h2 .h5 true d39 (.call 19 [r38,(.c (pi 0))]),
 .g .h2 .h5 true d40 (.op (.bslice 9 1 1 [(.str [])] [.mk 0 1 (.c (.str [120]))])),
 .g .h2 .h5 true d41 (.call 18 [r39,r40]),
 o d42 (.pick r37 r41 (.c (.bool false))),
 m d43 r42,
 .g .h2 .hb true d44 (.op (.mv r1)),
 .g .h2 .hb true d45 (.call 19 [r44,(.c (pi 2))]),
 .g .h2 .hb true d46 (.op (.bslice 9 1 1 [(.str [])] [.mk 0 1 (.c (.str [120]))])),
 .g .h2 .hb true d47 (.call 18 [r45,r46]),
 o d48 (.pick r43 r47 (.c (.bool false))),
 m d49 r48,
 .g .h3 .h1 true d50 (.op (.mv r1)),
 .g .h3 .h1 true d51 (.call 25 [r50]),
 .g .h3 .h1 true d52 (.op (.bin .eq r51 (.c (pi 0)))),
 o d53 (.pick r49 r52 (.c (.bool false))),
 m d0 r53]) .ret))))
def z17 : List Rs := [.t .h0 .h0]
def f17 : AF := .mk x17 z17
def k18_2 : KF := fun c i x r h => (fun (x10 x11 x12 : AV) =>
 tR (len x10 h) fun v13 h14 =>
 tR (b_lt x12 v13 h14) fun v15 h16 =>
 ifR v15 (tQ (ix 1 x10 x12 h16) fun v17 =>
 tQ (ld v17 h16) fun v18 =>
 tQ (ix 1 x11 x12 h16) fun v19 =>
 tQ (ld v19 h16) fun v20 =>
 tQ (b_sne v18 v20 h16) fun v21 =>
 ifR v21 (.ret (T12 (.bool false)) h16) (tR (b_add x12 (pi 1) h16) fun v22 h23 =>
 .nm (T19 x10 x11 v22) h23)) (.ex 0 (T19 x10 x11 x12) h16)) (y0 r) (y1 r) (y5 r)
def k18_1 : KF := fun c i x r h => (fun (x8 x9 : AV) =>
 x (T19 x8 x9 (pi 0)) h) (y0 r) (y1 r)
def k18_3 : KF := fun c i x r h => .ret (T12 (.bool true)) h
def k18_0 : KF := fun c i x r h => (fun (x0 x1 : AV) =>
 tR (len x0 h) fun v2 h3 =>
 tR (len x1 h3) fun v4 h5 =>
 tR (b_ne v2 v4 h5) fun v6 h7 =>
 ifR v6 (.ret (T12 (.bool false)) h7) (x (T13 x0 x1) h7)) (y0 r) (y1 r)
def x18 : AC := (.shal k18_0 (.seq (.shal k18_1 (.block 0 (.loop (.shal k18_2 .skip)))) (.shal k18_3 .skip)))
def z18 : List Rs := [.t .h0 .h4]
def f18 : AF := .mk x18 z18
def k19_0 : KF := fun c i x r h => (fun (x0 x1 : AV) =>
 tR (nic x0 h) fun v2 h3 =>
 tR (fa 0 v2 h3) fun v4 h5 =>
 tR (ld v4 h5) fun v6 h7 =>
 tT (c 38 [v6,x1] h7) fun v8 h9 =>
 tR (u_not v8 h9) fun v10 h11 =>
 ifR v10 (.ret (T12 .nils) h11) (tR (nic x0 h11) fun v12 h13 =>
 tR (fa 1 v12 h13) fun v14 h15 =>
 tR (ld v14 h15) fun v16 h17 =>
 tR (nic v16 h17) fun v18 h19 =>
 tR (fa 0 v18 h19) fun v20 h21 =>
 tR (o_ixa 5 3 (.c v20) (.c x1) .nil h21) fun v22 h23 =>
 tR (fa 2 v22 h23) fun v24 h25 =>
 tR (ld v24 h25) fun v26 h27 =>
 tT (c 39 [v26] h27) fun v28 h29 =>
 .ret (T12 v28) h29)) (y0 r) (y1 r)
def x19 : AC := (.shal k19_0 .skip)
def z19 : List Rs := [.t .h0 .h4]
def f19 : AF := .mk x19 z19
def k20_0 : KF := fun c i x r h => (fun (x0 x1 : AV) =>
 tR (nic x0 h) fun v2 h3 =>
 tR (fa 0 v2 h3) fun v4 h5 =>
 tR (ld v4 h5) fun v6 h7 =>
 tT (c 38 [v6,x1] h7) fun v8 h9 =>
 .ret (T12 v8) h9) (y0 r) (y1 r)
def x20 : AC := (.shal k20_0 .skip)
def z20 : List Rs := [.t .h0 .h4]
def f20 : AF := .mk x20 z20
def k21_1 : KF := fun c i x r h => (fun (x12 x13 : AV) =>
 tQ (nic x12 h) fun v14 =>
 tQ (fa 1 v14 h) fun v15 =>
 tQ (ld v15 h) fun v16 =>
 tQ (nic v16 h) fun v17 =>
 tQ (fa 0 v17 h) fun v18 =>
 tQ (o_ixa 5 3 (.c v18) (.c x13) .nil h) fun v19 =>
 tQ (fa 0 v19 h) fun v20 =>
 tQ (ld v20 h) fun v21 =>
 tQ (nic x12 h) fun v22 =>
 tQ (fa 1 v22 h) fun v23 =>
 tQ (ld v23 h) fun v24 =>
 tQ (nic v24 h) fun v25 =>
 tQ (fa 0 v25 h) fun v26 =>
 tQ (o_ixa 5 3 (.c v26) (.c x13) .nil h) fun v27 =>
 tQ (fa 1 v27 h) fun v28 =>
 tQ (ld v28 h) fun v29 =>
 .ret (T15 v21 v29) h) (y0 r) (y1 r)
def k21_0 : KF := fun c i x r h => (fun (x0 x1 : AV) =>
 tR (nic x0 h) fun v2 h3 =>
 tR (fa 0 v2 h3) fun v4 h5 =>
 tR (ld v4 h5) fun v6 h7 =>
 tT (c 38 [v6,x1] h7) fun v8 h9 =>
 tR (u_not v8 h9) fun v10 h11 =>
 ifR v10 (.ret (T15 (pi 0) (.str [])) h11) (x (T13 x0 x1) h11)) (y0 r) (y1 r)
def x21 : AC := (.shal k21_0 (.shal k21_1 .skip))
def z21 : List Rs := [.t .h0 .h4,.t .h0 .h5]
def f21 : AF := .mk x21 z21
def k25_0 : KF := fun c i x r h => (fun (x0 : AV) =>
 tR (nic x0 h) fun v1 h2 =>
 tR (fa 0 v1 h2) fun v3 h4 =>
 tR (ld v3 h4) fun v5 h6 =>
 tT (c 41 [v5] h6) fun v7 h8 =>
 .ret (T20 v7) h8) (y0 r)
def x25 : AC := (.shal k25_0 .skip)
def z25 : List Rs := [.t .h0 .h2]
def f25 : AF := .mk x25 z25
def k26_3 : KF := fun c i x r h => (fun (x13 x14 x15 : AV) =>
 x (T24 x13 x15 x14 x15) h) (y5 r) (y12 r) (y13 r)
def k26_4 : KF := fun c i x r h => (fun (x16 x17 x18 : AV) =>
 tR (b_add x18 (pi 1) h) fun v19 h20 =>
 .nm (T22 x16 x17 v19) h20) (y5 r) (y12 r) (y13 r)
def k26_2 : KF := fun c i x r h => (fun (x8 x9 x10 : AV) =>
 tR (b_lt x10 x9 h) fun v11 h12 =>
 ifR v11 (x (T22 x8 x9 x10) h12) (.ex 0 (T23 x8) h12)) (y5 r) (y12 r) (y13 r)
def k26_1 : KF := fun c i x r h => (fun (x6 x7 : AV) =>
 x (T22 x7 x6 (pi 0)) h) (y0 r) (y5 r)
def k26_6 : KF := fun c i x r h => (fun (x30 x31 x32 x33 : AV) =>
 tR (b_lt x33 x32 h) fun v34 h35 =>
 ifR v34 (tR (ix 1 x31 x33 h35) fun v36 h37 =>
 tR (ld v36 h37) fun v38 h39 =>
 tT (c 43 [v38,(.bool false)] h39) fun v40 h41 =>
 tR (b_add x33 (pi 1) h41) fun v42 h43 =>
 .nm (T25 x30 x31 x32 v42) h43) (.ex 2 (T25 x30 x31 x32 x33) h35)) (y5 r) (y34 r) (y35 r) (y36 r)
def k26_5 : KF := fun c i x r h => (fun (x21 : AV) =>
 tR (nic x21 h) fun v22 h23 =>
 tR (fa 1 v22 h23) fun v24 h25 =>
 tR (ld v24 h25) fun v26 h27 =>
 tR (len v26 h27) fun v28 h29 =>
 x (T25 x21 v26 v28 (pi 0)) h29) (y5 r)
def k26_7 : KF := fun c i x r h => (fun (x44 : AV) =>
 .ret (T12 x44) h) (y5 r)
def k26_0 : KF := fun c i x r h => (fun (x0 x1 : AV) =>
 tR (o_build [.nils,.nils,.nili] [.mk 2 1 (.c x1)] .nil h) fun v2 h3 =>
 tR (o_box 87 (.c v2) .nil h3) fun v4 h5 =>
 x (T21 x0 v4) h5) (y0 r) (y1 r)
def x26 : AC := (.shal k26_0 (.seq (.shal k26_1 (.block 0 (.loop (.shal k26_2 (.seq (.block 1 (.shal k26_3 (.drw [w (.o d23 (.call 42 [])),
 q 1 (m d21 r5),
 q 1 (m d22 r6),
 q 0 (o d24 (.build [.nilp,(pi 0),.nilp,(pi 0),(.bool false),(pi 0),(pi 0),.nilp,.nilp,.nilp,(pi 0),.nilm,(pi 0),(pi 0),(pi 0),.nilm,(.str []),.nils,(pi 0),(pi 0),.nilm,(pi 0),(pi 0),(pi 0),(.bool false)] [.mk 0 1 r21,.mk 1 1 r22,.mk 2 1 r23])),
 w (o d25 (.box 101 r24)),
 w (o d26 (.bslice 88 1 1 [.nilp] [.mk 0 1 r25])),
 q 3 (m d17 r5),
 q 3 (o d18 (.nilc r17)),
 q 3 (o d19 (.fad 1 r18)),
 q 3 (o d20 (.ld1 r19)),
 w (o d27 (.app 88 1 r20 r26)),
 q 4 (m d16 r5),
 q 0 (o d28 (.nilc r16)),
 q 0 (o d29 (.fad 1 r28)),
 w (o .no (.st1 r29 r27))]))) (.shal k26_4 .skip)))))) (.seq (.shal k26_5 (.block 2 (.loop (.shal k26_6 .skip)))) (.shal k26_7 .skip))))
def z26 : List Rs := [.t .h0 .h4]
def f26 : AF := .mk x26 z26
def k27_0 : KF := fun c i x r h => (fun (x0 x1 x2 x3 : AV) =>
 tT (c 38 [x0,x1] h) fun v4 h5 =>
 ifR v4 (tR (nic x0 h5) fun v6 h7 =>
 tR (fa 1 v6 h7) fun v8 h9 =>
 tR (ld v8 h9) fun v10 h11 =>
 tR (ix 1 v10 x1 h11) fun v12 h13 =>
 tR (ld v12 h13) fun v14 h15 =>
 tT (c 44 [v14,x2,x3] h15) fun v16 h17 =>
 .nm T26 h17) (.nm T26 h5)) (y0 r) (y1 r) (y2 r) (y3 r)
def x27 : AC := (.shal k27_0 .skip)
def z27 : List Rs := []
def f27 : AF := .mk x27 z27
def k28_2 : KF := fun c i x r h => (fun (x39 x40 : AV) =>
 tQ (nic x39 h) fun v41 =>
 tQ (fa 1 v41 h) fun v42 =>
 tQ (ld v42 h) fun v43 =>
 tQ (fa 1 x40 h) fun v44 =>
 tQ (ld v44 h) fun v45 =>
 tQ (ix 1 v43 v45 h) fun v46 =>
 tQ (ld v46 h) fun v47 =>
 tQ (nic v47 h) fun v48 =>
 tQ (fa 4 v48 h) fun v49 =>
 tQ (ld v49 h) fun v50 =>
 ifR v50 (tQ (nic x39 h) fun v51 =>
 tQ (fa 1 v51 h) fun v52 =>
 tQ (ld v52 h) fun v53 =>
 tQ (fa 1 x40 h) fun v54 =>
 tQ (ld v54 h) fun v55 =>
 tQ (ix 1 v53 v55 h) fun v56 =>
 tQ (ld v56 h) fun v57 =>
 tQ (o_ldn 3 (.c x40) .nil h) fun v58 =>
 tX (c 47 [v57,v58] h) fun v59 h60 =>
 x (T12 (.bool true)) h60) (x (T12 (.bool true)) h)) (y0 r) (y6 r)
def k28_1 : KF := fun c i x r h => (fun (x20 x21 x22 : AV) =>
 tR (nic x20 h) fun v23 h24 =>
 tR (fa 0 v23 h24) fun v25 h26 =>
 tR (ld v25 h26) fun v27 h28 =>
 tR (b_add x21 (pi 1) h28) fun v29 h30 =>
 tT (c 46 [v27,x21,v29] h30) fun v31 h32 =>
 tR (nic x20 h32) fun v33 h34 =>
 tR (fa 0 v33 h34) fun v35 h36 =>
 tR (sto v35 v31 h36) fun v37 h38 =>
 x (T28 x20 x22) h38) (y0 r) (y5 r) (y6 r)
def k28_0 : KF := fun c i x r h => (fun (x0 x1 : AV) =>
 tT (c 45 [x0,x1] h) fun v2 h3 =>
 tR (b_lt v2 (pi 0) h3) fun v4 h5 =>
 ifR v4 (.ret (T12 (.bool false)) h5) (tR (nic x0 h5) fun v6 h7 =>
 tR (fa 0 v6 h7) fun v8 h9 =>
 tR (ld v8 h9) fun v10 h11 =>
 tR (ix 3 v10 v2 h11) fun v12 h13 =>
 tR (o_ldn 3 (.c v12) .nil h13) fun v14 h15 =>
 tR (o_alloc 106 3 (.k1 (.mk (pi 0) (pi 0) .nils .undef .undef .undef .undef .undef .undef .undef .undef .undef .undef .undef .undef .undef)) .nil h15) fun v16 h17 =>
 tR (o_stn 3 (.c v16) (.c v14) .nil h17) fun v18 h19 =>
 x (T27 x0 v2 v16) h19)) (y0 r) (y1 r)
def x28 : AC := (.shal k28_0 (.shal k28_1 (.shal k28_2 .ret)))
def z28 : List Rs := [.t .h0 .h4]
def f28 : AF := .mk x28 z28
def k29_0 : KF := fun c i x r h => (fun (x0 x1 : AV) =>
 tT (c 45 [x0,x1] h) fun v2 h3 =>
 tR (b_ge v2 (pi 0) h3) fun v4 h5 =>
 ifR v4 (tR (nic x0 h5) fun v6 h7 =>
 tR (fa 0 v6 h7) fun v8 h9 =>
 tR (ld v8 h9) fun v10 h11 =>
 tR (b_add v2 (pi 1) h11) fun v12 h13 =>
 tT (c 46 [v10,v2,v12] h13) fun v14 h15 =>
 tR (nic x0 h15) fun v16 h17 =>
 tR (fa 0 v16 h17) fun v18 h19 =>
 tR (sto v18 v14 h19) fun v20 h21 =>
 .nm T26 h21) (.nm T26 h5)) (y0 r) (y1 r)
def x29 : AC := (.shal k29_0 .skip)
def z29 : List Rs := []
def f29 : AF := .mk x29 z29
def k30_0 : KF := fun c i x r h => (fun (x0 x1 : AV) =>
 tT (c 45 [x0,x1] h) fun v2 h3 =>
 tR (b_ge v2 (pi 0) h3) fun v4 h5 =>
 ifR v4 (tR (nic x0 h5) fun v6 h7 =>
 tR (fa 0 v6 h7) fun v8 h9 =>
 tR (ld v8 h9) fun v10 h11 =>
 tR (ix 3 v10 v2 h11) fun v12 h13 =>
 tR (o_ldn 3 (.c v12) .nil h13) fun v14 h15 =>
 tR (o_alloc 106 3 (.k1 (.mk (pi 0) (pi 0) .nils .undef .undef .undef .undef .undef .undef .undef .undef .undef .undef .undef .undef .undef)) .nil h15) fun v16 h17 =>
 tR (o_stn 3 (.c v16) (.c v14) .nil h17) fun v18 h19 =>
 tR (fa 0 v16 h19) fun v20 h21 =>
 tR (ld v20 h21) fun v22 h23 =>
 tR (fa 1 v16 h23) fun v24 h25 =>
 tR (ld v24 h25) fun v26 h27 =>
 tR (fa 2 v16 h27) fun v28 h29 =>
 tR (ld v28 h29) fun v30 h31 =>
 tT (c 48 [x0,v22,v26,v30] h31) fun v32 h33 =>
 .nm T26 h33) (.nm T26 h5)) (y0 r) (y1 r)
def x30 : AC := (.shal k30_0 .skip)
def z30 : List Rs := []
def f30 : AF := .mk x30 z30
def k31_0 : KF := fun c i x r h => (fun (x0 x1 x2 x3 : AV) =>
 ifR x3 (tR (nic x0 h) fun v4 h5 =>
 tR (fa 1 v4 h5) fun v6 h7 =>
 tR (ld v6 h7) fun v8 h9 =>
 tR (ix 1 v8 x1 h9) fun v10 h11 =>
 tR (ld v10 h11) fun v12 h13 =>
 tT (c 50 [v12,x2] h13) fun v14 h15 =>
 .nm T26 h15) (.nm T26 h)) (y0 r) (y1 r) (y2 r) (y16 r)
def x31 : AC := (.seq (.ops [m d6 r0,
 m d7 r1,
 .o d8 (.call 49 [r6,r7]),
 m d9 r8,
 .g .h0 .h9 true d10 (.op (.mv r2)),
 .g .h0 .h9 true d11 (.op (.bin .ge r10 (.c (pi 1)))),
 o d12 (.pick r9 r11 (.c (.bool false))),
 m d13 r12,
 .g .h0 .hd true d14 (.op (.mv r2)),
 .g .h0 .hd true d15 (.op (.bin .le r14 (.c (pi 1000)))),
 o d16 (.pick r13 r15 (.c (.bool false)))]) (.shal k31_0 .skip))
def z31 : List Rs := []
def f31 : AF := .mk x31 z31
def k32_1 : KF := fun c i x r h => (fun (x5 x6 x7 x8 : AV) =>
 ifR x8 (tR (nic x5 h) fun v9 h10 =>
 tR (fa 1 v9 h10) fun v11 h12 =>
 tR (ld v11 h12) fun v13 h14 =>
 tR (ix 1 v13 x6 h14) fun v15 h16 =>
 tR (ld v15 h16) fun v17 h18 =>
 tR (nic v17 h18) fun v19 h20 =>
 tR (fa 4 v19 h20) fun v21 h22 =>
 tR (sto v21 (.bool false) h22) fun v23 h24 =>
 tR (nic v17 h24) fun v25 h26 =>
 tR (fa 17 v25 h26) fun v27 h28 =>
 tR (sto v27 .nils h28) fun v29 h30 =>
 tR (nic v17 h30) fun v31 h32 =>
 tR (fa 2 v31 h32) fun v33 h34 =>
 tR (ld v33 h34) fun v35 h36 =>
 tT (c 51 [v35,x7] h36) fun v37 h38 =>
 .nm T26 h38) (.nm T26 h)) (y0 r) (y1 r) (y2 r) (y9 r)
def k32_0 : KF := fun c i x r h => (fun (x0 x1 x2 : AV) =>
 tT (c 38 [x0,x1] h) fun v3 h4 =>
 x (T29 x0 x1 x2 v3) h4) (y0 r) (y1 r) (y2 r)
def x32 : AC := (.shal k32_0 (.shal k32_1 .skip))
def z32 : List Rs := []
def f32 : AF := .mk x32 z32
def k33_1 : KF := fun c i x r h => (fun (x2 x3 x4 : AV) =>
 ifR x4 (.ret (T12 (.bool false)) h) (.nm (T13 x2 x3) h)) (y0 r) (y1 r) (y20 r)
def k33_2 : KF := fun c i x r h => (fun (x5 x6 : AV) =>
 tR (nic x5 h) fun v7 h8 =>
 tR (fa 1 v7 h8) fun v9 h10 =>
 tR (ld v9 h10) fun v11 h12 =>
 tR (ix 1 v11 x6 h12) fun v13 h14 =>
 tR (ld v13 h14) fun v15 h16 =>
 tT (c 43 [v15,(.bool true)] h16) fun v17 h18 =>
 .ret (T12 (.bool true)) h18) (y0 r) (y1 r)
def k33_0 : KF := fun c i x r h => (fun (x0 x1 : AV) =>
 x (T13 x0 x1) h) (y0 r) (y1 r)
def x33 : AC := (.shal k33_0 (.seq (.seq (.ops [m d5 r0,
 m d6 r1,
 .o d7 (.call 49 [r5,r6]),
 o d8 (.un .not r7),
 m d9 r8,
 .g .h0 .h9 false d10 (.op (.mv r0)),
 .g .h0 .h9 false d11 (.op (.nilc r10)),
 .g .h0 .h9 false d12 (.op (.fad 1 r11)),
 .g .h0 .h9 false d13 (.op (.ld1 r12)),
 .g .h0 .h9 false d14 (.op (.mv r1)),
 .g .h0 .h9 false d15 (.op (.ixs 1 r13 r14)),
 .g .h0 .h9 false d16 (.op (.ld1 r15)),
 .g .h0 .h9 false d17 (.op (.nilc r16)),
 .g .h0 .h9 false d18 (.op (.fad 4 r17)),
 .g .h0 .h9 false d19 (.op (.ld1 r18)),
 o d20 (.pick r9 (.c (.bool true)) r19)]) (.shal k33_1 .skip)) (.shal k33_2 .skip)))
def z33 : List Rs := [.t .h0 .h4]
def f33 : AF := .mk x33 z33
def k34_0 : KF := fun c i x r h => (fun (x0 x1 x2 x3 : AV) =>
 tT (c 38 [x0,x1] h) fun v4 h5 =>
 ifR v4 (tR (nic x0 h5) fun v6 h7 =>
 tR (fa 1 v6 h7) fun v8 h9 =>
 tR (ld v8 h9) fun v10 h11 =>
 tR (ix 1 v10 x1 h11) fun v12 h13 =>
 tR (ld v12 h13) fun v14 h15 =>
 tT (c 52 [v14,x2,x3] h15) fun v16 h17 =>
 .nm T26 h17) (.nm T26 h5)) (y0 r) (y1 r) (y2 r) (y3 r)
def x34 : AC := (.shal k34_0 .skip)
def z34 : List Rs := []
def f34 : AF := .mk x34 z34
def k35_0 : KF := fun c i x r h => (fun (x0 : AV) =>
 tR (nic x0 h) fun v1 h2 =>
 tR (fa 1 v1 h2) fun v3 h4 =>
 tR (ld v3 h4) fun v5 h6 =>
 tR (nic v5 h6) fun v7 h8 =>
 tR (fa 15 v7 h8) fun v9 h10 =>
 tR (ld v9 h10) fun v11 h12 =>
 tR (nic x0 h12) fun v13 h14 =>
 tR (fa 1 v13 h14) fun v15 h16 =>
 tR (ld v15 h16) fun v17 h18 =>
 tR (nic v17 h18) fun v19 h20 =>
 tR (fa 15 v19 h20) fun v21 h22 =>
 tR (sto v21 .nils h22) fun v23 h24 =>
 .ret (T20 v11) h24) (y0 r)
def x35 : AC := (.shal k35_0 .skip)
def z35 : List Rs := [.t .h0 .h2]
def f35 : AF := .mk x35 z35
def k36_2 : KF := fun c i x r h => (fun (x11 x12 x13 x14 x15 : AV) =>
 tR (b_lt x15 x14 h) fun v16 h17 =>
 ifR v16 (tR (ix 1 x13 x15 h17) fun v18 h19 =>
 tR (ld v18 h19) fun v20 h21 =>
 tR (nic v20 h21) fun v22 h23 =>
 tR (fa 4 v22 h23) fun v24 h25 =>
 tR (ld v24 h25) fun v26 h27 =>
 ifR v26 (tR (nic v20 h27) fun v28 h29 =>
 tR (fa 10 v28 h29) fun v30 h31 =>
 tR (ld v30 h31) fun v32 h33 =>
 tR (maxV false [x12,v32] h33) fun v34 h35 =>
 tR (b_add x15 (pi 1) h35) fun v36 h37 =>
 .nm (T30 x11 v34 x13 x14 v36) h37) (tR (b_add x15 (pi 1) h27) fun v38 h39 =>
 .nm (T30 x11 x12 x13 x14 v38) h39)) (.ex 0 (T30 x11 x12 x13 x14 x15) h17)) (y0 r) (y3 r) (y12 r) (y13 r) (y14 r)
def k36_1 : KF := fun c i x r h => (fun (x1 x2 : AV) =>
 tR (nic x1 h) fun v3 h4 =>
 tR (fa 1 v3 h4) fun v5 h6 =>
 tR (ld v5 h6) fun v7 h8 =>
 tR (len v7 h8) fun v9 h10 =>
 x (T30 x1 x2 v7 v9 (pi 0)) h10) (y0 r) (y3 r)
def k36_6 : KF := fun c i x r h => (fun (x60 x61 x62 x63 x64 : AV) =>
 tR (ix 1 x62 x64 h) fun v65 h66 =>
 tR (ld v65 h66) fun v67 h68 =>
 tR (nic v67 h68) fun v69 h70 =>
 tR (fa 4 v69 h70) fun v71 h72 =>
 tR (ld v71 h72) fun v73 h74 =>
 tR (u_not v73 h74) fun v75 h76 =>
 ifR v75 (.ex 3 (T31 x60 x61 x62 x63 x64) h76) (tR (nic v67 h76) fun v77 h78 =>
 tR (fa 9 v77 h78) fun v79 h80 =>
 tR (ld v79 h80) fun v81 h82 =>
 tT (c 53 [v81] h82) fun v83 h84 =>
 tR (b_lt v83 x60 h84) fun v85 h86 =>
 ifR v85 (tR (nic v67 h86) fun v87 h88 =>
 tR (fa 24 v87 h88) fun v89 h90 =>
 tR (sto v89 (.bool true) h90) fun v91 h92 =>
 x (T33 x60 (.bool true) v67 x62 x63 x64) h92) (x (T33 x60 x61 v67 x62 x63 x64) h86))) (y3 r) (y6 r) (y32 r) (y33 r) (y34 r)
def k36_7 : KF := fun c i x r h => (fun (x93 x94 x95 x96 x97 : AV) =>
 tR (b_add x97 (pi 1) h) fun v98 h99 =>
 .nm (T31 x93 x94 x95 x96 v98) h99) (y3 r) (y6 r) (y32 r) (y33 r) (y34 r)
def k36_5 : KF := fun c i x r h => (fun (x53 x54 x55 x56 x57 : AV) =>
 tR (b_lt x57 x56 h) fun v58 h59 =>
 ifR v58 (x (T31 x53 x54 x55 x56 x57) h59) (.ex 2 (T32 x54) h59)) (y3 r) (y6 r) (y32 r) (y33 r) (y34 r)
def k36_4 : KF := fun c i x r h => (fun (x42 x43 x44 : AV) =>
 tR (nic x42 h) fun v45 h46 =>
 tR (fa 1 v45 h46) fun v47 h48 =>
 tR (ld v47 h48) fun v49 h50 =>
 tR (len v49 h50) fun v51 h52 =>
 x (T31 x43 x44 v49 v51 (pi 0)) h52) (y0 r) (y3 r) (y6 r)
def k36_8 : KF := fun c i x r h => (fun (x100 : AV) =>
 .ret (T20 x100) h) (y6 r)
def k36_3 : KF := fun c i x r h => (fun (x40 x41 : AV) =>
 x (T9 x40 x41 (.bool false)) h) (y0 r) (y3 r)
def k36_0 : KF := fun c i x r h => (fun (x0 : AV) =>
 x (T8 x0 (pi 0)) h) (y0 r)
def x36 : AC := (.shal k36_0 (.seq (.shal k36_1 (.block 0 (.loop (.shal k36_2 .skip)))) (.shal k36_3 (.seq (.shal k36_4 (.block 2 (.loop (.shal k36_5 (.seq (.block 3 (.shal k36_6 (.ops [m d53 r6,
 m d54 r53,
 .g .h3 .h6 false d55 (.op (.mv r8)),
 .g .h3 .h6 false d56 (.call 54 [r55]),
 o d57 (.pick r54 (.c (.bool true)) r56),
 m d58 r57,
 .g .h3 .ha false d59 (.op (.mv r8)),
 .g .h3 .ha false d60 (.op (.nilc r59)),
 .g .h3 .ha false d61 (.op (.fad 17 r60)),
 .g .h3 .ha false d62 (.op (.ld1 r61)),
 .g .h3 .ha false d63 (.op (.len r62)),
 .g .h3 .ha false d64 (.op (.bin .gt r63 (.c (pi 0)))),
 o d65 (.pick r58 (.c (.bool true)) r64),
 m d6 r65]))) (.shal k36_7 .skip)))))) (.shal k36_8 .skip)))))
def z36 : List Rs := [.t .h0 .h2]
def f36 : AF := .mk x36 z36
def k37_1 : KF := fun c i x r h => (fun (x9 x10 x11 x12 : AV) =>
 tR (b_lt x12 x11 h) fun v13 h14 =>
 ifR v13 (tR (ix 1 x10 x12 h14) fun v15 h16 =>
 tR (ld v15 h16) fun v17 h18 =>
 tR (nic v17 h18) fun v19 h20 =>
 tR (fa 4 v19 h20) fun v21 h22 =>
 tR (ld v21 h22) fun v23 h24 =>
 ifR v23 (tT (c 31 [x9,x12,(pi 250)] h24) fun v25 h26 =>
 tR (b_add x12 (pi 1) h26) fun v27 h28 =>
 .nm (T34 x9 x10 x11 v27) h28) (tR (b_add x12 (pi 1) h24) fun v29 h30 =>
 .nm (T34 x9 x10 x11 v29) h30)) (.ex 0 (T34 x9 x10 x11 x12) h14)) (y0 r) (y7 r) (y8 r) (y9 r)
def k37_0 : KF := fun c i x r h => (fun (x0 : AV) =>
 tR (nic x0 h) fun v1 h2 =>
 tR (fa 1 v1 h2) fun v3 h4 =>
 tR (ld v3 h4) fun v5 h6 =>
 tR (len v5 h6) fun v7 h8 =>
 x (T34 x0 v5 v7 (pi 0)) h8) (y0 r)
def x37 : AC := (.shal k37_0 (.block 0 (.loop (.shal k37_1 .skip))))
def z37 : List Rs := []
def f37 : AF := .mk x37 z37
def k38_0 : KF := fun c i x r h => (fun (x0 x1 : AV) =>
 x (T13 x0 x1) h) (y0 r) (y1 r)
def x38 : AC := (.shal k38_0 (.seq (.ops [m d5 r0,
 m d6 r1,
 .o d7 (.call 49 [r5,r6]),
 m d8 r7,
 .g .h0 .h8 true d9 (.op (.mv r0)),
 .g .h0 .h8 true d10 (.op (.nilc r9)),
 .g .h0 .h8 true d11 (.op (.fad 1 r10)),
 .g .h0 .h8 true d12 (.op (.ld1 r11)),
 .g .h0 .h8 true d13 (.op (.mv r1)),
 .g .h0 .h8 true d14 (.op (.ixs 1 r12 r13)),
 .g .h0 .h8 true d15 (.op (.ld1 r14)),
 .g .h0 .h8 true d16 (.op (.nilc r15)),
 .g .h0 .h8 true d17 (.op (.fad 4 r16)),
 .g .h0 .h8 true d18 (.op (.ld1 r17)),
 o d19 (.pick r8 r18 (.c (.bool false))),
 m d4 r19]) .ret))
def z38 : List Rs := [.t .h0 .h4]
def f38 : AF := .mk x38 z38
def k39_0 : KF := fun c i x r h => (fun (x0 : AV) =>
 tR (bK (.isnil .s) x0 .nils h) fun v1 h2 =>
 ifR v1 (.ret (T20 .nils) h2) (tR (o_bslice 9 1 0 [] [] .nil h2) fun v3 h4 =>
 tR (appV 9 1 v3 x0 h4) fun v5 h6 =>
 .ret (T20 v5) h6)) (y0 r)
def x39 : AC := (.shal k39_0 .skip)
def z39 : List Rs := [.t .h0 .h2]
def f39 : AF := .mk x39 z39
def k41_0 : KF := fun c i x r h => (fun (x0 : AV) =>
 tR (nic x0 h) fun v1 h2 =>
 tR (fa 0 v1 h2) fun v3 h4 =>
 tR (ld v3 h4) fun v5 h6 =>
 tR (len v5 h6) fun v7 h8 =>
 .ret (T20 v7) h8) (y0 r)
def x41 : AC := (.shal k41_0 .skip)
def z41 : List Rs := [.t .h0 .h2]
def f41 : AF := .mk x41 z41
def k42_0 : KF := fun c i x r h => tR (o_build [.nils,(pi 0)] [] .nil h) fun v0 h1 =>
 tR (o_box 113 (.c v0) .nil h1) fun v2 h3 =>
 .ret (T1 v2) h3
def x42 : AC := (.shal k42_0 .skip)
def z42 : List Rs := [.t .h0 .h0]
def f42 : AF := .mk x42 z42
def k43_6 : KF := fun c i x r h => (fun (x109 x110 x111 x112 : AV) =>
 tR (b_lt x112 x111 h) fun v113 h114 =>
 ifR v113 (tR (ix 1 x110 x112 h114) fun v115 h116 =>
 tR (ld v115 h116) fun v117 h118 =>
 tT (c 63 [v117] h118) fun v119 h120 =>
 tT (c 62 [x109,v119] h120) fun v121 h122 =>
 tR (b_add x112 (pi 1) h122) fun v123 h124 =>
 .nm (T36 x109 x110 x111 v123) h124) (.ex 0 (T36 x109 x110 x111 x112) h114)) (y0 r) (y81 r) (y82 r) (y83 r)
def k43_5 : KF := fun c i x r h => (fun (x105 x106 : AV) =>
 tR (len x106 h) fun v107 h108 =>
 x (T36 x105 x106 v107 (pi 0)) h108) (y0 r) (y4 r)
def k43_9 : KF := fun c i x r h => (fun (x163 : AV) =>
 tT (c 65 [x163] h) fun v164 h165 =>
 .nm T26 h165) (y0 r)
def k43_8 : KF := fun c i x r h => (fun (x142 : AV) =>
 tQ (nic x142 h) fun v143 =>
 tQ (fa 0 v143 h) fun v144 =>
 tQ (ld v144 h) fun v145 =>
 tQ (nic v145 h) fun v146 =>
 tQ (fa 2 v146 h) fun v147 =>
 tQ (ld v147 h) fun v148 =>
 tQ (nic x142 h) fun v149 =>
 tQ (fa 1 v149 h) fun v150 =>
 tQ (ld v150 h) fun v151 =>
 tQ (nic x142 h) fun v152 =>
 tQ (fa 13 v152 h) fun v153 =>
 tQ (fa 1 v153 h) fun v154 =>
 tQ (ld v154 h) fun v155 =>
 tQ (nic x142 h) fun v156 =>
 tQ (fa 13 v156 h) fun v157 =>
 tQ (fa 3 v157 h) fun v158 =>
 tQ (ld v158 h) fun v159 =>
 tQ (nic v148 h) fun v160 =>
 tX (i 0 v148 [v151,v155,v159] h) fun v161 h162 =>
 x (T1 x142) h162) (y0 r)
def k43_7 : KF := fun c i x r h => (fun (x125 : AV) =>
 tR (nic x125 h) fun v126 h127 =>
 tR (fa 6 v126 h127) fun v128 h129 =>
 tR (ld v128 h129) fun v130 h131 =>
 tR (b_add v130 (pi 1) h131) fun v132 h133 =>
 tR (nic x125 h133) fun v134 h135 =>
 tR (fa 6 v134 h135) fun v136 h137 =>
 tR (sto v136 v132 h137) fun v138 h139 =>
 tT (c 64 [x125] h139) fun v140 h141 =>
 x (T1 x125) h141) (y0 r)
def k43_4 : KF := fun c i x r h => (fun (x90 : AV) =>
 tR (nic x90 h) fun v91 h92 =>
 tR (fa 2 v91 h92) fun v93 h94 =>
 tR (ld v93 h94) fun v95 h96 =>
 tT (c 61 [v95] h96) fun v97 h98 =>
 tT (c 60 [v97] h98) fun v99 h100 =>
 tR (o_ext 0 (.c v99) .nil h100) fun v101 h102 =>
 tR (o_ext 1 (.c v99) .nil h102) fun v103 h104 =>
 x (T35 x90 v101) h104) (y0 r)
def k43_3 : KF := fun c i x r h => (fun (x58 x59 : AV) =>
 tR (nic x58 h) fun v60 h61 =>
 tR (fa 3 v60 h61) fun v62 h63 =>
 tR (ld v62 h63) fun v64 h65 =>
 tR (nic x58 h65) fun v66 h67 =>
 tR (fa 19 v66 h67) fun v68 h69 =>
 tR (sto v68 (pi 0) h69) fun v70 h71 =>
 tR (nic x58 h71) fun v72 h73 =>
 tR (fa 22 v72 h73) fun v74 h75 =>
 tR (sto v74 (pi 0) h75) fun v76 h77 =>
 tR (nic x58 h77) fun v78 h79 =>
 tR (fa 23 v78 h79) fun v80 h81 =>
 tR (sto v80 v64 h81) fun v82 h83 =>
 tR (nic x58 h83) fun v84 h85 =>
 tR (fa 24 v84 h85) fun v86 h87 =>
 tR (sto v86 x59 h87) fun v88 h89 =>
 x (T1 x58) h89) (y0 r) (y1 r)
def k43_2 : KF := fun c i x r h => (fun (x48 x49 : AV) =>
 tR (o_build [(pi 0),(pi 0),.nilm,(.str [])] [] .nil h) fun v50 h51 =>
 tR (nic x48 h51) fun v52 h53 =>
 tR (fa 13 v52 h53) fun v54 h55 =>
 tR (o_stn 4 (.c v54) (.c v50) .nil h55) fun v56 h57 =>
 x (T13 x48 x49) h57) (y0 r) (y1 r)
def k43_1 : KF := fun c i x r h => (fun (x8 x9 : AV) =>
 tR (o_mkmap .nil h) fun v10 h11 =>
 tR (nic x8 h11) fun v12 h13 =>
 tR (fa 11 v12 h13) fun v14 h15 =>
 tR (sto v14 v10 h15) fun v16 h17 =>
 tR (nic x8 h17) fun v18 h19 =>
 tR (fa 17 v18 h19) fun v20 h21 =>
 tR (sto v20 .nils h21) fun v22 h23 =>
 tR (nic x8 h23) fun v24 h25 =>
 tR (fa 18 v24 h25) fun v26 h27 =>
 tR (sto v26 (pi 0) h27) fun v28 h29 =>
 tR (nic x8 h29) fun v30 h31 =>
 tR (fa 6 v30 h31) fun v32 h33 =>
 tR (sto v32 (pi 0) h33) fun v34 h35 =>
 tR (nic x8 h35) fun v36 h37 =>
 tR (fa 10 v36 h37) fun v38 h39 =>
 tR (sto v38 (pi 0) h39) fun v40 h41 =>
 tR (nic x8 h41) fun v42 h43 =>
 tR (fa 12 v42 h43) fun v44 h45 =>
 tR (sto v44 (pi 0) h45) fun v46 h47 =>
 x (T13 x8 x9) h47) (y0 r) (y1 r)
def k43_0 : KF := fun c i x r h => (fun (x0 x1 : AV) =>
 tR (nic x0 h) fun v2 h3 =>
 tR (fa 4 v2 h3) fun v4 h5 =>
 tR (sto v4 (.bool true) h5) fun v6 h7 =>
 x (T13 x0 x1) h7) (y0 r) (y1 r)
def x43 : AC := (.shal k43_0 (.seq (.drw [w (.o d14 (.call 56 [])),
 w (.o d15 (.call 57 [])),
 q 2 (m d20 r0),
 q 2 (o d21 (.nilc r20)),
 q 2 (o d22 (.fad 0 r21)),
 q 2 (o d23 (.ld1 r22)),
 w (.o d24 (.call 59 [r23])),
 q 3 (m d16 r0),
 q 3 (o d17 (.nilc r16)),
 q 3 (o d18 (.fad 1 r17)),
 q 3 (o d19 (.ld1 r18)),
 w (.o d25 (.call 58 [r19,r24])),
 q 4 (m d11 r0),
 q 0 (o d26 (.nilc r11)),
 q 0 (o d27 (.fad 7 r26)),
 w (o .no (.st1 r27 r14)),
 q 5 (m d12 r0),
 q 0 (o d28 (.nilc r12)),
 q 0 (o d29 (.fad 9 r28)),
 w (o .no (.st1 r29 r15)),
 q 6 (m d13 r0),
 q 0 (o d30 (.nilc r13)),
 q 0 (o d31 (.fad 8 r30)),
 w (o .no (.st1 r31 r25))]) (.shal k43_1 (.shal k43_2 (.shal k43_3 (.shal k43_4 (.seq (.shal k43_5 (.block 0 (.loop (.shal k43_6 .skip)))) (.shal k43_7 (.shal k43_8 (.shal k43_9 .skip))))))))))
def z43 : List Rs := []
def f43 : AF := .mk x43 z43
def k44_3 : KF := fun c i x r h => (fun (x33 x34 x35 x36 x37 x38 x39 x40 : AV) =>
 ifR x40 (.ex 1 (T40 x33 x34 x35 x36 x37 x38 x39) h) (.nm (T40 x33 x34 x35 x36 x37 x38 x39) h)) (y0 r) (y1 r) (y2 r) (y6 r) (y11 r) (y12 r) (y13 r) (y27 r)
def k44_4 : KF := fun c i x r h => (fun (x41 x42 x43 x44 : AV) =>
 tR (u_not x43 h) fun v45 h46 =>
 ifR v45 (.ret T26 h46) (x (T41 x41 x42 x43 x44) h46)) (y0 r) (y1 r) (y2 r) (y6 r)
def k44_2 : KF := fun c i x r h => (fun (x19 x20 x21 x22 x23 x24 : AV) =>
 tR (ix 6 x22 x24 h) fun v25 h26 =>
 tR (o_ldn 6 (.c v25) .nil h26) fun v27 h28 =>
 tR (o_alloc 127 6 (.k1 (.mk (pi 0) (pi 0) (pi 0) (.bool false) (.str []) (pi 0) .undef .undef .undef .undef .undef .undef .undef .undef .undef .undef)) .nil h28) fun v29 h30 =>
 tR (o_stn 6 (.c v29) (.c v27) .nil h30) fun v31 h32 =>
 x (T39 x19 x20 x21 x24 v29 x22 x23 x24) h32) (y0 r) (y1 r) (y2 r) (y11 r) (y12 r) (y13 r)
def k44_5 : KF := fun c i x r h => (fun (x47 x48 x49 x50 x51 x52 : AV) =>
 tR (b_add x52 (pi 1) h) fun v53 h54 =>
 .nm (T37 x47 x48 x49 x50 x51 v53) h54) (y0 r) (y1 r) (y2 r) (y11 r) (y12 r) (y13 r)
def k44_1 : KF := fun c i x r h => (fun (x11 x12 x13 x14 x15 x16 : AV) =>
 tR (b_lt x16 x15 h) fun v17 h18 =>
 ifR v17 (x (T37 x11 x12 x13 x14 x15 x16) h18) (.ex 0 (T38 x11 x12 x13) h18)) (y0 r) (y1 r) (y2 r) (y11 r) (y12 r) (y13 r)
def k44_0 : KF := fun c i x r h => (fun (x0 x1 x2 : AV) =>
 tR (nic x0 h) fun v3 h4 =>
 tR (fa 17 v3 h4) fun v5 h6 =>
 tR (ld v5 h6) fun v7 h8 =>
 tR (len v7 h8) fun v9 h10 =>
 x (T37 x0 x1 x2 v7 v9 (pi 0)) h10) (y0 r) (y1 r) (y2 r)
def k44_7 : KF := fun c i x r h => (fun (x72 : AV) =>
 tR (nic x72 h) fun v73 h74 =>
 tR (fa 19 v73 h74) fun v75 h76 =>
 tR (ld v75 h76) fun v77 h78 =>
 tR (b_eq v77 (pi 2) h78) fun v79 h80 =>
 ifR v79 (tT (c 66 [x72] h80) fun v81 h82 =>
 .nm T26 h82) (tR (b_eq v77 (pi 0) h80) fun v83 h84 =>
 ifR v83 (tR (nic x72 h84) fun v85 h86 =>
 tR (fa 3 v85 h86) fun v87 h88 =>
 tR (ld v87 h88) fun v89 h90 =>
 tR (nic x72 h90) fun v91 h92 =>
 tR (fa 23 v91 h92) fun v93 h94 =>
 tR (sto v93 v89 h94) fun v95 h96 =>
 tT (c 67 [x72] h96) fun v97 h98 =>
 .nm T26 h98) (.nm T26 h84))) (y0 r)
def k44_6 : KF := fun c i x r h => (fun (x55 x56 x57 : AV) =>
 tR (nic x55 h) fun v58 h59 =>
 tR (fa 18 v58 h59) fun v60 h61 =>
 tR (ld v60 h61) fun v62 h63 =>
 tR (b_add v62 (pi 1) h63) fun v64 h65 =>
 tR (nic x55 h65) fun v66 h67 =>
 tR (fa 18 v66 h67) fun v68 h69 =>
 tR (sto v68 v64 h69) fun v70 h71 =>
 x (T38 x55 x56 x57) h71) (y0 r) (y1 r) (y2 r)
def x44 : AC := (.seq (.shal k44_0 (.block 0 (.loop (.shal k44_1 (.seq (.block 1 (.shal k44_2 (.seq (.seq (.ops [o d18 (.fad 4 r7),
 o d19 (.ld1 r18),
 m d20 r1,
 o d21 (.bin .sne r19 r20),
 m d22 r21,
 .g .h1 .h6 false d23 (.op (.fad 3 r7)),
 .g .h1 .h6 false d24 (.op (.ld1 r23)),
 .g .h1 .h6 false d25 (.op (.mv r2)),
 .g .h1 .h6 false d26 (.op (.bin .bne r24 r25)),
 o d27 (.pick r22 (.c (.bool true)) r26)]) (.shal k44_3 .skip)) (.shal k44_4 (.seq (.drw [q 0 (m d31 r0),
 q 0 (o d32 (.nilc r31)),
 q 0 (o d33 (.fad 17 r32)),
 q 0 (o d34 (.ld1 r33)),
 q 0 (m d35 r6),
 q 0 (m d36 r6),
 q 0 (o d37 (.slc 6 r34 .none (.some r35) (.some r36))),
 q 0 (m d38 r0),
 q 0 (o d39 (.nilc r38)),
 q 0 (o d40 (.fad 17 r39)),
 q 0 (o d41 (.ld1 r40)),
 q 0 (m d42 r6),
 q 0 (o d43 (.bin .add r42 (.c (pi 1)))),
 q 0 (o d44 (.slc 6 r41 (.some r43) .none .none)),
 w (o d45 (.app 127 6 r37 r44)),
 q 1 (m d30 r0),
 q 0 (o d46 (.nilc r30)),
 q 0 (o d47 (.fad 17 r46)),
 w (o .no (.st1 r47 r45))]) (.exit 0)))))) (.shal k44_5 .skip)))))) (.shal k44_6 (.seq (.drw [q 0 (m d61 r0),
 q 0 (o d62 (.nilc r61)),
 q 0 (o d63 (.fad 1 r62)),
 q 0 (o d64 (.ld1 r63)),
 q 0 (m d65 r0),
 q 0 (o d66 (.nilc r65)),
 q 0 (o d67 (.fad 6 r66)),
 q 0 (o d68 (.ld1 r67)),
 q 0 (m d69 r0),
 q 0 (o d70 (.nilc r69)),
 q 0 (o d71 (.fad 18 r70)),
 q 0 (o d72 (.ld1 r71)),
 q 0 (o d73 (.build [(pi 0),(pi 0),(pi 0)] [.mk 0 1 r64,.mk 1 1 r68,.mk 2 1 r72])),
 q 0 (m d74 r2),
 q 0 (m d75 r1),
 q 0 (o d76 (.build [(pi 0),(pi 0),(pi 0),(.bool false),(.str []),(pi 0)] [.mk 0 3 r73,.mk 3 1 r74,.mk 4 1 r75,.mk 5 1 (.c (ni 0))])),
 w (o d77 (.bslice 127 6 1 [(pi 0),(pi 0),(pi 0),(.bool false),(.str []),(pi 0)] [.mk 0 6 r76])),
 q 1 (m d57 r0),
 q 1 (o d58 (.nilc r57)),
 q 1 (o d59 (.fad 17 r58)),
 q 1 (o d60 (.ld1 r59)),
 w (o d78 (.app 127 6 r60 r77)),
 q 2 (m d56 r0),
 q 0 (o d79 (.nilc r56)),
 q 0 (o d80 (.fad 17 r79)),
 w (o .no (.st1 r80 r78))]) (.shal k44_7 .skip))))
def z44 : List Rs := []
def f44 : AF := .mk x44 z44
def k45_1 : KF := fun c i x r h => (fun (x18 x19 : AV) =>
 tR (nic x18 h) fun v20 h21 =>
 tR (fa 0 v20 h21) fun v22 h23 =>
 tR (ld v22 h23) fun v24 h25 =>
 tR (len v24 h25) fun v26 h27 =>
 tR (b_rem x19 v26 h27) fun v28 h29 =>
 .ret (T12 v28) h29) (y0 r) (y1 r)
def k45_0 : KF := fun c i x r h => (fun (x0 x1 : AV) =>
 tR (nic x0 h) fun v2 h3 =>
 tR (fa 0 v2 h3) fun v4 h5 =>
 tR (ld v4 h5) fun v6 h7 =>
 tR (len v6 h7) fun v8 h9 =>
 tR (b_eq v8 (pi 0) h9) fun v10 h11 =>
 ifR v10 (.ret (T12 (ni 0)) h11) (tR (b_lt x1 (pi 0) h11) fun v12 h13 =>
 ifR v12 (tR (b_add x1 (pi 1) h13) fun v14 h15 =>
 tR (u_neg v14 h15) fun v16 h17 =>
 x (T13 x0 v16) h17) (x (T13 x0 x1) h13))) (y0 r) (y1 r)
def x45 : AC := (.shal k45_0 (.shal k45_1 .skip))
def z45 : List Rs := [.t .h0 .h4]
def f45 : AF := .mk x45 z45
def k46_1 : KF := fun c i x r h => (fun (x11 x12 x13 x14 : AV) =>
 tQ (o_slc 3 (.c x11) .none (.some (.c x12)) .none .nil h) fun v15 =>
 tQ (o_slc 3 (.c x11) (.some (.c x13)) .none .none .nil h) fun v16 =>
 tX (RV.toT (appV 106 3 v15 v16 h)) fun v17 h18 =>
 tR (len v17 h18) fun v19 h20 =>
 tR (o_slc 3 (.c v17) (.some (.c v19)) (.some (.c x14)) .none .nil h20) fun v21 h22 =>
 tR (o_clr [(pi 0),(pi 0),.nils] (.c v21) .nil h22) fun v23 h24 =>
 .ret (T32 v17) h24) (y0 r) (y1 r) (y2 r) (y7 r)
def k46_0 : KF := fun c i x r h => (fun (x0 x1 x2 : AV) =>
 tR (len x0 h) fun v3 h4 =>
 tR (o_slc 3 (.c x0) (.some (.c x1)) (.some (.c x2)) (.some (.c v3)) .nil h4) fun v5 h6 =>
 tR (b_eq x1 x2 h6) fun v7 h8 =>
 ifR v7 (.ret (T32 x0) h8) (tR (len x0 h8) fun v9 h10 =>
 x (T42 x0 x1 x2 v9) h10)) (y0 r) (y1 r) (y2 r)
def x46 : AC := (.shal k46_0 (.shal k46_1 .skip))
def z46 : List Rs := [.t .h0 .h6]
def f46 : AF := .mk x46 z46
def k47_5 : KF := fun c i x r h => (fun (x49 x50 x51 x52 : AV) =>
 tR (fa 0 x50 h) fun v53 h54 =>
 tR (ld v53 h54) fun v55 h56 =>
 tR (o_ldn 2 (.c x52) .nil h56) fun v57 h58 =>
 tT (c 71 [x49,v55,v57,x51] h58) fun v59 h60 =>
 .nm T26 h60) (y0 r) (y3 r) (y4 r) (y6 r)
def k47_7 : KF := fun c i x r h => (fun (x68 x69 x70 x71 : AV) =>
 tR (fa 0 x69 h) fun v72 h73 =>
 tR (ld v72 h73) fun v74 h75 =>
 tR (o_ldn 2 (.c x71) .nil h75) fun v76 h77 =>
 tT (c 72 [x68,v74,v76,x70] h77) fun v78 h79 =>
 .nm T26 h79) (y0 r) (y3 r) (y4 r) (y6 r)
def k47_9 : KF := fun c i x r h => (fun (x87 x88 x89 x90 : AV) =>
 tR (fa 0 x88 h) fun v91 h92 =>
 tR (ld v91 h92) fun v93 h94 =>
 tR (o_ldn 2 (.c x90) .nil h94) fun v95 h96 =>
 tT (c 73 [x87,v93,v95,x89] h96) fun v97 h98 =>
 .nm T26 h98) (y0 r) (y3 r) (y4 r) (y6 r)
def k47_11 : KF := fun c i x r h => (fun (x106 x107 x108 : AV) =>
 tR (b_eq x108 (pi 5) h) fun v109 h110 =>
 ifR v109 (tR (o_ldn 2 (.c x107) .nil h110) fun v111 h112 =>
 tT (c 76 [x106,v111] h112) fun v113 h114 =>
 .nm T26 h114) (.nm T26 h110)) (y0 r) (y6 r) (y29 r)
def k47_10 : KF := fun c i x r h => (fun (x99 x100 x101 x102 x103 : AV) =>
 tR (b_eq x103 (pi 4) h) fun v104 h105 =>
 x (T49 x99 x100 x101 x102 x103 v104) h105) (y0 r) (y3 r) (y4 r) (y6 r) (y29 r)
def k47_8 : KF := fun c i x r h => (fun (x80 x81 x82 x83 x84 : AV) =>
 tR (b_eq x84 (pi 3) h) fun v85 h86 =>
 x (T48 x80 x81 x82 x83 x84 v85) h86) (y0 r) (y3 r) (y4 r) (y6 r) (y29 r)
def k47_6 : KF := fun c i x r h => (fun (x61 x62 x63 x64 x65 : AV) =>
 tR (b_eq x65 (pi 2) h) fun v66 h67 =>
 x (T47 x61 x62 x63 x64 x65 v66) h67) (y0 r) (y3 r) (y4 r) (y6 r) (y29 r)
def k47_4 : KF := fun c i x r h => (fun (x42 x43 x44 x45 x46 : AV) =>
 tR (b_eq x46 (pi 1) h) fun v47 h48 =>
 x (T46 x42 x43 x44 x45 x46 v47) h48) (y0 r) (y3 r) (y4 r) (y6 r) (y29 r)
def k47_3 : KF := fun c i x r h => (fun (x37 x38 x39 x40 x41 : AV) =>
 x (T45 x37 x38 x39 x41 x40) h) (y0 r) (y3 r) (y4 r) (y5 r) (y6 r)
def k47_13 : KF := fun c i x r h => (fun (x121 x122 x123 x124 : AV) =>
 tR (b_lt x124 x123 h) fun v125 h126 =>
 ifR v125 (tR (ix 4 x122 x124 h126) fun v127 h128 =>
 tR (o_ldn 4 (.c v127) .nil h128) fun v129 h130 =>
 tR (o_alloc 138 4 (.k1 (.mk (pi 0) (pi 0) (pi 0) (.str []) .undef .undef .undef .undef .undef .undef .undef .undef .undef .undef .undef .undef)) .nil h130) fun v131 h132 =>
 tR (o_stn 4 (.c v131) (.c v129) .nil h132) fun v133 h134 =>
 tR (fa 0 v131 h134) fun v135 h136 =>
 tR (ld v135 h136) fun v137 h138 =>
 tR (fa 3 v131 h138) fun v139 h140 =>
 tR (ld v139 h140) fun v141 h142 =>
 tT (c 78 [x121,v137,v141] h142) fun v143 h144 =>
 tR (b_add x124 (pi 1) h144) fun v145 h146 =>
 .nm (T50 x121 x122 x123 v145) h146) (.ex 2 (T50 x121 x122 x123 x124) h126)) (y0 r) (y69 r) (y70 r) (y71 r)
def k47_12 : KF := fun c i x r h => (fun (x115 x116 : AV) =>
 tT (c 77 [x116] h) fun v117 h118 =>
 tR (len v117 h118) fun v119 h120 =>
 x (T50 x115 v117 v119 (pi 0)) h120) (y0 r) (y4 r)
def k47_14 : KF := fun c i x r h => (fun (x147 x148 : AV) =>
 tT (c 81 [x148] h) fun v149 h150 =>
 tT (c 80 [x147,v149] h150) fun v151 h152 =>
 .nm T26 h152) (y0 r) (y4 r)
def k47_2 : KF := fun c i x r h => (fun (x22 x23 x24 x25 x26 : AV) =>
 tT (c 69 [x24] h) fun v27 h28 =>
 tR (o_stn 2 (.c x26) (.c v27) .nil h28) fun v29 h30 =>
 tQ (nic x22 h30) fun v31 =>
 tQ (fa 8 v31 h30) fun v32 =>
 tQ (ld v32 h30) fun v33 =>
 tQ (o_ldn 2 (.c x26) .nil h30) fun v34 =>
 tX (c 70 [v33,v34] h30) fun v35 h36 =>
 x (T44 x22 x23 x24 x25 x26) h36) (y0 r) (y3 r) (y4 r) (y5 r) (y6 r)
def k47_1 : KF := fun c i x r h => (fun (x4 x5 : AV) =>
 tR (fa 2 x5 h) fun v6 h7 =>
 tR (ld v6 h7) fun v8 h9 =>
 tT (c 63 [v8] h9) fun v10 h11 =>
 tT (c 68 [v10] h11) fun v12 h13 =>
 tR (o_alloc 129 2 (.k1 (.mk (pi 0) (pi 0) .undef .undef .undef .undef .undef .undef .undef .undef .undef .undef .undef .undef .undef .undef)) .nil h13) fun v14 h15 =>
 tR (b_eq v12 (pi 6) h15) fun v16 h17 =>
 ifR v16 (.go 0 (T43 x4 x5 v10) h17) (tR (b_eq v12 (pi 7) h17) fun v18 h19 =>
 ifR v18 (.go 1 (T43 x4 x5 v10) h19) (tR (b_eq v12 (pi 8) h19) fun v20 h21 =>
 ifR v20 (.go 2 (T43 x4 x5 v10) h21) (x (T44 x4 x5 v10 v12 v14) h21)))) (y0 r) (y3 r)
def k47_0 : KF := fun c i x r h => (fun (x0 x1 : AV) =>
 tR (o_box 106 (.c x1) .nil h) fun v2 h3 =>
 x (T8 x0 v2) h3) (y0 r) (y1 r)
def x47 : AC := (.shal k47_0 (.scope (.shal k47_1 (.shal k47_2 (.seq (.shal k47_3 (.block 1 (.shal k47_4 (.cond r30 (.shal k47_5 .skip) (.shal k47_6 (.cond r38 (.shal k47_7 .skip) (.shal k47_8 (.cond r46 (.shal k47_9 .skip) (.shal k47_10 (.cond r54 (.drw [q 0 (m d60 r4),
 w (.o d61 (.call 75 [r60])),
 q 1 (m d56 r0),
 q 1 (o d57 (.fad 0 r3)),
 q 1 (o d58 (.ld1 r57)),
 q 1 (o d59 (.ldn 2 r6)),
 w (.o d62 (.call 74 [r56,r58,r59,r61]))]) (.shal k47_11 .skip))))))))))) (.seq .ret (.seq (.label 0) (.seq (.shal k47_12 (.block 2 (.loop (.shal k47_13 .skip)))) (.seq .ret (.seq (.label 1) (.seq (.drw [q 0 (m d85 r4),
 w (.o d86 (.call 75 [r85])),
 q 1 (m d82 r0),
 q 1 (o d83 (.fad 0 r3)),
 q 1 (o d84 (.ld1 r83)),
 w (.o d87 (.call 79 [r82,r84,r86]))]) (.seq .ret (.seq (.label 2) (.shal k47_14 .skip))))))))))))))
def z47 : List Rs := []
def f47 : AF := .mk x47 z47
def k48_0 : KF := fun c i x r h => (fun (x0 x1 x2 x3 : AV) =>
 tR (nic x0 h) fun v4 h5 =>
 tR (fa 0 v4 h5) fun v6 h7 =>
 tR (ld v6 h7) fun v8 h9 =>
 tR (len v8 h9) fun v10 h11 =>
 tR (b_lt v10 (pi 4000) h11) fun v12 h13 =>
 ifR v12 (tR (nic x0 h13) fun v14 h15 =>
 tR (fa 0 v14 h15) fun v16 h17 =>
 tR (ld v16 h17) fun v18 h19 =>
 tR (o_build [(pi 0),(pi 0),.nils] [.mk 0 1 (.c x1),.mk 1 1 (.c x2),.mk 2 1 (.c x3)] .nil h19) fun v20 h21 =>
 tR (o_bslice 106 3 1 [(pi 0),(pi 0),.nils] [.mk 0 3 (.c v20)] .nil h21) fun v22 h23 =>
 tR (appV 106 3 v18 v22 h23) fun v24 h25 =>
 tR (nic x0 h25) fun v26 h27 =>
 tR (fa 0 v26 h27) fun v28 h29 =>
 tR (sto v28 v24 h29) fun v30 h31 =>
 .nm T26 h31) (.nm T26 h13)) (y0 r) (y1 r) (y2 r) (y3 r)
def x48 : AC := (.shal k48_0 .skip)
def z48 : List Rs := []
def f48 : AF := .mk x48 z48
def k49_0 : KF := fun c i x r h => (fun (x0 x1 : AV) =>
 x (T13 x0 x1) h) (y0 r) (y1 r)
def x49 : AC := (.shal k49_0 (.seq (.ops [m d5 r1,
 o d6 (.bin .ge r5 (.c (pi 0))),
 m d7 r6,
 .g .h0 .h7 true d8 (.op (.mv r1)),
 .g .h0 .h7 true d9 (.op (.mv r0)),
 .g .h0 .h7 true d10 (.op (.nilc r9)),
 .g .h0 .h7 true d11 (.op (.fad 1 r10)),
 .g .h0 .h7 true d12 (.op (.ld1 r11)),
 .g .h0 .h7 true d13 (.op (.len r12)),
 .g .h0 .h7 true d14 (.op (.bin .lt r8 r13)),
 o d15 (.pick r7 r14 (.c (.bool false))),
 m d4 r15]) .ret))
def z49 : List Rs := [.t .h0 .h4]
def f49 : AF := .mk x49 z49
def k50_1 : KF := fun c i x r h => (fun (x16 x17 x18 : AV) =>
 ifR x18 (.ret T26 h) (.nm (T35 x16 x17) h)) (y0 r) (y4 r) (y59 r)
def k50_5 : KF := fun c i x r h => (fun (x79 x80 : AV) =>
 ifR x80 (tT (c 86 [x79] h) fun v81 h82 =>
 .nm T26 h82) (tT (c 67 [x79] h) fun v83 h84 =>
 .nm T26 h84)) (y0 r) (y94 r)
def k50_4 : KF := fun c i x r h => (fun (x75 x76 : AV) =>
 tR (u_not x76 h) fun v77 h78 =>
 x (T51 x75 v77) h78) (y0 r) (y4 r)
def k50_3 : KF := fun c i x r h => (fun (x47 x48 : AV) =>
 tR (nic x47 h) fun v49 h50 =>
 tR (fa 24 v49 h50) fun v51 h52 =>
 tR (ld v51 h52) fun v53 h54 =>
 ifR v53 (tR (nic x47 h54) fun v55 h56 =>
 tR (fa 24 v55 h56) fun v57 h58 =>
 tR (sto v57 (.bool false) h58) fun v59 h60 =>
 tR (nic x47 h60) fun v61 h62 =>
 tR (fa 9 v61 h62) fun v63 h64 =>
 tR (ld v63 h64) fun v65 h66 =>
 tT (c 53 [v65] h66) fun v67 h68 =>
 tR (o_alloc 3 1 (.k1 (.mk (pi 0) .undef .undef .undef .undef .undef .undef .undef .undef .undef .undef .undef .undef .undef .undef .undef)) .nil h68) fun v69 h70 =>
 tR (sto v69 v67 h70) fun v71 h72 =>
 tT (c 83 [x47,(pi 7),(.fn 84 [v69])] h72) fun v73 h74 =>
 x (T35 x47 x48) h74) (x (T35 x47 x48) h54)) (y0 r) (y4 r)
def k50_2 : KF := fun c i x r h => (fun (x19 x20 : AV) =>
 tR (nic x19 h) fun v21 h22 =>
 tR (fa 3 v21 h22) fun v23 h24 =>
 tR (ld v23 h24) fun v25 h26 =>
 tR (nic x19 h26) fun v27 h28 =>
 tR (fa 23 v27 h28) fun v29 h30 =>
 tR (sto v29 v25 h30) fun v31 h32 =>
 tR (nic x19 h32) fun v33 h34 =>
 tR (fa 22 v33 h34) fun v35 h36 =>
 tR (ld v35 h36) fun v37 h38 =>
 tR (b_add v37 (pi 1) h38) fun v39 h40 =>
 tR (nic x19 h40) fun v41 h42 =>
 tR (fa 22 v41 h42) fun v43 h44 =>
 tR (sto v43 v39 h44) fun v45 h46 =>
 x (T35 x19 x20) h46) (y0 r) (y4 r)
def k50_0 : KF := fun c i x r h => (fun (x0 x1 : AV) =>
 tR (nic x0 h) fun v2 h3 =>
 tR (fa 3 v2 h3) fun v4 h5 =>
 tR (ld v4 h5) fun v6 h7 =>
 tR (b_add v6 x1 h7) fun v8 h9 =>
 tR (nic x0 h9) fun v10 h11 =>
 tR (fa 3 v10 h11) fun v12 h13 =>
 tR (sto v12 v8 h13) fun v14 h15 =>
 x (T1 x0) h15) (y0 r) (y1 r)
def x50 : AC := (.shal k50_0 (.seq (.ops [m d14 r0,
 o d15 (.nilc r14),
 o d16 (.fad 4 r15),
 o d17 (.ld1 r16),
 m d18 r17,
 .g .h1 .h2 true d19 (.op (.mv r0)),
 .g .h1 .h2 true d20 (.op (.nilc r19)),
 .g .h1 .h2 true d21 (.op (.fad 17 r20)),
 .g .h1 .h2 true d22 (.op (.ld1 r21)),
 .g .h1 .h2 true d23 (.op (.len r22)),
 .g .h1 .h2 true d24 (.op (.bin .gt r23 (.c (pi 0)))),
 .g .h1 .h2 true d25 (.op (.mv r24)),
 .g .h1 .h9 false d26 (.op (.mv r0)),
 .g .h1 .h9 false d27 (.call 54 [r26]),
 .g .h1 .h2 true d28 (.op (.pick r25 (.c (.bool true)) r27)),
 o d29 (.pick r18 r28 (.c (.bool false))),
 m d4 r29]) (.seq (.seq (.drw [q 0 (m d30 r0),
 q 0 (o d31 (.nilc r30)),
 q 0 (o d32 (.fad 4 r31)),
 q 0 (o d33 (.ld1 r32)),
 q 0 (o d34 (.un .not r33)),
 q 0 (m d35 r34),
 q 0 (.g .h2 .h3 false d36 (.op (.mv r4))),
 q 0 (.g .h2 .h3 false d37 (.op (.un .not r36))),
 q 0 (.g .h2 .h3 false d38 (.op (.mv r37))),
 q 0 (.g .h2 .h6 true d39 (.op (.mv r0))),
 q 0 (.g .h2 .h6 true d40 (.op (.nilc r39))),
 q 0 (.g .h2 .h6 true d41 (.op (.fad 24 r40))),
 q 0 (.g .h2 .h6 true d42 (.op (.ld1 r41))),
 q 0 (.g .h2 .h6 true d43 (.op (.un .not r42))),
 q 0 (.g .h2 .h3 false d44 (.op (.pick r38 r43 (.c (.bool false))))),
 q 0 (o d45 (.pick r35 (.c (.bool true)) r44)),
 q 0 (m d46 r45),
 q 0 (.g .h2 .he false d56 (.op (.mv r0))),
 w (.g .h2 .he false d57 (.call 82 [r56])),
 q 1 (.g .h2 .he false d47 (.op (.mv r0))),
 q 1 (.g .h2 .he false d48 (.op (.nilc r47))),
 q 1 (.g .h2 .he false d49 (.op (.fad 3 r48))),
 q 1 (.g .h2 .he false d50 (.op (.ld1 r49))),
 q 1 (.g .h2 .he false d51 (.op (.mv r0))),
 q 1 (.g .h2 .he false d52 (.op (.nilc r51))),
 q 1 (.g .h2 .he false d53 (.op (.fad 23 r52))),
 q 1 (.g .h2 .he false d54 (.op (.ld1 r53))),
 q 1 (.g .h2 .he false d55 (.op (.bin .sub r50 r54))),
 q 0 (.g .h2 .he false d58 (.op (.bin .lt r55 r57))),
 q 0 (o d59 (.pick r46 (.c (.bool true)) r58))]) (.shal k50_1 .skip)) (.shal k50_2 (.shal k50_3 (.block 0 (.shal k50_4 (.cond r91 .skip (.seq (.ops [m d95 r0,
 o d96 (.nilc r95),
 o d97 (.fad 19 r96),
 o d98 (.ld1 r97),
 o d99 (.bin .eq r98 (.c (pi 2))),
 m d100 r99,
 .g .h6 .h4 true d101 (.op (.mv r0)),
 .g .h6 .h4 true d102 (.op (.nilc r101)),
 .g .h6 .h4 true d103 (.op (.fad 22 r102)),
 .g .h6 .h4 true d104 (.op (.ld1 r103)),
 .g .h6 .h4 true d105 (.op (.bin .rem r104 (.c (pi 3)))),
 .g .h6 .h4 true d106 (.op (.bin .ne r105 (.c (pi 0)))),
 o d107 (.pick r100 r106 (.c (.bool false))),
 m d94 r107]) (.shal k50_5 .skip))))))))))
def z50 : List Rs := []
def f50 : AF := .mk x50 z50
def k51_1 : KF := fun c i x r h => (fun (x24 : AV) =>
 tR (nic x24 h) fun v25 h26 =>
 tR (fa 0 v25 h26) fun v27 h28 =>
 tR (ld v27 h28) fun v29 h30 =>
 tR (len v29 h30) fun v31 h32 =>
 tR (nic x24 h32) fun v33 h34 =>
 tR (fa 1 v33 h34) fun v35 h36 =>
 tR (sto v35 v31 h36) fun v37 h38 =>
 .nm T26 h38) (y0 r)
def k51_0 : KF := fun c i x r h => (fun (x0 x1 : AV) =>
 tQ (nic x0 h) fun v2 =>
 tQ (fa 0 v2 h) fun v3 =>
 tQ (ld v3 h) fun v4 =>
 tQ (nic x0 h) fun v5 =>
 tQ (fa 1 v5 h) fun v6 =>
 tQ (ld v6 h) fun v7 =>
 tQ (maxV false [x1,(pi 0)] h) fun v8 =>
 tQ (nic x0 h) fun v9 =>
 tQ (fa 0 v9 h) fun v10 =>
 tQ (ld v10 h) fun v11 =>
 tQ (len v11 h) fun v12 =>
 tQ (nic x0 h) fun v13 =>
 tQ (fa 1 v13 h) fun v14 =>
 tQ (ld v14 h) fun v15 =>
 tQ (b_sub v12 v15 h) fun v16 =>
 tQ (maxV true [v8,v16] h) fun v17 =>
 tQ (b_add v7 v17 h) fun v18 =>
 tQ (o_slc 1 (.c v4) .none (.some (.c v18)) .none .nil h) fun v19 =>
 tQ (nic x0 h) fun v20 =>
 tQ (fa 0 v20 h) fun v21 =>
 tX (RV.toT (sto v21 v19 h)) fun v22 h23 =>
 x (T1 x0) h23) (y0 r) (y1 r)
def x51 : AC := (.shal k51_0 (.shal k51_1 .skip))
def z51 : List Rs := []
def f51 : AF := .mk x51 z51
def k52_0 : KF := fun c i x r h => (fun (x0 x1 x2 x3 : AV) =>
 ifR x3 (.ret T26 h) (.nm (T38 x0 x1 x2) h)) (y0 r) (y1 r) (y2 r) (y25 r)
def k52_3 : KF := fun c i x r h => (fun (x34 x35 x36 x37 x38 : AV) =>
 ifR x38 (tR (o_ent (.c x37) .nil h) fun v39 h40 =>
 tR (o_ext 1 (.c v39) .nil h40) fun v41 h42 =>
 tR (o_alloc 146 2 (.k1 (.mk (pi 0) (pi 0) .undef .undef .undef .undef .undef .undef .undef .undef .undef .undef .undef .undef .undef .undef)) .nil h42) fun v43 h44 =>
 tR (o_stn 2 (.c v43) (.c v41) .nil h44) fun v45 h46 =>
 tR (fa 1 v43 h46) fun v47 h48 =>
 tR (ld v47 h48) fun v49 h50 =>
 tR (b_ge v49 x35 h50) fun v51 h52 =>
 ifR v51 (tR (fa 0 x36 h52) fun v53 h54 =>
 tR (ld v53 h54) fun v55 h56 =>
 tR (fa 0 v43 h56) fun v57 h58 =>
 tR (ld v57 h58) fun v59 h60 =>
 tR (maxV true [v55,v59] h60) fun v61 h62 =>
 tR (fa 0 x36 h62) fun v63 h64 =>
 tR (sto v63 v61 h64) fun v65 h66 =>
 .nm (T52 x34 x35 x36 x37) h66) (.nm (T52 x34 x35 x36 x37) h52)) (.ex 0 (T52 x34 x35 x36 x37) h)) (y0 r) (y1 r) (y6 r) (y39 r) (y41 r)
def k52_2 : KF := fun c i x r h => (fun (x23 x24 x25 : AV) =>
 tR (nic x23 h) fun v26 h27 =>
 tR (fa 11 v26 h27) fun v28 h29 =>
 tR (ld v28 h29) fun v30 h31 =>
 tR (o_rngm (.c v30) .nil h31) fun v32 h33 =>
 x (T52 x23 x24 x25 v32) h33) (y0 r) (y1 r) (y6 r)
def k52_7 : KF := fun c i x r h => (fun (x101 x102 x103 x104 x105 x106 x107 : AV) =>
 ifR x107 (tR (fa 2 x103 h) fun v108 h109 =>
 tR (ld v108 h109) fun v110 h111 =>
 tR (o_ldn 3 (.c x104) .nil h111) fun v112 h113 =>
 tR (fa 1 x105 h113) fun v114 h115 =>
 tR (ld v114 h115) fun v116 h117 =>
 tR (mup (.agg [.i,.i,.i]) v110 v112 v116 h117) fun v118 h119 =>
 .nm (T53 x101 x102 x103 x106) h119) (.nm (T53 x101 x102 x103 x106) h)) (y0 r) (y1 r) (y6 r) (y9 r) (y10 r) (y58 r) (y72 r)
def k52_6 : KF := fun c i x r h => (fun (x83 x84 x85 x86 : AV) =>
 tR (o_ent (.c x86) .nil h) fun v87 h88 =>
 tR (o_ext 0 (.c v87) .nil h88) fun v89 h90 =>
 tR (o_ext 1 (.c v87) .nil h90) fun v91 h92 =>
 tR (o_alloc 125 3 (.k1 (.mk (pi 0) (pi 0) (pi 0) .undef .undef .undef .undef .undef .undef .undef .undef .undef .undef .undef .undef .undef)) .nil h92) fun v93 h94 =>
 tR (o_alloc 146 2 (.k1 (.mk (pi 0) (pi 0) .undef .undef .undef .undef .undef .undef .undef .undef .undef .undef .undef .undef .undef .undef)) .nil h94) fun v95 h96 =>
 tR (o_stn 3 (.c v93) (.c v89) .nil h96) fun v97 h98 =>
 tR (o_stn 2 (.c v95) (.c v91) .nil h98) fun v99 h100 =>
 x (T54 x83 x84 x85 v93 v95 x86) h100) (y0 r) (y1 r) (y6 r) (y58 r)
def k52_5 : KF := fun c i x r h => (fun (x78 x79 x80 x81 x82 : AV) =>
 ifR x82 (x (T53 x78 x79 x80 x81) h) (.ex 2 (T28 x78 x80) h)) (y0 r) (y1 r) (y6 r) (y58 r) (y60 r)
def k52_4 : KF := fun c i x r h => (fun (x67 x68 x69 : AV) =>
 tR (nic x67 h) fun v70 h71 =>
 tR (fa 11 v70 h71) fun v72 h73 =>
 tR (ld v72 h73) fun v74 h75 =>
 tR (o_rngm (.c v74) .nil h75) fun v76 h77 =>
 x (T53 x67 x68 x69 v76) h77) (y0 r) (y1 r) (y6 r)
def k52_8 : KF := fun c i x r h => (fun (x120 x121 : AV) =>
 tR (o_ldn 4 (.c x121) .nil h) fun v122 h123 =>
 tT (c 88 [x120,v122] h123) fun v124 h125 =>
 tT (c 64 [x120] h125) fun v126 h127 =>
 .nm T26 h127) (y0 r) (y6 r)
def k52_1 : KF := fun c i x r h => (fun (x4 x5 x6 : AV) =>
 tR (nic x4 h) fun v7 h8 =>
 tR (fa 9 v7 h8) fun v9 h10 =>
 tR (ld v9 h10) fun v11 h12 =>
 tT (c 87 [v11] h12) fun v13 h14 =>
 tR (o_mkmap .nil h14) fun v15 h16 =>
 tR (o_build [(pi 0),(pi 0),.nilm,(.str [])] [.mk 0 1 (.c v13),.mk 1 1 (.c x5),.mk 2 1 (.c v15),.mk 3 1 (.c x6)] .nil h16) fun v17 h18 =>
 tR (o_alloc 97 4 (.k1 (.mk (pi 0) (pi 0) .nilm (.str []) .undef .undef .undef .undef .undef .undef .undef .undef .undef .undef .undef .undef)) .nil h18) fun v19 h20 =>
 tR (o_stn 4 (.c v19) (.c v17) .nil h20) fun v21 h22 =>
 x (T14 x4 x5 v19) h22) (y0 r) (y1 r) (y2 r)
def x52 : AC := (.seq (.seq (.ops [m d11 r1,
 m d12 r0,
 o d13 (.nilc r12),
 o d14 (.fad 13 r13),
 o d15 (.fad 1 r14),
 o d16 (.ld1 r15),
 o d17 (.bin .le r11 r16),
 m d18 r17,
 .g .h1 .h2 false d19 (.op (.mv r1)),
 .g .h1 .h2 false d20 (.op (.mv r0)),
 .g .h1 .h2 false d21 (.op (.nilc r20)),
 .g .h1 .h2 false d22 (.op (.fad 12 r21)),
 .g .h1 .h2 false d23 (.op (.ld1 r22)),
 .g .h1 .h2 false d24 (.op (.bin .gt r19 r23)),
 o d25 (.pick r18 (.c (.bool true)) r24)]) (.shal k52_0 .skip)) (.shal k52_1 (.seq (.shal k52_2 (.join (.block 0 (.loop (.seq (.ops [.o d40 (.nxt false r39),
 o d41 (.ext 0 r40)]) (.shal k52_3 .skip)))))) (.seq (.shal k52_4 (.join (.block 2 (.loop (.seq (.ops [.o d59 (.nxt false r58),
 o d60 (.ext 0 r59)]) (.shal k52_5 (.block 3 (.shal k52_6 (.seq (.ops [o d64 (.fad 1 r10),
 o d65 (.ld1 r64),
 o d66 (.bin .ge r65 (.c (pi 0))),
 m d67 r66,
 .g .h4 .h3 true d68 (.op (.fad 1 r10)),
 .g .h4 .h3 true d69 (.op (.ld1 r68)),
 .g .h4 .h3 true d70 (.op (.mv r1)),
 .g .h4 .h3 true d71 (.op (.bin .lt r69 r70)),
 o d72 (.pick r67 r71 (.c (.bool false)))]) (.shal k52_7 .skip)))))))))) (.shal k52_8 .skip)))))
def z52 : List Rs := []
def f52 : AF := .mk x52 z52
def k53_1 : KF := fun c i x r h => (fun (x7 x8 : AV) =>
 tR (nic x7 h) fun v9 h10 =>
 tR (fa 0 v9 h10) fun v11 h12 =>
 tR (ld v11 h12) fun v13 h14 =>
 tR (lkp (.one .i) (.str []) true v13 x8 h14) fun v15 h16 =>
 tR (o_ext 0 (.c v15) .nil h16) fun v17 h18 =>
 tR (o_ext 1 (.c v15) .nil h18) fun v19 h20 =>
 tR (u_not v19 h20) fun v21 h22 =>
 ifR v21 (.ret (T20 x8) h22) (tR (b_add x8 (pi 1) h22) fun v23 h24 =>
 .nm (T8 x7 v23) h24)) (y0 r) (y3 r)
def k53_0 : KF := fun c i x r h => (fun (x0 : AV) =>
 tR (nic x0 h) fun v1 h2 =>
 tR (fa 1 v1 h2) fun v3 h4 =>
 tR (ld v3 h4) fun v5 h6 =>
 x (T8 x0 v5) h6) (y0 r)
def x53 : AC := (.shal k53_0 (.block 0 (.loop (.shal k53_1 .skip))))
def z53 : List Rs := [.t .h0 .h2]
def f53 : AF := .mk x53 z53
def k54_2 : KF := fun c i x r h => (fun (x26 x27 x28 x29 : AV) =>
 tR (b_add x29 (pi 1) h) fun v30 h31 =>
 .nm (T55 x26 x27 x28 v30) h31) (y0 r) (y16 r) (y17 r) (y18 r)
def k54_1 : KF := fun c i x r h => (fun (x1 x2 x3 x4 : AV) =>
 tR (b_lt x4 x3 h) fun v5 h6 =>
 ifR v5 (tR (ix 4 x2 x4 h6) fun v7 h8 =>
 tR (o_ldn 4 (.c v7) .nil h8) fun v9 h10 =>
 tR (o_alloc 138 4 (.k1 (.mk (pi 0) (pi 0) (pi 0) (.str []) .undef .undef .undef .undef .undef .undef .undef .undef .undef .undef .undef .undef)) .nil h10) fun v11 h12 =>
 tR (o_stn 4 (.c v11) (.c v9) .nil h12) fun v13 h14 =>
 tQ (nic x1 h14) fun v15 =>
 tQ (fa 9 v15 h14) fun v16 =>
 tQ (ld v16 h14) fun v17 =>
 tQ (fa 0 v11 h14) fun v18 =>
 tQ (ld v18 h14) fun v19 =>
 tX (c 90 [v17,v19] h14) fun v20 h21 =>
 tQ (o_ext 0 (.c v20) .nil h21) fun v22 =>
 tQ (o_ext 1 (.c v20) .nil h21) fun v23 =>
 tR (u_not v23 h21) fun v24 h25 =>
 ifR v24 (.ret (T20 (.bool true)) h25) (x (T55 x1 x2 x3 x4) h25)) (.ex 0 (T1 x1) h6)) (y0 r) (y16 r) (y17 r) (y18 r)
def k54_0 : KF := fun c i x r h => (fun (x0 : AV) =>
 x (T1 x0) h) (y0 r)
def x54 : AC := (.shal k54_0 (.seq (.seq (.drw [q 0 (m d11 r0),
 q 0 (o d12 (.nilc r11)),
 q 0 (o d13 (.fad 9 r12)),
 q 0 (o d14 (.ld1 r13)),
 w (.o d15 (.call 53 [r14])),
 q 1 (m d7 r0),
 q 1 (o d8 (.nilc r7)),
 q 1 (o d9 (.fad 7 r8)),
 q 1 (o d10 (.ld1 r9)),
 w (.o d16 (.call 89 [r10,r15])),
 q 0 (o d17 (.len r16)),
 q 2 (m d18 (.c (pi 0)))]) (.block 0 (.loop (.shal k54_1 (.shal k54_2 .skip))))) (.seq (.drw [q 0 (m d39 r0),
 q 0 (o d40 (.nilc r39)),
 q 0 (o d41 (.fad 9 r40)),
 q 0 (o d42 (.ld1 r41)),
 w (.o d43 (.call 53 [r42])),
 q 1 (m d35 r0),
 q 1 (o d36 (.nilc r35)),
 q 1 (o d37 (.fad 10 r36)),
 q 1 (o d38 (.ld1 r37)),
 q 0 (o d44 (.bin .gt r38 r43)),
 q 0 (m d2 r44)]) .ret)))
def z54 : List Rs := [.t .h0 .h2]
def f54 : AF := .mk x54 z54
def k56_0 : KF := fun c i x r h => tR (o_mkmap .nil h) fun v0 h1 =>
 tR (o_build [(pi 0),(pi 0),.nilm,(pi 0)] [.mk 2 1 (.c v0)] .nil h1) fun v2 h3 =>
 tR (o_box 155 (.c v2) .nil h3) fun v4 h5 =>
 .ret (T1 v4) h5
def x56 : AC := (.shal k56_0 .skip)
def z56 : List Rs := [.t .h0 .h0]
def f56 : AF := .mk x56 z56
def k57_0 : KF := fun c i x r h => tR (o_mkmap .nil h) fun v0 h1 =>
 tR (o_build [.nilm,(pi 0)] [.mk 0 1 (.c v0)] .nil h1) fun v2 h3 =>
 tR (o_box 149 (.c v2) .nil h3) fun v4 h5 =>
 .ret (T1 v4) h5
def x57 : AC := (.shal k57_0 .skip)
def z57 : List Rs := [.t .h0 .h0]
def f57 : AF := .mk x57 z57
def k58_0 : KF := fun c i x r h => (fun (x0 x1 : AV) =>
 tR (o_build [(pi 0),(pi 0),(pi 0),(pi 0),(pi 0),(pi 0),.nilm,.nilm,.nilm] [.mk 0 1 (.c x0),.mk 1 1 (.c x1)] .nil h) fun v2 h3 =>
 tR (o_box 158 (.c v2) .nil h3) fun v4 h5 =>
 .ret (T12 v4) h5) (y0 r) (y1 r)
def x58 : AC := (.shal k58_0 .skip)
def z58 : List Rs := [.t .h0 .h4]
def f58 : AF := .mk x58 z58
def k59_0 : KF := fun c i x r h => (fun (x0 : AV) =>
 tR (nic x0 h) fun v1 h2 =>
 tR (fa 1 v1 h2) fun v3 h4 =>
 tR (ld v3 h4) fun v5 h6 =>
 tR (len v5 h6) fun v7 h8 =>
 .ret (T20 v7) h8) (y0 r)
def x59 : AC := (.shal k59_0 .skip)
def z59 : List Rs := [.t .h0 .h2]
def f59 : AF := .mk x59 z59
def k60_3 : KF := fun c i x r h => (fun (x21 x22 x23 x24 x25 : AV) =>
 ifR x25 (.ex 0 (T57 x21 x22 x23 x24) h) (.nm (T57 x21 x22 x23 x24) h)) (y0 r) (y4 r) (y5 r) (y6 r) (y35 r)
def k60_5 : KF := fun c i x r h => (fun (x50 x51 x52 x53 : AV) =>
 tR (b_add (pi 8) x53 h) fun v54 h55 =>
 tR (b_add x52 v54 h55) fun v56 h57 =>
 .nm (T56 x50 x51 v56) h57) (y0 r) (y4 r) (y5 r) (y6 r)
def k60_4 : KF := fun c i x r h => (fun (x26 x27 x28 x29 : AV) =>
 tR (b_add x28 (pi 8) h) fun v30 h31 =>
 tR (b_add x28 (pi 8) h31) fun v32 h33 =>
 tR (b_add v32 x29 h33) fun v34 h35 =>
 tR (o_slc 1 (.c x26) (.some (.c v30)) (.some (.c v34)) .none .nil h35) fun v36 h37 =>
 tT (c 91 [v36] h37) fun v38 h39 =>
 tR (o_ext 0 (.c v38) .nil h39) fun v40 h41 =>
 tR (o_ext 1 (.c v38) .nil h41) fun v42 h43 =>
 tR (u_not v42 h43) fun v44 h45 =>
 ifR v44 (.ex 0 (T15 x27 x28) h45) (tR (o_bslice 64 1 1 [.nils] [.mk 0 1 (.c v40)] .nil h45) fun v46 h47 =>
 tR (appV 64 1 x27 v46 h47) fun v48 h49 =>
 x (T57 x26 v48 x28 x29) h49)) (y0 r) (y4 r) (y5 r) (y6 r)
def k60_2 : KF := fun c i x r h => (fun (x10 x11 x12 : AV) =>
 tR (b_add x12 (pi 8) h) fun v13 h14 =>
 tR (o_slc 1 (.c x10) (.some (.c x12)) (.some (.c v13)) .none .nil h14) fun v15 h16 =>
 tT (c 63 [v15] h16) fun v17 h18 =>
 tT (c 75 [v17] h18) fun v19 h20 =>
 x (T57 x10 x11 x12 v19) h20) (y0 r) (y4 r) (y5 r)
def k60_1 : KF := fun c i x r h => (fun (x1 x2 x3 : AV) =>
 tR (len x1 h) fun v4 h5 =>
 tR (b_sub v4 x3 h5) fun v6 h7 =>
 tR (b_ge v6 (pi 8) h7) fun v8 h9 =>
 ifR v8 (x (T56 x1 x2 x3) h9) (.ex 0 (T15 x2 x3) h9)) (y0 r) (y4 r) (y5 r)
def k60_6 : KF := fun c i x r h => (fun (x58 x59 : AV) =>
 .ret (T7 x58 x59) h) (y4 r) (y5 r)
def k60_0 : KF := fun c i x r h => (fun (x0 : AV) =>
 x (T56 x0 .nils (pi 0)) h) (y0 r)
def x60 : AC := (.shal k60_0 (.seq (.block 0 (.loop (.shal k60_1 (.block 1 (.shal k60_2 (.seq (.seq (.ops [m d21 r6,
 o d22 (.bin .lt r21 (.c (pi 0))),
 m d23 r22,
 .g .h1 .h7 false d24 (.op (.mv r6)),
 .g .h1 .h7 false d25 (.op (.bin .gt r24 (.c (pi 1048576)))),
 o d26 (.pick r23 (.c (.bool true)) r25),
 m d27 r26,
 .g .h1 .hb false d28 (.op (.mv r6)),
 .g .h1 .hb false d29 (.op (.mv r0)),
 .g .h1 .hb false d30 (.op (.len r29)),
 .g .h1 .hb false d31 (.op (.mv r5)),
 .g .h1 .hb false d32 (.op (.bin .sub r30 r31)),
 .g .h1 .hb false d33 (.op (.bin .sub r32 (.c (pi 8)))),
 .g .h1 .hb false d34 (.op (.bin .gt r28 r33)),
 o d35 (.pick r27 (.c (.bool true)) r34)]) (.shal k60_3 .skip)) (.shal k60_4 (.shal k60_5 .skip)))))))) (.shal k60_6 .skip)))
def z60 : List Rs := [.t .h0 .h2,.t .h0 .h3]
def f60 : AF := .mk x60 z60
def k61_0 : KF := fun c i x r h => (fun (x0 : AV) =>
 tR (nic x0 h) fun v1 h2 =>
 tR (fa 0 v1 h2) fun v3 h4 =>
 tR (ld v3 h4) fun v5 h6 =>
 tT (c 92 [v5] h6) fun v7 h8 =>
 .ret (T20 v7) h8) (y0 r)
def x61 : AC := (.shal k61_0 .skip)
def z61 : List Rs := [.t .h0 .h2]
def f61 : AF := .mk x61 z61
def k62_2 : KF := fun c i x r h => (fun (x10 x11 : AV) =>
 tT (c 75 [x11] h) fun v12 h13 =>
 tR (nic x10 h13) fun v14 h15 =>
 tR (fa 6 v14 h15) fun v16 h17 =>
 tR (sto v16 v12 h17) fun v18 h19 =>
 .nm T26 h19) (y0 r) (y1 r)
def k62_6 : KF := fun c i x r h => (fun (x51 x52 x53 x54 : AV) =>
 tQ (nic x51 h) fun v55 =>
 tQ (fa 7 v55 h) fun v56 =>
 tQ (ld v56 h) fun v57 =>
 tQ (o_ldn 2 (.c x52) .nil h) fun v58 =>
 tQ (o_build [(pi 0),(pi 0),(pi 0),(.str [])] [.mk 0 1 (.c x53),.mk 1 2 (.c v58),.mk 3 1 (.c x54)] .nil h) fun v59 =>
 tX (c 96 [v57,v59] h) fun v60 h61 =>
 .nm T26 h61) (y0 r) (y5 r) (y6 r) (y7 r)
def k62_5 : KF := fun c i x r h => (fun (x34 x35 x36 : AV) =>
 tT (c 69 [x35] h) fun v37 h38 =>
 tT (c 75 [x35] h38) fun v39 h40 =>
 tR (o_alloc 129 2 (.k1 (.mk (pi 0) (pi 0) .undef .undef .undef .undef .undef .undef .undef .undef .undef .undef .undef .undef .undef .undef)) .nil h40) fun v41 h42 =>
 tR (o_stn 2 (.c v41) (.c v37) .nil h42) fun v43 h44 =>
 tT (c 94 [x34,v39] h44) fun v45 h46 =>
 tR (b_eq x36 (pi 2) h46) fun v47 h48 =>
 ifR v47 (tT (c 95 [x35] h48) fun v49 h50 =>
 x (T62 x34 v41 v39 v49) h50) (x (T62 x34 v41 v39 v45) h48)) (y0 r) (y1 r) (y4 r)
def k62_8 : KF := fun c i x r h => (fun (x70 x71 x72 x73 x74 : AV) =>
 ifR x74 (tT (c 75 [x71] h) fun v75 h76 =>
 tT (c 94 [x70,v75] h76) fun v77 h78 =>
 tR (b_eq x72 (pi 4) h78) fun v79 h80 =>
 ifR v79 (tT (c 95 [x71] h80) fun v81 h82 =>
 tT (c 97 [x70,v75,v81] h82) fun v83 h84 =>
 .nm T26 h84) (tT (c 97 [x70,v75,v77] h80) fun v85 h86 =>
 .nm T26 h86)) (tR (b_eq x73 (pi 6) h) fun v87 h88 =>
 ifR v87 (tT (c 81 [x71] h88) fun v89 h90 =>
 tT (c 98 [x70,v89] h90) fun v91 h92 =>
 .nm T26 h92) (.nm T26 h88))) (y0 r) (y1 r) (y4 r) (y12 r) (y52 r)
def k62_7 : KF := fun c i x r h => (fun (x62 x63 x64 x65 : AV) =>
 tR (b_eq x65 (pi 4) h) fun v66 h67 =>
 ifR v66 (x (T63 x62 x63 x64 x65 v66) h67) (tR (b_eq x65 (pi 5) h67) fun v68 h69 =>
 x (T63 x62 x63 x64 x65 v68) h69)) (y0 r) (y1 r) (y4 r) (y12 r)
def k62_4 : KF := fun c i x r h => (fun (x26 x27 x28 x29 : AV) =>
 tR (b_eq x29 (pi 2) h) fun v30 h31 =>
 ifR v30 (x (T61 x26 x27 x28 x29 v30) h31) (tR (b_eq x29 (pi 3) h31) fun v32 h33 =>
 x (T61 x26 x27 x28 x29 v32) h33)) (y0 r) (y1 r) (y4 r) (y12 r)
def k62_3 : KF := fun c i x r h => (fun (x20 x21 x22 x23 : AV) =>
 tR (b_eq x23 (pi 1) h) fun v24 h25 =>
 x (T60 x20 x21 x22 x23 v24) h25) (y0 r) (y1 r) (y4 r) (y12 r)
def k62_1 : KF := fun c i x r h => (fun (x4 x5 x6 x7 : AV) =>
 tR (b_eq x7 (pi 0) h) fun v8 h9 =>
 x (T59 x4 x5 x6 x7 v8) h9) (y0 r) (y1 r) (y4 r) (y12 r)
def k62_0 : KF := fun c i x r h => (fun (x0 x1 : AV) =>
 tT (c 68 [x1] h) fun v2 h3 =>
 x (T58 x0 x1 v2 v2) h3) (y0 r) (y1 r)
def x62 : AC := (.shal k62_0 (.block 0 (.shal k62_1 (.cond r13 (.shal k62_2 .skip) (.shal k62_3 (.cond r20 (.drw [q 0 (m d26 r1),
 w (.o d27 (.call 69 [r26])),
 q 1 (m d22 r0),
 q 1 (o d23 (.nilc r22)),
 q 1 (o d24 (.fad 7 r23)),
 q 1 (o d25 (.ld1 r24)),
 w (.o d28 (.call 93 [r25,r27,(.c (pi 1048576))]))]) (.shal k62_4 (.cond r29 (.shal k62_5 (.shal k62_6 .skip)) (.shal k62_7 (.shal k62_8 .skip))))))))))
def z62 : List Rs := []
def f62 : AF := .mk x62 z62
def k63_0 : KF := fun c i x r h => (fun (x0 : AV) =>
 tT (c 92 [x0] h) fun v1 h2 =>
 tR (o_build [.nils,(pi 0),(pi 0),(pi 0)] [.mk 0 1 (.c v1)] .nil h2) fun v3 h4 =>
 tR (o_box 169 (.c v3) .nil h4) fun v5 h6 =>
 .ret (T20 v5) h6) (y0 r)
def x63 : AC := (.shal k63_0 .skip)
def z63 : List Rs := [.t .h0 .h2]
def f63 : AF := .mk x63 z63
def k64_1 : KF := fun c i x r h => (fun (x21 x22 x23 x24 x25 : AV) =>
 tR (b_lt x25 x24 h) fun v26 h27 =>
 ifR v26 (tR (ix 4 x23 x25 h27) fun v28 h29 =>
 tR (o_ldn 4 (.c v28) .nil h29) fun v30 h31 =>
 tR (o_alloc 138 4 (.k1 (.mk (pi 0) (pi 0) (pi 0) (.str []) .undef .undef .undef .undef .undef .undef .undef .undef .undef .undef .undef .undef)) .nil h31) fun v32 h33 =>
 tR (o_stn 4 (.c v32) (.c v30) .nil h33) fun v34 h35 =>
 tT (c 99 [(pi 2),(.fn 103 [v32])] h35) fun v36 h37 =>
 tR (appV 5 1 x22 v36 h37) fun v38 h39 =>
 tR (b_add x25 (pi 1) h39) fun v40 h41 =>
 .nm (T64 x21 v38 x23 x24 v40) h41) (.ex 0 (T64 x21 x22 x23 x24 x25) h27)) (y1 r) (y2 r) (y29 r) (y30 r) (y31 r)
def k64_5 : KF := fun c i x r h => (fun (x68 x69 x70 x71 x72 x73 x74 x75 : AV) =>
 ifR x75 (.nm (T66 x68 x69 x70 (pi 5) x72 x73 x74) h) (.nm (T66 x68 x69 x70 x71 x72 x73 x74) h)) (y1 r) (y2 r) (y6 r) (y7 r) (y50 r) (y51 r) (y52 r) (y68 r)
def k64_6 : KF := fun c i x r h => (fun (x76 x77 x78 x79 x80 x81 x82 : AV) =>
 tR (ld x76 h) fun v83 h84 =>
 tR (o_ldn 4 (.c x78) .nil h84) fun v85 h86 =>
 tT (c 110 [v83,x79,v85] h86) fun v87 h88 =>
 tR (appV 5 1 x77 v87 h88) fun v89 h90 =>
 .nm (T65 x76 v89 x80 x81 x82) h90) (y1 r) (y2 r) (y6 r) (y7 r) (y50 r) (y51 r) (y52 r)
def k64_4 : KF := fun c i x r h => (fun (x55 x56 x57 x58 x59 : AV) =>
 tR (ix 4 x57 x59 h) fun v60 h61 =>
 tR (o_ldn 4 (.c v60) .nil h61) fun v62 h63 =>
 tR (o_alloc 138 4 (.k1 (.mk (pi 0) (pi 0) (pi 0) (.str []) .undef .undef .undef .undef .undef .undef .undef .undef .undef .undef .undef .undef)) .nil h63) fun v64 h65 =>
 tR (o_stn 4 (.c v64) (.c v62) .nil h65) fun v66 h67 =>
 x (T66 x55 x56 v64 (pi 4) x57 x58 x59) h67) (y1 r) (y2 r) (y50 r) (y51 r) (y52 r)
def k64_7 : KF := fun c i x r h => (fun (x91 x92 x93 x94 x95 : AV) =>
 tR (b_add x95 (pi 1) h) fun v96 h97 =>
 .nm (T65 x91 x92 x93 x94 v96) h97) (y1 r) (y2 r) (y50 r) (y51 r) (y52 r)
def k64_3 : KF := fun c i x r h => (fun (x48 x49 x50 x51 x52 : AV) =>
 tR (b_lt x52 x51 h) fun v53 h54 =>
 ifR v53 (x (T65 x48 x49 x50 x51 x52) h54) (.ex 2 (T16 x48 x49) h54)) (y1 r) (y2 r) (y50 r) (y51 r) (y52 r)
def k64_8 : KF := fun c i x r h => (fun (x98 x99 : AV) =>
 tR (ld x98 h) fun v100 h101 =>
 tR (nic v100 h101) fun v102 h103 =>
 tR (fa 2 v102 h103) fun v104 h105 =>
 tR (ld v104 h105) fun v106 h107 =>
 tT (c 111 [v106,x99] h107) fun v108 h109 =>
 tR (b_eq v108 (pi 0) h109) fun v110 h111 =>
 ifR v110 (tR (ld x98 h111) fun v112 h113 =>
 tR (len x99 h113) fun v114 h115 =>
 tR (nic v112 h115) fun v116 h117 =>
 tR (fa 5 v116 h117) fun v118 h119 =>
 tR (sto v118 v114 h119) fun v120 h121 =>
 .nm T26 h121) (.nm T26 h111)) (y1 r) (y2 r)
def k64_2 : KF := fun c i x r h => (fun (x42 x43 : AV) =>
 tT (c 99 [(pi 1),(.fn 106 [x42])] h) fun v44 h45 =>
 tR (appV 5 1 x43 v44 h45) fun v46 h47 =>
 x (T16 x42 v46) h47) (y1 r) (y2 r)
def k64_0 : KF := fun c i x r h => (fun (x0 : AV) =>
 tR (o_box 88 (.c x0) .nil h) fun v1 h2 =>
 tT (c 99 [(pi 0),(.fn 100 [v1])] h2) fun v3 h4 =>
 tR (ld v1 h4) fun v5 h6 =>
 tR (nic v5 h6) fun v7 h8 =>
 tR (fa 13 v7 h8) fun v9 h10 =>
 tR (fa 0 v9 h10) fun v11 h12 =>
 tR (ld v11 h12) fun v13 h14 =>
 tR (b_gt v13 (pi 0) h14) fun v15 h16 =>
 ifR v15 (tT (c 99 [(pi 6),(.fn 101 [v1])] h16) fun v17 h18 =>
 tR (appV 5 1 v3 v17 h18) fun v19 h20 =>
 x (T16 v1 v19) h20) (x (T16 v1 v3) h16)) (y0 r)
def x64 : AC := (.shal k64_0 (.seq (.seq (.drw [q 0 (o d20 (.ld1 r1)),
 q 0 (o d21 (.nilc r20)),
 q 0 (o d22 (.fad 7 r21)),
 q 0 (o d23 (.ld1 r22)),
 q 0 (o d24 (.ld1 r1)),
 q 0 (o d25 (.nilc r24)),
 q 0 (o d26 (.fad 13 r25)),
 q 0 (o d27 (.fad 0 r26)),
 q 0 (o d28 (.ld1 r27)),
 w (.o d29 (.call 89 [r23,r28])),
 q 0 (o d30 (.len r29)),
 q 1 (m d31 (.c (pi 0)))]) (.block 0 (.loop (.shal k64_1 .skip)))) (.shal k64_2 (.seq (.seq (.drw [q 0 (o d44 (.ld1 r1)),
 q 0 (o d45 (.ld1 r1)),
 q 0 (o d46 (.nilc r45)),
 q 0 (o d47 (.fad 13 r46)),
 q 0 (o d48 (.fad 0 r47)),
 q 0 (o d49 (.ld1 r48)),
 w (.o d50 (.call 108 [r44,r49])),
 q 0 (o d51 (.len r50)),
 q 1 (m d52 (.c (pi 0)))]) (.block 2 (.loop (.shal k64_3 (.seq (.block 3 (.shal k64_4 (.seq (.seq (.drw [q 0 (o d56 (.ld1 r1)),
 q 0 (o d57 (.fad 0 r6)),
 q 0 (o d58 (.ld1 r57)),
 w (.o d59 (.call 109 [r56,r58])),
 q 0 (m d60 r59),
 q 0 (.g .h3 .hc true d61 (.op (.ld1 r1))),
 q 0 (.g .h3 .hc true d62 (.op (.fad 0 r6))),
 q 0 (.g .h3 .hc true d63 (.op (.ld1 r62))),
 w (.g .h3 .hc true d64 (.call 94 [r61,r63])),
 q 1 (.g .h3 .hc true d65 (.op (.fad 3 r6))),
 q 1 (.g .h3 .hc true d66 (.op (.ld1 r65))),
 q 0 (.g .h3 .hc true d67 (.op (.bin .seq r64 r66))),
 q 0 (o d68 (.pick r60 r67 (.c (.bool false))))]) (.shal k64_5 .skip)) (.shal k64_6 .skip)))) (.shal k64_7 .skip)))))) (.shal k64_8 .skip)))))
def z64 : List Rs := []
def f64 : AF := .mk x64 z64
def k65_2 : KF := fun c i x r h => (fun (x38 x39 x40 x41 x42 : AV) =>
 tR (b_add x42 (pi 1) h) fun v43 h44 =>
 .nm (T67 x38 x39 x40 x41 v43) h44) (y0 r) (y2 r) (y14 r) (y15 r) (y16 r)
def k65_1 : KF := fun c i x r h => (fun (x19 x20 x21 x22 x23 : AV) =>
 tR (b_lt x23 x22 h) fun v24 h25 =>
 ifR v24 (tR (ix 1 x21 x23 h25) fun v26 h27 =>
 tR (ld v26 h27) fun v28 h29 =>
 tR (b_sne v28 (.str []) h29) fun v30 h31 =>
 ifR v30 (tT (c 113 [x19,x20,v28] h31) fun v32 h33 =>
 tR (b_add x20 (pi 1) h33) fun v34 h35 =>
 x (T67 x19 v34 x21 x22 x23) h35) (tR (b_add x20 (pi 1) h31) fun v36 h37 =>
 x (T67 x19 v36 x21 x22 x23) h37)) (.ex 0 T26 h25)) (y0 r) (y2 r) (y14 r) (y15 r) (y16 r)
def k65_0 : KF := fun c i x r h => (fun (x0 : AV) =>
 tR (nic x0 h) fun v1 h2 =>
 tR (fa 9 v1 h2) fun v3 h4 =>
 tR (ld v3 h4) fun v5 h6 =>
 tT (c 87 [v5] h6) fun v7 h8 =>
 tR (nic x0 h8) fun v9 h10 =>
 tR (fa 9 v9 h10) fun v11 h12 =>
 tR (ld v11 h12) fun v13 h14 =>
 tT (c 112 [v13] h14) fun v15 h16 =>
 tR (len v15 h16) fun v17 h18 =>
 x (T67 x0 v7 v15 v17 (pi 0)) h18) (y0 r)
def x65 : AC := (.shal k65_0 (.block 0 (.loop (.shal k65_1 (.shal k65_2 .skip)))))
def z65 : List Rs := []
def f65 : AF := .mk x65 z65
def k66_1 : KF := fun c i x r h => (fun (x1 x2 x3 : AV) =>
 ifR x3 (.nm (T68 x1 x2) h) (.ex 0 (T68 x1 x2) h)) (y0 r) (y2 r) (y17 r)
def k66_3 : KF := fun c i x r h => (fun (x20 x21 x22 x23 : AV) =>
 ifR x23 (.ex 1 (T69 x20 x21 x22) h) (.nm (T69 x20 x21 x22) h)) (y0 r) (y2 r) (y3 r) (y36 r)
def k66_5 : KF := fun c i x r h => (fun (x51 : AV) =>
 .nm (T68 x51 (ni 0)) h) (y0 r)
def k66_4 : KF := fun c i x r h => (fun (x24 x25 x26 : AV) =>
 tQ (nic x24 h) fun v27 =>
 tQ (fa 17 v27 h) fun v28 =>
 tQ (ld v28 h) fun v29 =>
 tQ (nic x24 h) fun v30 =>
 tQ (fa 21 v30 h) fun v31 =>
 tQ (ld v31 h) fun v32 =>
 tQ (ix 6 v29 x25 h) fun v33 =>
 tQ (fa 5 v33 h) fun v34 =>
 tX (RV.toT (sto v34 v32 h)) fun v35 h36 =>
 tR (nic x24 h36) fun v37 h38 =>
 tR (fa 21 v37 h38) fun v39 h40 =>
 tR (ld v39 h40) fun v41 h42 =>
 tR (b_add v41 (pi 1) h42) fun v43 h44 =>
 tR (nic x24 h44) fun v45 h46 =>
 tR (fa 21 v45 h46) fun v47 h48 =>
 tR (sto v47 v43 h48) fun v49 h50 =>
 x (T8 x24 x26) h50) (y0 r) (y2 r) (y3 r)
def k66_2 : KF := fun c i x r h => (fun (x4 x5 : AV) =>
 tR (nic x4 h) fun v6 h7 =>
 tR (fa 17 v6 h7) fun v8 h9 =>
 tR (ld v8 h9) fun v10 h11 =>
 tR (ix 6 v10 x5 h11) fun v12 h13 =>
 tR (o_ldn 6 (.c v12) .nil h13) fun v14 h15 =>
 tR (o_alloc 127 6 (.k1 (.mk (pi 0) (pi 0) (pi 0) (.bool false) (.str []) (pi 0) .undef .undef .undef .undef .undef .undef .undef .undef .undef .undef)) .nil h15) fun v16 h17 =>
 tR (o_stn 6 (.c v16) (.c v14) .nil h17) fun v18 h19 =>
 x (T69 x4 x5 v16) h19) (y0 r) (y2 r)
def k66_6 : KF := fun c i x r h => (fun (x52 x53 : AV) =>
 tR (b_add x53 (pi 1) h) fun v54 h55 =>
 .nm (T68 x52 v54) h55) (y0 r) (y2 r)
def k66_0 : KF := fun c i x r h => (fun (x0 : AV) =>
 x (T68 x0 (pi 0)) h) (y0 r)
def x66 : AC := (.shal k66_0 (.block 0 (.loop (.seq (.seq (.ops [m d4 r2,
 m d5 r0,
 o d6 (.nilc r5),
 o d7 (.fad 17 r6),
 o d8 (.ld1 r7),
 o d9 (.len r8),
 o d10 (.bin .lt r4 r9),
 m d11 r10,
 .g .h0 .hb true d12 (.op (.mv r0)),
 .g .h0 .hb true d13 (.op (.nilc r12)),
 .g .h0 .hb true d14 (.op (.fad 19 r13)),
 .g .h0 .hb true d15 (.op (.ld1 r14)),
 .g .h0 .hb true d16 (.op (.bin .eq r15 (.c (pi 2)))),
 o d17 (.pick r11 r16 (.c (.bool false)))]) (.shal k66_1 .skip)) (.seq (.block 1 (.shal k66_2 (.seq (.seq (.ops [o d27 (.fad 5 r3),
 o d28 (.ld1 r27),
 o d29 (.bin .ge r28 (.c (pi 0))),
 m d30 r29,
 .g .h1 .he false d31 (.op (.mv r0)),
 .g .h1 .he false d32 (.op (.nilc r31)),
 .g .h1 .he false d33 (.op (.fad 21 r32)),
 .g .h1 .he false d34 (.op (.ld1 r33)),
 .g .h1 .he false d35 (.op (.bin .ge r34 (.c (pi 1048576)))),
 o d36 (.pick r30 (.c (.bool true)) r35)]) (.shal k66_3 .skip)) (.shal k66_4 (.seq (.drw [q 0 (o d61 (.ldn 6 r3)),
 w (.o d62 (.call 115 [r61])),
 q 1 (m d55 r0),
 q 1 (m d56 r0),
 q 1 (o d57 (.nilc r56)),
 q 1 (o d58 (.fad 21 r57)),
 q 1 (o d59 (.ld1 r58)),
 q 1 (o d60 (.bin .sub r59 (.c (pi 1)))),
 w (.o d63 (.call 114 [r55,r60,r62]))]) (.shal k66_5 .skip)))))) (.shal k66_6 .skip))))))
def z66 : List Rs := []
def f66 : AF := .mk x66 z66
def k67_1 : KF := fun c i x r h => (fun (x3 x4 x5 : AV) =>
 tR (ld x3 h) fun v6 h7 =>
 tT (c 83 [v6,(pi 1),(.fn 117 [x4,x5,x3])] h7) fun v8 h9 =>
 tR (ld x3 h9) fun v10 h11 =>
 tT (c 118 [v10] h11) fun v12 h13 =>
 .nm T26 h13) (y1 r) (y2 r) (y3 r)
def k67_0 : KF := fun c i x r h => (fun (x0 : AV) =>
 tR (o_box 88 (.c x0) .nil h) fun v1 h2 =>
 x (T17 v1) h2) (y0 r)
def x67 : AC := (.shal k67_0 (.seq (.drw [q 0 (o d8 (.ld1 r1)),
 q 0 (o d9 (.nilc r8)),
 q 0 (o d10 (.fad 7 r9)),
 q 0 (o d11 (.ld1 r10)),
 w (.o d12 (.call 107 [r11])),
 q 1 (o d4 (.ld1 r1)),
 q 1 (o d5 (.nilc r4)),
 q 1 (o d6 (.fad 8 r5)),
 q 1 (o d7 (.ld1 r6)),
 w (.o d13 (.call 70 [r7,r12]))]) (.seq (.drw [q 0 (o d14 (.ld1 r1)),
 q 0 (o d17 (.nilc r14)),
 q 0 (o d18 (.fad 19 r17)),
 w (o .no (.st1 r18 (.c (pi 1)))),
 q 1 (o d15 (.ld1 r1)),
 q 0 (o d19 (.nilc r15)),
 q 0 (o d20 (.fad 20 r19)),
 n (o d16 (.mkmap)),
 w (o .no (.st1 r20 r16))]) (.seq (.drw [q 0 (o d25 (.ld1 r1)),
 q 0 (o d26 (.nilc r25)),
 q 0 (o d27 (.fad 9 r26)),
 q 0 (o d28 (.ld1 r27)),
 w (.o d29 (.call 53 [r28])),
 q 1 (o d21 (.ld1 r1)),
 q 1 (o d22 (.nilc r21)),
 q 1 (o d23 (.fad 8 r22)),
 q 1 (o d24 (.ld1 r23)),
 w (.o d30 (.call 116 [r24,r29])),
 q 2 (o d31 (.ld1 r1)),
 q 2 (o d32 (.nilc r31)),
 q 2 (o d33 (.fad 9 r32)),
 q 2 (o d34 (.ld1 r33)),
 w (.o d35 (.call 53 [r34])),
 n (o d2 (.alloc 129 2 (.k1 (.mk (pi 0) (pi 0) .undef .undef .undef .undef .undef .undef .undef .undef .undef .undef .undef .undef .undef .undef)))),
 n (o d3 (.alloc 3 1 (.k1 (.mk (pi 0) .undef .undef .undef .undef .undef .undef .undef .undef .undef .undef .undef .undef .undef .undef .undef)))),
 w (o .no (.stn 2 r2 r30)),
 w (o .no (.st1 r3 r35))]) (.shal k67_1 .skip)))))
def z67 : List Rs := []
def f67 : AF := .mk x67 z67
def k68_0 : KF := fun c i x r h => (fun (x0 : AV) =>
 tT (c 119 [x0,(pi 1)] h) fun v1 h2 =>
 tR (cK (.toInt .i64) v1 h2) fun v3 h4 =>
 .ret (T20 v3) h4) (y0 r)
def x68 : AC := (.shal k68_0 .skip)
def z68 : List Rs := [.t .h0 .h2]
def f68 : AF := .mk x68 z68
def k69_0 : KF := fun c i x r h => (fun (x0 : AV) =>
 tR (o_alloc 129 2 (.k1 (.mk (pi 0) (pi 0) .undef .undef .undef .undef .undef .undef .undef .undef .undef .undef .undef .undef .undef .undef)) .nil h) fun v1 h2 =>
 tT (c 75 [x0] h2) fun v3 h4 =>
 tT (c 75 [x0] h4) fun v5 h6 =>
 tR (o_build [(pi 0),(pi 0)] [.mk 0 1 (.c v3),.mk 1 1 (.c v5)] .nil h6) fun v7 h8 =>
 tR (o_stn 2 (.c v1) (.c v7) .nil h8) fun v9 h10 =>
 .ret (T20 v1) h10) (y0 r)
def x69 : AC := (.shal k69_0 .skip)
def z69 : List Rs := [.agg 2 .h0 .h2]
def f69 : AF := .mk x69 z69
def k70_0 : KF := fun c i x r h => (fun (x0 x1 : AV) =>
 tR (o_box 129 (.c x1) .nil h) fun v2 h3 =>
 tQ (nic x0 h3) fun v4 =>
 tQ (fa 2 v4 h3) fun v5 =>
 tQ (ld v5 h3) fun v6 =>
 tQ (fa 0 v2 h3) fun v7 =>
 tQ (ld v7 h3) fun v8 =>
 tQ (maxV false [v6,v8] h3) fun v9 =>
 tQ (nic x0 h3) fun v10 =>
 tQ (fa 2 v10 h3) fun v11 =>
 tX (RV.toT (sto v11 v9 h3)) fun v12 h13 =>
 .nm T26 h13) (y0 r) (y1 r)
def x70 : AC := (.shal k70_0 .skip)
def z70 : List Rs := []
def f70 : AF := .mk x70 z70
def k71_1 : KF := fun c i x r h => (fun (x33 x34 x35 x36 x37 : AV) =>
 tR (ld x34 h) fun v38 h39 =>
 tR (o_ldn 2 (.c x35) .nil h39) fun v40 h41 =>
 tR (ld x36 h41) fun v42 h43 =>
 tT (c 120 [v38,v40,v42] h43) fun v44 h45 =>
 tR (o_ext 0 (.c v44) .nil h45) fun v46 h47 =>
 tR (o_ext 1 (.c v44) .nil h47) fun v48 h49 =>
 tR (o_alloc 135 1 (.k1 (.mk .nils .undef .undef .undef .undef .undef .undef .undef .undef .undef .undef .undef .undef .undef .undef .undef)) .nil h49) fun v50 h51 =>
 tR (sto v50 v46 h51) fun v52 h53 =>
 tR (u_not v48 h53) fun v54 h55 =>
 ifR v54 (tR (ld x34 h55) fun v56 h57 =>
 tT (c 121 [v56,x33] h57) fun v58 h59 =>
 .ret T26 h59) (tR (ld x34 h55) fun v60 h61 =>
 tR (o_ldn 2 (.c x35) .nil h61) fun v62 h63 =>
 tT (c 76 [v60,v62] h63) fun v64 h65 =>
 tR (ld x34 h65) fun v66 h67 =>
 tT (c 122 [v66,x33,(pi 2),(.fn 123 [x35,x37,v50,x34,x36])] h67) fun v68 h69 =>
 .nm T26 h69)) (y1 r) (y4 r) (y6 r) (y8 r) (y9 r)
def k71_0 : KF := fun c i x r h => (fun (x0 x1 x2 x3 : AV) =>
 tR (o_box 88 (.c x0) .nil h) fun v4 h5 =>
 tR (o_box 129 (.c x2) .nil h5) fun v6 h7 =>
 tT (c 75 [x3] h7) fun v8 h9 =>
 tT (c 75 [x3] h9) fun v10 h11 =>
 tR (o_alloc 3 1 (.k1 (.mk (pi 0) .undef .undef .undef .undef .undef .undef .undef .undef .undef .undef .undef .undef .undef .undef .undef)) .nil h11) fun v12 h13 =>
 tR (o_alloc 2 1 (.k1 (.mk (pi 0) .undef .undef .undef .undef .undef .undef .undef .undef .undef .undef .undef .undef .undef .undef .undef)) .nil h13) fun v14 h15 =>
 tR (sto v12 v8 h15) fun v16 h17 =>
 tR (sto v14 v10 h17) fun v18 h19 =>
 tQ (ld v12 h19) fun v20 =>
 tQ (ld v4 h19) fun v21 =>
 tQ (nic v21 h19) fun v22 =>
 tQ (fa 13 v22 h19) fun v23 =>
 tQ (fa 0 v23 h19) fun v24 =>
 tQ (ld v24 h19) fun v25 =>
 tQ (b_lt v20 v25 h19) fun v26 =>
 ifR v26 (tR (ld v4 h19) fun v27 h28 =>
 tR (ld v12 h28) fun v29 h30 =>
 tT (c 79 [v27,x1,v29] h30) fun v31 h32 =>
 .ret T26 h32) (x (T70 x1 v4 v6 v12 v14) h19)) (y0 r) (y1 r) (y2 r) (y3 r)
def x71 : AC := (.shal k71_0 (.shal k71_1 .skip))
def z71 : List Rs := []
def f71 : AF := .mk x71 z71
def k72_2 : KF := fun c i x r h => (fun (x16 x17 x18 x19 x20 x21 x22 x23 : AV) =>
 ifR x23 (.nm (T72 x16 x17 x18 x19 x20 x21 x22) h) (.ex 0 (T72 x16 x17 x18 x19 x20 x21 x22) h)) (y0 r) (y1 r) (y3 r) (y6 r) (y8 r) (y9 r) (y10 r) (y24 r)
def k72_3 : KF := fun c i x r h => (fun (x24 x25 x26 x27 x28 x29 x30 : AV) =>
 tT (c 69 [x26] h) fun v31 h32 =>
 tR (o_build [(pi 0),(pi 0),(pi 0),(.str [])] [.mk 1 2 (.c v31)] .nil h32) fun v33 h34 =>
 tR (o_alloc 138 4 (.k1 (.mk (pi 0) (pi 0) (pi 0) (.str []) .undef .undef .undef .undef .undef .undef .undef .undef .undef .undef .undef .undef)) .nil h34) fun v35 h36 =>
 tR (o_stn 4 (.c v35) (.c v33) .nil h36) fun v37 h38 =>
 tT (c 75 [x26] h38) fun v39 h40 =>
 tR (fa 0 v35 h40) fun v41 h42 =>
 tR (sto v41 v39 h42) fun v43 h44 =>
 tT (c 95 [x26] h44) fun v45 h46 =>
 tR (fa 3 v35 h46) fun v47 h48 =>
 tR (sto v47 v45 h48) fun v49 h50 =>
 tR (o_ldn 4 (.c v35) .nil h50) fun v51 h52 =>
 tR (o_bslice 138 4 1 [(pi 0),(pi 0),(pi 0),(.str [])] [.mk 0 4 (.c v51)] .nil h52) fun v53 h54 =>
 tR (appV 138 4 x29 v53 h54) fun v55 h56 =>
 tR (b_sub x30 (pi 1) h56) fun v57 h58 =>
 .nm (T72 x24 x25 x26 x27 x28 v55 v57) h58) (y0 r) (y1 r) (y3 r) (y6 r) (y8 r) (y9 r) (y10 r)
def k72_1 : KF := fun c i x r h => (fun (x8 x9 x10 x11 x12 x13 : AV) =>
 tT (c 75 [x10] h) fun v14 h15 =>
 x (T72 x8 x9 x10 x11 x12 x13 v14) h15) (y0 r) (y1 r) (y3 r) (y6 r) (y8 r) (y9 r)
def k72_5 : KF := fun c i x r h => (fun (x69 x70 x71 x72 x73 x74 x75 x76 : AV) =>
 tR (b_lt x76 x75 h) fun v77 h78 =>
 ifR v77 (tR (ix 4 x74 x76 h78) fun v79 h80 =>
 tR (o_ldn 4 (.c v79) .nil h80) fun v81 h82 =>
 tR (o_alloc 138 4 (.k1 (.mk (pi 0) (pi 0) (pi 0) (.str []) .undef .undef .undef .undef .undef .undef .undef .undef .undef .undef .undef .undef)) .nil h82) fun v83 h84 =>
 tR (o_stn 4 (.c v83) (.c v81) .nil h84) fun v85 h86 =>
 tR (fa 0 v83 h86) fun v87 h88 =>
 tR (ld v87 h88) fun v89 h90 =>
 tR (fa 3 v83 h90) fun v91 h92 =>
 tR (ld v91 h92) fun v93 h94 =>
 tT (c 78 [x69,v89,v93] h94) fun v95 h96 =>
 tR (b_add x76 (pi 1) h96) fun v97 h98 =>
 .nm (T73 x69 x70 x71 x72 x73 x74 x75 v97) h98) (.ex 2 (T73 x69 x70 x71 x72 x73 x74 x75 x76) h78)) (y0 r) (y1 r) (y6 r) (y8 r) (y9 r) (y41 r) (y42 r) (y43 r)
def k72_4 : KF := fun c i x r h => (fun (x59 x60 x61 x62 x63 x64 : AV) =>
 tT (c 77 [x61] h) fun v65 h66 =>
 tR (len v65 h66) fun v67 h68 =>
 x (T73 x59 x60 x62 x63 x64 v65 v67 (pi 0)) h68) (y0 r) (y1 r) (y3 r) (y6 r) (y8 r) (y9 r)
def k72_6 : KF := fun c i x r h => (fun (x99 x100 x101 x102 x103 : AV) =>
 ifR x103 (.ret T26 h) (.nm (T74 x99 x100 x101 x102) h)) (y0 r) (y1 r) (y6 r) (y9 r) (y75 r)
def k72_7 : KF := fun c i x r h => (fun (x104 x105 x106 x107 : AV) =>
 tQ (nic x104 h) fun v108 =>
 tQ (fa 8 v108 h) fun v109 =>
 tQ (ld v109 h) fun v110 =>
 tQ (o_ldn 2 (.c x106) .nil h) fun v111 =>
 tX (c 127 [v110,x105,v111,x107] h) fun v112 h113 =>
 tR (nic x104 h113) fun v114 h115 =>
 tR (fa 20 v114 h115) fun v116 h117 =>
 tR (ld v116 h117) fun v118 h119 =>
 tR (mup (.one .i) v118 x105 (pi 1) h119) fun v120 h121 =>
 tT (c 118 [x104] h121) fun v122 h123 =>
 .nm T26 h123) (y0 r) (y1 r) (y6 r) (y9 r)
def k72_0 : KF := fun c i x r h => (fun (x0 x1 x2 x3 : AV) =>
 tR (o_box 129 (.c x2) .nil h) fun v4 h5 =>
 tT (c 75 [x3] h5) fun v6 h7 =>
 x (T71 x0 x1 x3 v4 v6 .nils) h7) (y0 r) (y1 r) (y2 r) (y3 r)
def x72 : AC := (.shal k72_0 (.seq (.shal k72_1 (.block 0 (.loop (.seq (.seq (.ops [m d18 r10,
 o d19 (.bin .gt r18 (.c (pi 0))),
 m d20 r19,
 .g .h1 .h4 true d21 (.op (.mv r3)),
 .g .h1 .h4 true d22 (.call 125 [r21]),
 .g .h1 .h4 true d23 (.op (.un .not r22)),
 o d24 (.pick r20 r23 (.c (.bool false)))]) (.shal k72_2 .skip)) (.shal k72_3 .skip))))) (.seq (.shal k72_4 (.block 2 (.loop (.shal k72_5 .skip)))) (.seq (.seq (.drw [q 0 (m d54 r8),
 q 0 (m d55 r0),
 q 0 (o d56 (.nilc r55)),
 q 0 (o d57 (.fad 6 r56)),
 q 0 (o d58 (.ld1 r57)),
 q 0 (o d59 (.bin .ne r54 r58)),
 q 0 (m d60 r59),
 q 0 (.g .h3 .hc false d61 (.op (.mv r0))),
 q 0 (.g .h3 .hc false d62 (.op (.nilc r61))),
 q 0 (.g .h3 .hc false d63 (.op (.fad 19 r62))),
 q 0 (.g .h3 .hc false d64 (.op (.ld1 r63))),
 q 0 (.g .h3 .hc false d65 (.op (.bin .ne r64 (.c (pi 1))))),
 q 0 (o d66 (.pick r60 (.c (.bool true)) r65)),
 q 0 (m d67 r66),
 q 0 (.g .h4 .h3 false d69 (.op (.mv r0))),
 q 0 (.g .h4 .h3 false d70 (.op (.nilc r69))),
 q 0 (.g .h4 .h3 false d71 (.op (.fad 8 r70))),
 q 0 (.g .h4 .h3 false d72 (.op (.ld1 r71))),
 w (.g .h4 .h3 false d73 (.call 126 [r72])),
 q 1 (.g .h4 .h3 false d68 (.op (.ldn 2 r6))),
 q 0 (.g .h4 .h3 false d74 (.op (.bin (.ane [.i,.i]) r68 r73))),
 q 0 (o d75 (.pick r67 (.c (.bool true)) r74))]) (.shal k72_6 .skip)) (.shal k72_7 .skip)))))
def z72 : List Rs := []
def f72 : AF := .mk x72 z72
def k73_1 : KF := fun c i x r h => (fun (x24 x25 x26 x27 x28 : AV) =>
 tR (o_ldn 2 (.c x26) .nil h) fun v29 h30 =>
 tR (ld x27 h30) fun v31 h32 =>
 tT (c 128 [x24,v29,v31,x28] h32) fun v33 h34 =>
 tR (u_not v33 h34) fun v35 h36 =>
 ifR v35 (tT (c 121 [x24,x25] h36) fun v37 h38 =>
 .ret T26 h38) (tR (o_ldn 2 (.c x26) .nil h36) fun v39 h40 =>
 tT (c 76 [x24,v39] h40) fun v41 h42 =>
 tT (c 122 [x24,x25,(pi 4),(.fn 129 [x26,x27])] h42) fun v43 h44 =>
 .nm T26 h44)) (y0 r) (y1 r) (y6 r) (y8 r) (y9 r)
def k73_0 : KF := fun c i x r h => (fun (x0 x1 x2 x3 : AV) =>
 tR (o_box 129 (.c x2) .nil h) fun v4 h5 =>
 tT (c 75 [x3] h5) fun v6 h7 =>
 tR (o_alloc 3 1 (.k1 (.mk (pi 0) .undef .undef .undef .undef .undef .undef .undef .undef .undef .undef .undef .undef .undef .undef .undef)) .nil h7) fun v8 h9 =>
 tR (sto v8 v6 h9) fun v10 h11 =>
 tT (c 95 [x3] h11) fun v12 h13 =>
 tQ (ld v8 h13) fun v14 =>
 tQ (nic x0 h13) fun v15 =>
 tQ (fa 13 v15 h13) fun v16 =>
 tQ (fa 0 v16 h13) fun v17 =>
 tQ (ld v17 h13) fun v18 =>
 tQ (b_lt v14 v18 h13) fun v19 =>
 ifR v19 (tR (ld v8 h13) fun v20 h21 =>
 tT (c 79 [x0,x1,v20] h21) fun v22 h23 =>
 .ret T26 h23) (x (T75 x0 x1 v4 v8 v12) h13)) (y0 r) (y1 r) (y2 r) (y3 r)
def x73 : AC := (.shal k73_0 (.shal k73_1 .skip))
def z73 : List Rs := []
def f73 : AF := .mk x73 z73
def k74_1 : KF := fun c i x r h => (fun (x6 x7 x8 : AV) =>
 ifR x8 (.ret T26 h) (.nm (T8 x6 x7) h)) (y0 r) (y3 r) (y25 r)
def k74_2 : KF := fun c i x r h => (fun (x9 x10 : AV) =>
 tR (nic x9 h) fun v11 h12 =>
 tR (fa 8 v11 h12) fun v13 h14 =>
 tR (ld v13 h14) fun v15 h16 =>
 tT (c 131 [v15,x10,(.str [])] h16) fun v17 h18 =>
 tR (o_ext 0 (.c v17) .nil h18) fun v19 h20 =>
 tR (o_ext 1 (.c v17) .nil h20) fun v21 h22 =>
 ifR v21 (tT (c 132 [x9,x10,v19] h22) fun v23 h24 =>
 .nm T26 h24) (.nm T26 h22)) (y0 r) (y3 r)
def k74_0 : KF := fun c i x r h => (fun (x0 x1 x2 x3 : AV) =>
 tR (o_box 129 (.c x2) .nil h) fun v4 h5 =>
 x (T76 x0 x1 x3 v4) h5) (y0 r) (y1 r) (y2 r) (y3 r)
def x74 : AC := (.shal k74_0 (.seq (.seq (.drw [q 0 (m d10 r0),
 q 0 (o d11 (.nilc r10)),
 q 0 (o d12 (.fad 19 r11)),
 q 0 (o d13 (.ld1 r12)),
 q 0 (o d14 (.bin .ne r13 (.c (pi 2)))),
 q 0 (m d15 r14),
 q 0 (.g .h0 .hf false d16 (.op (.mv r0))),
 q 0 (.g .h0 .hf false d17 (.op (.nilc r16))),
 q 0 (.g .h0 .hf false d18 (.op (.fad 8 r17))),
 q 0 (.g .h0 .hf false d19 (.op (.ld1 r18))),
 q 0 (.g .h0 .hf false d20 (.op (.mv r1))),
 q 0 (.g .h0 .hf false d21 (.op (.ldn 2 r6))),
 q 0 (.g .h0 .hf false d22 (.op (.mv r3))),
 w (.g .h0 .hf false d23 (.call 130 [r19,r20,r21,r22])),
 q 0 (.g .h0 .hf false d24 (.op (.un .not r23))),
 q 0 (o d25 (.pick r15 (.c (.bool true)) r24))]) (.shal k74_1 .skip)) (.shal k74_2 .skip)))
def z74 : List Rs := []
def f74 : AF := .mk x74 z74
def k75_0 : KF := fun c i x r h => (fun (x0 : AV) =>
 tT (c 119 [x0,(pi 8)] h) fun v1 h2 =>
 tR (cK (.toInt .i64) v1 h2) fun v3 h4 =>
 .ret (T20 v3) h4) (y0 r)
def x75 : AC := (.shal k75_0 .skip)
def z75 : List Rs := [.t .h0 .h2]
def f75 : AF := .mk x75 z75
def k76_1 : KF := fun c i x r h => (fun (x4 x5 : AV) =>
 ifR x5 (tR (nic x4 h) fun v6 h7 =>
 tR (fa 19 v6 h7) fun v8 h9 =>
 tR (sto v8 (pi 0) h9) fun v10 h11 =>
 .nm T26 h11) (.nm T26 h)) (y0 r) (y17 r)
def k76_0 : KF := fun c i x r h => (fun (x0 x1 : AV) =>
 tR (o_box 129 (.c x1) .nil h) fun v2 h3 =>
 x (T8 x0 v2) h3) (y0 r) (y1 r)
def x76 : AC := (.shal k76_0 (.seq (.drw [q 0 (m d4 r0),
 q 0 (o d5 (.nilc r4)),
 q 0 (o d6 (.fad 19 r5)),
 q 0 (o d7 (.ld1 r6)),
 q 0 (o d8 (.bin .ne r7 (.c (pi 0)))),
 q 0 (m d9 r8),
 q 0 (.g .h0 .h9 true d10 (.op (.mv r0))),
 q 0 (.g .h0 .h9 true d11 (.op (.nilc r10))),
 q 0 (.g .h0 .h9 true d12 (.op (.fad 8 r11))),
 q 0 (.g .h0 .h9 true d13 (.op (.ld1 r12))),
 w (.g .h0 .h9 true d14 (.call 126 [r13])),
 q 1 (.g .h0 .h9 true d15 (.op (.ldn 2 r3))),
 w (.g .h0 .h9 true d16 (.call 133 [r14,r15])),
 q 0 (o d17 (.pick r9 r16 (.c (.bool false))))]) (.shal k76_1 .skip)))
def z76 : List Rs := []
def f76 : AF := .mk x76 z76
def k77_2 : KF := fun c i x r h => (fun (x5 x6 x7 x8 : AV) =>
 ifR x8 (.nm (T43 x5 x6 x7) h) (.ex 0 (T43 x5 x6 x7) h)) (y0 r) (y3 r) (y4 r) (y14 r)
def k77_3 : KF := fun c i x r h => (fun (x9 x10 x11 : AV) =>
 tT (c 75 [x9] h) fun v12 h13 =>
 tT (c 95 [x9] h13) fun v14 h15 =>
 tR (o_build [(pi 0),(pi 0),(pi 0),(.str [])] [.mk 0 1 (.c v12),.mk 3 1 (.c v14)] .nil h15) fun v16 h17 =>
 tR (o_bslice 138 4 1 [(pi 0),(pi 0),(pi 0),(.str [])] [.mk 0 4 (.c v16)] .nil h17) fun v18 h19 =>
 tR (appV 138 4 x10 v18 h19) fun v20 h21 =>
 tR (b_sub x11 (pi 1) h21) fun v22 h23 =>
 .nm (T43 x9 v20 v22) h23) (y0 r) (y3 r) (y4 r)
def k77_1 : KF := fun c i x r h => (fun (x1 x2 : AV) =>
 tT (c 75 [x1] h) fun v3 h4 =>
 x (T43 x1 x2 v3) h4) (y0 r) (y3 r)
def k77_4 : KF := fun c i x r h => (fun (x24 : AV) =>
 .ret (T20 x24) h) (y3 r)
def k77_0 : KF := fun c i x r h => (fun (x0 : AV) =>
 x (T8 x0 .nils) h) (y0 r)
def x77 : AC := (.shal k77_0 (.seq (.shal k77_1 (.block 0 (.loop (.seq (.seq (.ops [m d8 r4,
 o d9 (.bin .gt r8 (.c (pi 0))),
 m d10 r9,
 .g .h0 .ha true d11 (.op (.mv r0)),
 .g .h0 .ha true d12 (.call 125 [r11]),
 .g .h0 .ha true d13 (.op (.un .not r12)),
 o d14 (.pick r10 r13 (.c (.bool false)))]) (.shal k77_2 .skip)) (.shal k77_3 .skip))))) (.shal k77_4 .skip)))
def z77 : List Rs := [.t .h0 .h2]
def f77 : AF := .mk x77 z77
def k78_1 : KF := fun c i x r h => (fun (x19 x20 x21 x22 x23 : AV) =>
 ifR x23 (tR (sto x22 (pi 5) h) fun v24 h25 =>
 .nm (T57 x19 x20 x21 x22) h25) (.nm (T57 x19 x20 x21 x22) h)) (y0 r) (y4 r) (y5 r) (y6 r) (y21 r)
def k78_2 : KF := fun c i x r h => (fun (x26 x27 x28 x29 : AV) =>
 tR (ld x29 h) fun v30 h31 =>
 tT (c 134 [x26,(.bool false),v30,(.fn 135 [x27,x29,x28])] h31) fun v32 h33 =>
 tT (c 65 [x26] h33) fun v34 h35 =>
 x (T1 x26) h35) (y0 r) (y4 r) (y5 r) (y6 r)
def k78_0 : KF := fun c i x r h => (fun (x0 x1 x2 : AV) =>
 tR (o_box 3 (.c x1) .nil h) fun v3 h4 =>
 tR (o_box 9 (.c x2) .nil h4) fun v5 h6 =>
 tR (ld v3 h6) fun v7 h8 =>
 tR (ld v5 h8) fun v9 h10 =>
 tT (c 97 [x0,v7,v9] h10) fun v11 h12 =>
 tR (u_not v11 h12) fun v13 h14 =>
 ifR v13 (.ret T26 h14) (tR (o_alloc 3 1 (.k1 (.mk (pi 0) .undef .undef .undef .undef .undef .undef .undef .undef .undef .undef .undef .undef .undef .undef .undef)) .nil h14) fun v15 h16 =>
 tR (sto v15 (pi 4) h16) fun v17 h18 =>
 x (T57 x0 v3 v5 v15) h18)) (y0 r) (y1 r) (y2 r)
def x78 : AC := (.shal k78_0 (.seq (.seq (.drw [q 0 (m d12 r0),
 q 0 (o d13 (.ld1 r4)),
 w (.o d14 (.call 109 [r12,r13])),
 q 0 (m d15 r14),
 q 0 (.g .h0 .hf true d16 (.op (.mv r0))),
 q 0 (.g .h0 .hf true d17 (.op (.ld1 r4))),
 w (.g .h0 .hf true d18 (.call 94 [r16,r17])),
 q 1 (.g .h0 .hf true d19 (.op (.ld1 r5))),
 q 0 (.g .h0 .hf true d20 (.op (.bin .seq r18 r19))),
 q 0 (o d21 (.pick r15 r20 (.c (.bool false))))]) (.shal k78_1 .skip)) (.shal k78_2 (.drw [q 0 (m d29 r0),
 q 0 (o d30 (.nilc r29)),
 q 0 (o d31 (.fad 24 r30)),
 q 0 (o d32 (.ld1 r31)),
 q 0 (m d33 r32),
 q 0 (.g .h2 .h1 false d38 (.op (.mv r0))),
 q 0 (.g .h2 .h1 false d39 (.op (.nilc r38))),
 q 0 (.g .h2 .h1 false d40 (.op (.fad 9 r39))),
 q 0 (.g .h2 .h1 false d41 (.op (.ld1 r40))),
 w (.g .h2 .h1 false d42 (.call 53 [r41])),
 q 1 (m d28 r0),
 q 1 (.g .h2 .h1 false d34 (.op (.mv r0))),
 q 1 (.g .h2 .h1 false d35 (.op (.nilc r34))),
 q 1 (.g .h2 .h1 false d36 (.op (.fad 10 r35))),
 q 1 (.g .h2 .h1 false d37 (.op (.ld1 r36))),
 q 0 (.g .h2 .h1 false d43 (.op (.bin .gt r37 r42))),
 q 0 (o d44 (.pick r33 (.c (.bool true)) r43)),
 q 0 (o d45 (.nilc r28)),
 q 0 (o d46 (.fad 24 r45)),
 w (o .no (.st1 r46 r44))]))))
def z78 : List Rs := []
def f78 : AF := .mk x78 z78
def k79_1 : KF := fun c i x r h => (fun (x37 x38 x39 : AV) =>
 tR (ld x39 h) fun v40 h41 =>
 tR (len v40 h41) fun v42 h43 =>
 tR (b_gt v42 (pi 0) h43) fun v44 h45 =>
 ifR v44 (tR (ld x38 h45) fun v46 h47 =>
 tT (c 122 [v46,x37,(pi 6),(.fn 137 [x39])] h47) fun v48 h49 =>
 .nm T26 h49) (.nm T26 h45)) (y1 r) (y3 r) (y6 r)
def k79_0 : KF := fun c i x r h => (fun (x0 x1 x2 : AV) =>
 tR (o_box 88 (.c x0) .nil h) fun v3 h4 =>
 tR (ld v3 h4) fun v5 h6 =>
 tR (nic v5 h6) fun v7 h8 =>
 tR (fa 13 v7 h8) fun v9 h10 =>
 tR (fa 0 v9 h10) fun v11 h12 =>
 tR (ld v11 h12) fun v13 h14 =>
 tR (b_lt x2 v13 h14) fun v15 h16 =>
 ifR v15 (tR (ld v3 h16) fun v17 h18 =>
 tT (c 122 [v17,x1,(pi 8),(.fn 136 [v3])] h18) fun v19 h20 =>
 tR (ld v3 h20) fun v21 h22 =>
 tT (c 108 [v21,x2] h22) fun v23 h24 =>
 tR (o_alloc 135 1 (.k1 (.mk .nils .undef .undef .undef .undef .undef .undef .undef .undef .undef .undef .undef .undef .undef .undef .undef)) .nil h24) fun v25 h26 =>
 tR (sto v25 v23 h26) fun v27 h28 =>
 x (T77 x1 v3 v25) h28) (tR (ld v3 h16) fun v29 h30 =>
 tT (c 108 [v29,x2] h30) fun v31 h32 =>
 tR (o_alloc 135 1 (.k1 (.mk .nils .undef .undef .undef .undef .undef .undef .undef .undef .undef .undef .undef .undef .undef .undef .undef)) .nil h32) fun v33 h34 =>
 tR (sto v33 v31 h34) fun v35 h36 =>
 x (T77 x1 v3 v33) h36)) (y0 r) (y1 r) (y2 r)
def x79 : AC := (.shal k79_0 (.shal k79_1 .skip))
def z79 : List Rs := []
def f79 : AF := .mk x79 z79
def k80_4 : KF := fun c i x r h => (fun (x47 x48 : AV) =>
 tR (o_ent (.c x48) .nil h) fun v49 h50 =>
 tR (o_ext 0 (.c v49) .nil h50) fun v51 h52 =>
 tR (o_ext 1 (.c v49) .nil h52) fun v53 h54 =>
 tR (o_alloc 125 3 (.k1 (.mk (pi 0) (pi 0) (pi 0) .undef .undef .undef .undef .undef .undef .undef .undef .undef .undef .undef .undef .undef)) .nil h54) fun v55 h56 =>
 tR (o_stn 3 (.c v55) (.c v51) .nil h56) fun v57 h58 =>
 tR (o_ldn 3 (.c v55) .nil h58) fun v59 h60 =>
 tT (c 138 [x47,v59] h60) fun v61 h62 =>
 tR (o_ext 0 (.c v61) .nil h62) fun v63 h64 =>
 tR (o_ext 1 (.c v61) .nil h64) fun v65 h66 =>
 tR (o_alloc 127 6 (.k1 (.mk (pi 0) (pi 0) (pi 0) (.bool false) (.str []) (pi 0) .undef .undef .undef .undef .undef .undef .undef .undef .undef .undef)) .nil h66) fun v67 h68 =>
 tR (o_stn 6 (.c v67) (.c v63) .nil h68) fun v69 h70 =>
 ifR v65 (tQ (nic x47 h70) fun v71 =>
 tQ (fa 0 v71 h70) fun v72 =>
 tQ (ld v72 h70) fun v73 =>
 tQ (nic v73 h70) fun v74 =>
 tQ (fa 2 v74 h70) fun v75 =>
 tQ (ld v75 h70) fun v76 =>
 tQ (nic x47 h70) fun v77 =>
 tQ (fa 1 v77 h70) fun v78 =>
 tQ (ld v78 h70) fun v79 =>
 tQ (fa 4 v67 h70) fun v80 =>
 tQ (ld v80 h70) fun v81 =>
 tQ (nic v76 h70) fun v82 =>
 tX (i 1 v76 [v79,v53,v81] h70) fun v83 h84 =>
 .nm (T78 x47 x48) h84) (.nm (T78 x47 x48) h70)) (y0 r) (y37 r)
def k80_3 : KF := fun c i x r h => (fun (x44 x45 x46 : AV) =>
 ifR x46 (x (T78 x44 x45) h) (.ex 0 (T1 x44) h)) (y0 r) (y37 r) (y39 r)
def k80_2 : KF := fun c i x r h => (fun (x36 x37 : AV) =>
 tR (fa 2 x37 h) fun v38 h39 =>
 tR (ld v38 h39) fun v40 h41 =>
 tR (o_rngm (.c v40) .nil h41) fun v42 h43 =>
 x (T78 x36 v42) h43) (y0 r) (y3 r)
def k80_5 : KF := fun c i x r h => (fun (x85 : AV) =>
 tT (c 65 [x85] h) fun v86 h87 =>
 tR (nic x85 h87) fun v88 h89 =>
 tR (fa 24 v88 h89) fun v90 h91 =>
 tR (sto v90 (.bool true) h91) fun v92 h93 =>
 .nm T26 h93) (y0 r)
def k80_1 : KF := fun c i x r h => (fun (x18 x19 : AV) =>
 tQ (nic x18 h) fun v20 =>
 tQ (fa 0 v20 h) fun v21 =>
 tQ (ld v21 h) fun v22 =>
 tQ (nic v22 h) fun v23 =>
 tQ (fa 2 v23 h) fun v24 =>
 tQ (ld v24 h) fun v25 =>
 tQ (nic x18 h) fun v26 =>
 tQ (fa 1 v26 h) fun v27 =>
 tQ (ld v27 h) fun v28 =>
 tQ (fa 1 x19 h) fun v29 =>
 tQ (ld v29 h) fun v30 =>
 tQ (fa 3 x19 h) fun v31 =>
 tQ (ld v31 h) fun v32 =>
 tQ (nic v25 h) fun v33 =>
 tX (i 0 v25 [v28,v30,v32] h) fun v34 h35 =>
 x (T8 x18 x19) h35) (y0 r) (y3 r)
def k80_0 : KF := fun c i x r h => (fun (x0 x1 : AV) =>
 tR (o_box 97 (.c x1) .nil h) fun v2 h3 =>
 tR (o_ldn 4 (.c v2) .nil h3) fun v4 h5 =>
 tT (c 98 [x0,v4] h5) fun v6 h7 =>
 tR (u_not v6 h7) fun v8 h9 =>
 ifR v8 (.ret T26 h9) (tR (nic x0 h9) fun v10 h11 =>
 tR (fa 19 v10 h11) fun v12 h13 =>
 tR (sto v12 (pi 0) h13) fun v14 h15 =>
 tT (c 64 [x0] h15) fun v16 h17 =>
 x (T8 x0 v2) h17)) (y0 r) (y1 r)
def x80 : AC := (.shal k80_0 (.shal k80_1 (.seq (.shal k80_2 (.join (.block 0 (.loop (.seq (.ops [.o d38 (.nxt false r37),
 o d39 (.ext 0 r38)]) (.shal k80_3 (.shal k80_4 .skip))))))) (.shal k80_5 .skip))))
def z80 : List Rs := []
def f80 : AF := .mk x80 z80
def k81_2 : KF := fun c i x r h => (fun (x20 x21 x22 x23 x24 : AV) =>
 ifR x24 (.nm (T79 x20 x21 x22 x23) h) (.ex 0 (T79 x20 x21 x22 x23) h)) (y0 r) (y2 r) (y3 r) (y4 r) (y20 r)
def k81_3 : KF := fun c i x r h => (fun (x25 x26 x27 x28 : AV) =>
 tT (c 139 [x25] h) fun v29 h30 =>
 tR (o_alloc 125 3 (.k1 (.mk (pi 0) (pi 0) (pi 0) .undef .undef .undef .undef .undef .undef .undef .undef .undef .undef .undef .undef .undef)) .nil h30) fun v31 h32 =>
 tR (o_stn 3 (.c v31) (.c v29) .nil h32) fun v33 h34 =>
 x (T80 x25 x26 x27 x28 v31) h34) (y0 r) (y2 r) (y3 r) (y4 r)
def k81_4 : KF := fun c i x r h => (fun (x35 x36 x37 x38 : AV) =>
 tR (b_sub x38 (pi 1) h) fun v39 h40 =>
 .nm (T79 x35 x36 x37 v39) h40) (y0 r) (y2 r) (y3 r) (y4 r)
def k81_1 : KF := fun c i x r h => (fun (x15 x16 x17 : AV) =>
 tT (c 75 [x15] h) fun v18 h19 =>
 x (T79 x15 x16 x17 v18) h19) (y0 r) (y2 r) (y3 r)
def k81_5 : KF := fun c i x r h => (fun (x41 x42 x43 : AV) =>
 tT (c 95 [x41] h) fun v44 h45 =>
 tR (fa 3 x43 h45) fun v46 h47 =>
 tR (sto v46 v44 h47) fun v48 h49 =>
 tR (o_ldn 4 (.c x43) .nil h49) fun v50 h51 =>
 tR (o_stn 4 (.c x42) (.c v50) .nil h51) fun v52 h53 =>
 .ret (T20 x42) h53) (y0 r) (y2 r) (y3 r)
def k81_0 : KF := fun c i x r h => (fun (x0 : AV) =>
 tR (o_alloc 97 4 (.k1 (.mk (pi 0) (pi 0) .nilm (.str []) .undef .undef .undef .undef .undef .undef .undef .undef .undef .undef .undef .undef)) .nil h) fun v1 h2 =>
 tT (c 75 [x0] h2) fun v3 h4 =>
 tT (c 75 [x0] h4) fun v5 h6 =>
 tR (o_mkmap .nil h6) fun v7 h8 =>
 tR (o_build [(pi 0),(pi 0),.nilm,(.str [])] [.mk 0 1 (.c v3),.mk 1 1 (.c v5),.mk 2 1 (.c v7)] .nil h8) fun v9 h10 =>
 tR (o_alloc 97 4 (.k1 (.mk (pi 0) (pi 0) .nilm (.str []) .undef .undef .undef .undef .undef .undef .undef .undef .undef .undef .undef .undef)) .nil h10) fun v11 h12 =>
 tR (o_stn 4 (.c v11) (.c v9) .nil h12) fun v13 h14 =>
 x (T69 x0 v1 v11) h14) (y0 r)
def x81 : AC := (.shal k81_0 (.seq (.shal k81_1 (.block 0 (.loop (.seq (.seq (.ops [m d14 r4,
 o d15 (.bin .gt r14 (.c (pi 0))),
 m d16 r15,
 .g .h1 .h0 true d17 (.op (.mv r0)),
 .g .h1 .h0 true d18 (.call 125 [r17]),
 .g .h1 .h0 true d19 (.op (.un .not r18)),
 o d20 (.pick r16 r19 (.c (.bool false)))]) (.shal k81_2 .skip)) (.seq (.block 1 (.shal k81_3 (.drw [q 0 (m d28 r0),
 w (.o d29 (.call 75 [r28])),
 q 1 (o d25 (.fad 2 r3)),
 q 1 (o d26 (.ld1 r25)),
 q 1 (o d27 (.ldn 3 r5)),
 w (o .no (.mup (.agg [.i,.i,.i]) r26 r27 r29))]))) (.shal k81_4 .skip)))))) (.shal k81_5 .skip)))
def z81 : List Rs := [.agg 4 .h0 .h2]
def f81 : AF := .mk x81 z81
def k82_0 : KF := fun c i x r h => (fun (x0 : AV) =>
 tQ (nic x0 h) fun v1 =>
 tQ (fa 1 v1 h) fun v2 =>
 tQ (ld v2 h) fun v3 =>
 tQ (b_mul (pi 150) v3 h) fun v4 =>
 tQ (b_add (pi 300) v4 h) fun v5 =>
 tQ (nic x0 h) fun v6 =>
 tQ (fa 22 v6 h) fun v7 =>
 tQ (ld v7 h) fun v8 =>
 tQ (maxV true [v8,(pi 7)] h) fun v9 =>
 tQ (bK .shl v5 v9 h) fun v10 =>
 .ret (T20 v10) h) (y0 r)
def x82 : AC := (.shal k82_0 .skip)
def z82 : List Rs := [.t .h0 .h2]
def f82 : AF := .mk x82 z82
def k83_1 : KF := fun c i x r h => (fun (x11 x12 x13 x14 x15 : AV) =>
 tR (b_lt x15 x14 h) fun v16 h17 =>
 ifR v16 (tR (nic x11 h17) fun v18 h19 =>
 tR (fa 1 v18 h19) fun v20 h21 =>
 tR (ld v20 h21) fun v22 h23 =>
 tR (b_ne x15 v22 h23) fun v24 h25 =>
 ifR v24 (tT (c 122 [x11,x15,x12,x13] h25) fun v26 h27 =>
 tR (b_add x15 (pi 1) h27) fun v28 h29 =>
 .nm (T81 x11 x12 x13 x14 v28) h29) (tR (b_add x15 (pi 1) h25) fun v30 h31 =>
 .nm (T81 x11 x12 x13 x14 v30) h31)) (.ex 0 (T81 x11 x12 x13 x14 x15) h17)) (y0 r) (y1 r) (y2 r) (y11 r) (y12 r)
def k83_0 : KF := fun c i x r h => (fun (x0 x1 x2 : AV) =>
 tR (nic x0 h) fun v3 h4 =>
 tR (fa 0 v3 h4) fun v5 h6 =>
 tR (ld v5 h6) fun v7 h8 =>
 tT (c 59 [v7] h8) fun v9 h10 =>
 x (T81 x0 x1 x2 v9 (pi 0)) h10) (y0 r) (y1 r) (y2 r)
def x83 : AC := (.shal k83_0 (.block 0 (.loop (.shal k83_1 .skip))))
def z83 : List Rs := []
def f83 : AF := .mk x83 z83
def k84_0 : KF := fun c i x r h => (fun (x0 x1 : AV) =>
 tR (ld x1 h) fun v2 h3 =>
 tT (c 85 [x0,v2] h3) fun v4 h5 =>
 .nm T26 h5) (y0 r) (y1 r)
def x84 : AC := (.shal k84_0 .skip)
def z84 : List Rs := []
def f84 : AF := .mk x84 z84
def k85_0 : KF := fun c i x r h => (fun (x0 x1 : AV) =>
 tR (cK (.toInt .u64) x1 h) fun v2 h3 =>
 tT (c 140 [x0,v2,(pi 8)] h3) fun v4 h5 =>
 .nm T26 h5) (y0 r) (y1 r)
def x85 : AC := (.shal k85_0 .skip)
def z85 : List Rs := []
def f85 : AF := .mk x85 z85
def k86_3 : KF := fun c i x r h => (fun (x47 x48 x49 x50 : AV) =>
 tR (b_add x50 (pi 1) h) fun v51 h52 =>
 .nm (T82 x47 x48 x49 v51) h52) (y0 r) (y10 r) (y11 r) (y12 r)
def k86_2 : KF := fun c i x r h => (fun (x17 x18 x19 x20 : AV) =>
 tR (ix 1 x18 x20 h) fun v21 h22 =>
 tR (ld v21 h22) fun v23 h24 =>
 tR (nic x17 h24) fun v25 h26 =>
 tR (fa 8 v25 h26) fun v27 h28 =>
 tR (ld v27 h28) fun v29 h30 =>
 tT (c 131 [v29,v23,(.str [])] h30) fun v31 h32 =>
 tR (o_ext 0 (.c v31) .nil h32) fun v33 h34 =>
 tR (o_ext 1 (.c v31) .nil h34) fun v35 h36 =>
 ifR v35 (tR (nic x17 h36) fun v37 h38 =>
 tR (fa 8 v37 h38) fun v39 h40 =>
 tR (ld v39 h40) fun v41 h42 =>
 tT (c 126 [v41] h42) fun v43 h44 =>
 tT (c 142 [x17,v43,v23,v33] h44) fun v45 h46 =>
 x (T82 x17 x18 x19 x20) h46) (x (T82 x17 x18 x19 x20) h36)) (y0 r) (y10 r) (y11 r) (y12 r)
def k86_1 : KF := fun c i x r h => (fun (x11 x12 x13 x14 : AV) =>
 tR (b_lt x14 x13 h) fun v15 h16 =>
 ifR v15 (x (T82 x11 x12 x13 x14) h16) (.ex 0 (T1 x11) h16)) (y0 r) (y10 r) (y11 r) (y12 r)
def k86_0 : KF := fun c i x r h => (fun (x0 : AV) =>
 tR (nic x0 h) fun v1 h2 =>
 tR (fa 8 v1 h2) fun v3 h4 =>
 tR (ld v3 h4) fun v5 h6 =>
 tT (c 141 [v5] h6) fun v7 h8 =>
 tR (len v7 h8) fun v9 h10 =>
 x (T82 x0 v7 v9 (pi 0)) h10) (y0 r)
def k86_4 : KF := fun c i x r h => (fun (x53 : AV) =>
 tT (c 66 [x53] h) fun v54 h55 =>
 .nm T26 h55) (y0 r)
def x86 : AC := (.seq (.shal k86_0 (.block 0 (.loop (.shal k86_1 (.shal k86_2 (.shal k86_3 .skip)))))) (.shal k86_4 .skip))
def z86 : List Rs := []
def f86 : AF := .mk x86 z86
def k87_0 : KF := fun c i x r h => (fun (x0 : AV) =>
 tR (nic x0 h) fun v1 h2 =>
 tR (fa 1 v1 h2) fun v3 h4 =>
 tR (ld v3 h4) fun v5 h6 =>
 .ret (T20 v5) h6) (y0 r)
def x87 : AC := (.shal k87_0 .skip)
def z87 : List Rs := [.t .h0 .h2]
def f87 : AF := .mk x87 z87
def k88_2 : KF := fun c i x r h => (fun (x38 x39 : AV) =>
 tQ (nic x38 h) fun v40 =>
 tQ (fa 0 v40 h) fun v41 =>
 tQ (ld v41 h) fun v42 =>
 tQ (nic v42 h) fun v43 =>
 tQ (fa 2 v43 h) fun v44 =>
 tQ (ld v44 h) fun v45 =>
 tQ (nic x38 h) fun v46 =>
 tQ (fa 1 v46 h) fun v47 =>
 tQ (ld v47 h) fun v48 =>
 tQ (fa 1 x39 h) fun v49 =>
 tQ (ld v49 h) fun v50 =>
 tQ (fa 3 x39 h) fun v51 =>
 tQ (ld v51 h) fun v52 =>
 tQ (nic v45 h) fun v53 =>
 tX (i 2 v45 [v48,v50,v52] h) fun v54 h55 =>
 .nm T26 h55) (y0 r) (y3 r)
def k88_1 : KF := fun c i x r h => (fun (x26 x27 : AV) =>
 tQ (nic x26 h) fun v28 =>
 tQ (fa 10 v28 h) fun v29 =>
 tQ (ld v29 h) fun v30 =>
 tQ (fa 0 x27 h) fun v31 =>
 tQ (ld v31 h) fun v32 =>
 tQ (maxV false [v30,v32] h) fun v33 =>
 tQ (nic x26 h) fun v34 =>
 tQ (fa 10 v34 h) fun v35 =>
 tX (RV.toT (sto v35 v33 h)) fun v36 h37 =>
 x (T8 x26 x27) h37) (y0 r) (y3 r)
def k88_0 : KF := fun c i x r h => (fun (x0 x1 : AV) =>
 tR (o_box 97 (.c x1) .nil h) fun v2 h3 =>
 tR (o_ldn 4 (.c v2) .nil h3) fun v4 h5 =>
 tR (nic x0 h5) fun v6 h7 =>
 tR (fa 13 v6 h7) fun v8 h9 =>
 tR (o_stn 4 (.c v8) (.c v4) .nil h9) fun v10 h11 =>
 tQ (nic x0 h11) fun v12 =>
 tQ (fa 7 v12 h11) fun v13 =>
 tQ (ld v13 h11) fun v14 =>
 tQ (fa 0 v2 h11) fun v15 =>
 tQ (ld v15 h11) fun v16 =>
 tX (c 143 [v14,v16] h11) fun v17 h18 =>
 tQ (nic x0 h18) fun v19 =>
 tQ (fa 9 v19 h18) fun v20 =>
 tQ (ld v20 h18) fun v21 =>
 tQ (fa 0 v2 h18) fun v22 =>
 tQ (ld v22 h18) fun v23 =>
 tX (c 144 [v21,v23] h18) fun v24 h25 =>
 x (T8 x0 v2) h25) (y0 r) (y1 r)
def x88 : AC := (.shal k88_0 (.shal k88_1 (.shal k88_2 .skip)))
def z88 : List Rs := []
def f88 : AF := .mk x88 z88
def k89_4 : KF := fun c i x r h => (fun (x43 x44 x45 : AV) =>
 tR (b_add x45 (pi 1) h) fun v46 h47 =>
 .nm (T27 x43 x44 v46) h47) (y0 r) (y5 r) (y6 r)
def k89_3 : KF := fun c i x r h => (fun (x18 x19 x20 : AV) =>
 tR (nic x18 h) fun v21 h22 =>
 tR (fa 2 v21 h22) fun v23 h24 =>
 tR (ld v23 h24) fun v25 h26 =>
 tR (lkp (.one .i) (.agg [(pi 0),(pi 0),(pi 0),(.str [])]) true v25 x20 h26) fun v27 h28 =>
 tR (o_ext 0 (.c v27) .nil h28) fun v29 h30 =>
 tR (o_ext 1 (.c v27) .nil h30) fun v31 h32 =>
 tR (o_alloc 138 4 (.k1 (.mk (pi 0) (pi 0) (pi 0) (.str []) .undef .undef .undef .undef .undef .undef .undef .undef .undef .undef .undef .undef)) .nil h32) fun v33 h34 =>
 tR (o_stn 4 (.c v33) (.c v29) .nil h34) fun v35 h36 =>
 ifR v31 (tR (o_ldn 4 (.c v33) .nil h36) fun v37 h38 =>
 tR (o_bslice 138 4 1 [(pi 0),(pi 0),(pi 0),(.str [])] [.mk 0 4 (.c v37)] .nil h38) fun v39 h40 =>
 tR (appV 138 4 x19 v39 h40) fun v41 h42 =>
 x (T27 x18 v41 x20) h42) (x (T27 x18 x19 x20) h36)) (y0 r) (y5 r) (y6 r)
def k89_2 : KF := fun c i x r h => (fun (x7 x8 x9 : AV) =>
 tR (nic x7 h) fun v10 h11 =>
 tR (fa 3 v10 h11) fun v12 h13 =>
 tR (ld v12 h13) fun v14 h15 =>
 tR (b_lt x9 v14 h15) fun v16 h17 =>
 ifR v16 (x (T27 x7 x8 x9) h17) (.ex 0 (T23 x8) h17)) (y0 r) (y5 r) (y6 r)
def k89_1 : KF := fun c i x r h => (fun (x2 x3 x4 : AV) =>
 tR (maxV false [x3,(pi 0)] h) fun v5 h6 =>
 x (T27 x2 x4 v5) h6) (y0 r) (y1 r) (y5 r)
def k89_5 : KF := fun c i x r h => (fun (x48 : AV) =>
 .ret (T12 x48) h) (y5 r)
def k89_0 : KF := fun c i x r h => (fun (x0 x1 : AV) =>
 x (T19 x0 x1 .nils) h) (y0 r) (y1 r)
def x89 : AC := (.shal k89_0 (.seq (.shal k89_1 (.block 0 (.loop (.shal k89_2 (.shal k89_3 (.shal k89_4 .skip)))))) (.shal k89_5 .skip)))
def z89 : List Rs := [.t .h0 .h4]
def f89 : AF := .mk x89 z89
def k90_0 : KF := fun c i x r h => (fun (x0 x1 : AV) =>
 tR (nic x0 h) fun v2 h3 =>
 tR (fa 0 v2 h3) fun v4 h5 =>
 tR (ld v4 h5) fun v6 h7 =>
 tR (lkp (.one .i) (.str []) true v6 x1 h7) fun v8 h9 =>
 tR (o_ext 0 (.c v8) .nil h9) fun v10 h11 =>
 tR (o_ext 1 (.c v8) .nil h11) fun v12 h13 =>
 .ret (T15 v10 v12) h13) (y0 r) (y1 r)
def x90 : AC := (.shal k90_0 .skip)
def z90 : List Rs := [.t .h0 .h4,.t .h0 .h5]
def f90 : AF := .mk x90 z90
def k91_1 : KF := fun c i x r h => (fun (x1 x2 : AV) =>
 ifR x2 (.ret (T7 .nils (.bool false)) h) (.nm (T1 x1) h)) (y0 r) (y16 r)
def k91_2 : KF := fun c i x r h => (fun (x3 : AV) =>
 tR (o_slc 1 (.c x3) (.some (.c (pi 4))) .none .none .nil h) fun v4 h5 =>
 tT (c 92 [v4] h5) fun v6 h7 =>
 .ret (T7 v6 (.bool true)) h7) (y0 r)
def k91_0 : KF := fun c i x r h => (fun (x0 : AV) =>
 x (T1 x0) h) (y0 r)
def x91 : AC := (.shal k91_0 (.seq (.seq (.drw [q 0 (m d4 r0),
 q 0 (o d5 (.len r4)),
 q 0 (o d6 (.bin .lt r5 (.c (pi 4)))),
 q 0 (m d7 r6),
 q 0 (.g .h0 .h7 false d8 (.op (.mv r0))),
 q 0 (.g .h0 .h7 false d9 (.op (.slc 1 r8 (.some (.c (pi 4))) .none .none))),
 w (.g .h0 .h7 false d10 (.call 146 [r9])),
 q 0 (.g .h0 .h7 false d11 (.op (.slc 1 r10 .none (.some (.c (pi 4))) .none))),
 q 1 (.g .h0 .h7 false d12 (.op (.mv r0))),
 q 1 (.g .h0 .h7 false d13 (.op (.slc 1 r12 .none (.some (.c (pi 4))) .none))),
 w (.g .h0 .h7 false d14 (.call 145 [r11,r13])),
 q 0 (.g .h0 .h7 false d15 (.op (.un .not r14))),
 q 0 (o d16 (.pick r7 (.c (.bool true)) r15))]) (.shal k91_1 .skip)) (.shal k91_2 .skip)))
def z91 : List Rs := [.t .h0 .h2,.t .h0 .h3]
def f91 : AF := .mk x91 z91
def k92_0 : KF := fun c i x r h => (fun (x0 : AV) =>
 tR (bK (.isnil .s) x0 .nils h) fun v1 h2 =>
 ifR v1 (.ret (T20 .nils) h2) (tR (o_bslice 5 1 0 [] [] .nil h2) fun v3 h4 =>
 tR (appV 5 1 v3 x0 h4) fun v5 h6 =>
 .ret (T20 v5) h6)) (y0 r)
def x92 : AC := (.shal k92_0 .skip)
def z92 : List Rs := [.t .h0 .h2]
def f92 : AF := .mk x92 z92
def k93_0 : KF := fun c i x r h => (fun (x0 x1 x2 : AV) =>
 tR (o_box 129 (.c x1) .nil h) fun v3 h4 =>
 tQ (nic x0 h4) fun v5 =>
 tQ (fa 0 v5 h4) fun v6 =>
 tQ (o_ldn 2 (.c v6) .nil h4) fun v7 =>
 tQ (o_ldn 2 (.c v3) .nil h4) fun v8 =>
 tX (c 133 [v7,v8] h4) fun v9 h10 =>
 tQ (u_not v9 h10) fun v11 =>
 ifR v11 (.ret (T83 (.bool false) .nils) h10) (tR (o_ldn 2 (.c v3) .nil h10) fun v12 h13 =>
 tR (nic x0 h13) fun v14 h15 =>
 tR (fa 0 v14 h15) fun v16 h17 =>
 tR (o_stn 2 (.c v16) (.c v12) .nil h17) fun v18 h19 =>
 tT (c 89 [x0,x2] h19) fun v20 h21 =>
 x (T83 (.bool true) v20) h21)) (y0 r) (y1 r) (y2 r)
def x93 : AC := (.shal k93_0 .ret)
def z93 : List Rs := [.t .h0 .h6,.t .h0 .h7]
def f93 : AF := .mk x93 z93
def k94_0 : KF := fun c i x r h => (fun (x0 x1 : AV) =>
 tR (nic x0 h) fun v2 h3 =>
 tR (fa 7 v2 h3) fun v4 h5 =>
 tR (ld v4 h5) fun v6 h7 =>
 tT (c 147 [v6,x1] h7) fun v8 h9 =>
 tR (o_ext 0 (.c v8) .nil h9) fun v10 h11 =>
 tR (o_ext 1 (.c v8) .nil h11) fun v12 h13 =>
 tR (o_alloc 138 4 (.k1 (.mk (pi 0) (pi 0) (pi 0) (.str []) .undef .undef .undef .undef .undef .undef .undef .undef .undef .undef .undef .undef)) .nil h13) fun v14 h15 =>
 tR (o_stn 4 (.c v14) (.c v10) .nil h15) fun v16 h17 =>
 tR (fa 3 v14 h17) fun v18 h19 =>
 tR (ld v18 h19) fun v20 h21 =>
 .ret (T12 v20) h21) (y0 r) (y1 r)
def x94 : AC := (.shal k94_0 .skip)
def z94 : List Rs := [.t .h0 .h4]
def f94 : AF := .mk x94 z94
def k95_2 : KF := fun c i x r h => (fun (x5 x6 x7 x8 : AV) =>
 ifR x8 (.nm (T43 x5 x6 x7) h) (.ex 0 (T43 x5 x6 x7) h)) (y0 r) (y3 r) (y4 r) (y15 r)
def k95_3 : KF := fun c i x r h => (fun (x9 x10 x11 : AV) =>
 tT (c 148 [x9,(pi 65535)] h) fun v12 h13 =>
 tR (o_apps 5 (.c x10) (.c v12) .nil h13) fun v14 h15 =>
 .nm (T43 x9 v14 x11) h15) (y0 r) (y3 r) (y4 r)
def k95_1 : KF := fun c i x r h => (fun (x1 x2 : AV) =>
 tT (c 75 [x1] h) fun v3 h4 =>
 x (T43 x1 x2 v3) h4) (y0 r) (y3 r)
def k95_4 : KF := fun c i x r h => (fun (x16 : AV) =>
 tR (cK .b2s x16 h) fun v17 h18 =>
 .ret (T20 v17) h18) (y3 r)
def k95_0 : KF := fun c i x r h => (fun (x0 : AV) =>
 x (T8 x0 .nils) h) (y0 r)
def x95 : AC := (.shal k95_0 (.seq (.shal k95_1 (.block 0 (.loop (.seq (.seq (.ops [m d7 r3,
 o d8 (.len r7),
 m d9 r4,
 o d10 (.bin .lt r8 r9),
 m d11 r10,
 .g .h0 .hb true d12 (.op (.mv r0)),
 .g .h0 .hb true d13 (.call 125 [r12]),
 .g .h0 .hb true d14 (.op (.un .not r13)),
 o d15 (.pick r11 r14 (.c (.bool false)))]) (.shal k95_2 .skip)) (.shal k95_3 .skip))))) (.shal k95_4 .skip)))
def z95 : List Rs := [.t .h0 .h2]
def f95 : AF := .mk x95 z95
def k96_1 : KF := fun c i x r h => (fun (x21 x22 : AV) =>
 tQ (nic x21 h) fun v23 =>
 tQ (fa 2 v23 h) fun v24 =>
 tQ (ld v24 h) fun v25 =>
 tQ (fa 0 x22 h) fun v26 =>
 tQ (ld v26 h) fun v27 =>
 tQ (o_ldn 4 (.c x22) .nil h) fun v28 =>
 tX (RV.toT (mup (.one .i) v25 v27 v28 h)) fun v29 h30 =>
 tQ (nic x21 h30) fun v31 =>
 tQ (fa 3 v31 h30) fun v32 =>
 tQ (ld v32 h30) fun v33 =>
 tQ (fa 0 x22 h30) fun v34 =>
 tQ (ld v34 h30) fun v35 =>
 tQ (b_add v35 (pi 1) h30) fun v36 =>
 tQ (maxV false [v33,v36] h30) fun v37 =>
 tQ (nic x21 h30) fun v38 =>
 tQ (fa 3 v38 h30) fun v39 =>
 tX (RV.toT (sto v39 v37 h30)) fun v40 h41 =>
 .nm T26 h41) (y0 r) (y3 r)
def k96_0 : KF := fun c i x r h => (fun (x0 x1 : AV) =>
 tR (o_box 138 (.c x1) .nil h) fun v2 h3 =>
 tQ (nic x0 h3) fun v4 =>
 tQ (fa 0 v4 h3) fun v5 =>
 tQ (o_ldn 2 (.c v5) .nil h3) fun v6 =>
 tQ (fa 1 v2 h3) fun v7 =>
 tQ (o_ldn 2 (.c v7) .nil h3) fun v8 =>
 tX (c 133 [v6,v8] h3) fun v9 h10 =>
 ifR v9 (tR (fa 1 v2 h10) fun v11 h12 =>
 tR (o_ldn 2 (.c v11) .nil h12) fun v13 h14 =>
 tR (nic x0 h14) fun v15 h16 =>
 tR (fa 0 v15 h16) fun v17 h18 =>
 tR (o_stn 2 (.c v17) (.c v13) .nil h18) fun v19 h20 =>
 x (T8 x0 v2) h20) (x (T8 x0 v2) h10)) (y0 r) (y1 r)
def x96 : AC := (.shal k96_0 (.shal k96_1 .skip))
def z96 : List Rs := []
def f96 : AF := .mk x96 z96
def k97_1 : KF := fun c i x r h => (fun (x3 x4 x5 : AV) =>
 ifR x5 (.ret (T32 (.bool false)) h) (.nm (T13 x3 x4) h)) (y0 r) (y1 r) (y23 r)
def k97_2 : KF := fun c i x r h => (fun (x6 x7 : AV) =>
 tR (nic x6 h) fun v8 h9 =>
 tR (fa 10 v8 h9) fun v10 h11 =>
 tR (ld v10 h11) fun v12 h13 =>
 tR (b_add x7 (pi 1) h13) fun v14 h15 =>
 tR (maxV false [v12,v14] h15) fun v16 h17 =>
 tR (nic x6 h17) fun v18 h19 =>
 tR (fa 10 v18 h19) fun v20 h21 =>
 tR (sto v20 v16 h21) fun v22 h23 =>
 .ret (T32 (.bool true)) h23) (y0 r) (y1 r)
def k97_0 : KF := fun c i x r h => (fun (x0 x1 x2 : AV) =>
 x (T38 x0 x1 x2) h) (y0 r) (y1 r) (y2 r)
def x97 : AC := (.shal k97_0 (.seq (.seq (.ops [m d7 r1,
 m d8 r0,
 o d9 (.nilc r8),
 o d10 (.fad 13 r9),
 o d11 (.fad 0 r10),
 o d12 (.ld1 r11),
 o d13 (.bin .lt r7 r12),
 m d14 r13,
 .g .h0 .he false d15 (.op (.mv r0)),
 .g .h0 .he false d16 (.op (.nilc r15)),
 .g .h0 .he false d17 (.op (.fad 9 r16)),
 .g .h0 .he false d18 (.op (.ld1 r17)),
 .g .h0 .he false d19 (.op (.mv r1)),
 .g .h0 .he false d20 (.op (.mv r2)),
 .g .h0 .he false d21 (.call 149 [r18,r19,r20]),
 .g .h0 .he false d22 (.op (.un .not r21)),
 o d23 (.pick r14 (.c (.bool true)) r22)]) (.shal k97_1 .skip)) (.shal k97_2 .skip)))
def z97 : List Rs := [.t .h0 .h6]
def f97 : AF := .mk x97 z97
def k98_1 : KF := fun c i x r h => (fun (x4 x5 x6 : AV) =>
 ifR x6 (.ret (T12 (.bool false)) h) (.nm (T8 x4 x5) h)) (y0 r) (y3 r) (y24 r)
def k98_4 : KF := fun c i x r h => (fun (x25 x26 x27 x28 : AV) =>
 ifR x28 (tR (o_ent (.c x27) .nil h) fun v29 h30 =>
 tR (o_ext 0 (.c v29) .nil h30) fun v31 h32 =>
 tR (o_ext 1 (.c v29) .nil h32) fun v33 h34 =>
 tR (o_alloc 125 3 (.k1 (.mk (pi 0) (pi 0) (pi 0) .undef .undef .undef .undef .undef .undef .undef .undef .undef .undef .undef .undef .undef)) .nil h34) fun v35 h36 =>
 tR (o_stn 3 (.c v35) (.c v31) .nil h36) fun v37 h38 =>
 tQ (nic x25 h38) fun v39 =>
 tQ (fa 11 v39 h38) fun v40 =>
 tQ (ld v40 h38) fun v41 =>
 tQ (o_ldn 3 (.c v35) .nil h38) fun v42 =>
 tQ (o_build [(pi 0),(pi 0)] [.mk 0 1 (.c (ni 0)),.mk 1 1 (.c v33)] .nil h38) fun v43 =>
 tX (RV.toT (mup (.agg [.i,.i,.i]) v41 v42 v43 h38)) fun v44 h45 =>
 .nm (T84 x25 x26 x27) h45) (.ex 0 (T84 x25 x26 x27) h)) (y0 r) (y3 r) (y40 r) (y42 r)
def k98_3 : KF := fun c i x r h => (fun (x17 x18 : AV) =>
 tR (fa 2 x18 h) fun v19 h20 =>
 tR (ld v19 h20) fun v21 h22 =>
 tR (o_rngm (.c v21) .nil h22) fun v23 h24 =>
 x (T84 x17 x18 v23) h24) (y0 r) (y3 r)
def k98_6 : KF := fun c i x r h => (fun (x62 x63 : AV) =>
 tQ (nic x62 h) fun v64 =>
 tQ (fa 10 v64 h) fun v65 =>
 tQ (ld v65 h) fun v66 =>
 tQ (fa 0 x63 h) fun v67 =>
 tQ (ld v67 h) fun v68 =>
 tQ (maxV false [v66,v68] h) fun v69 =>
 tQ (nic x62 h) fun v70 =>
 tQ (fa 10 v70 h) fun v71 =>
 tX (RV.toT (sto v71 v69 h)) fun v72 h73 =>
 .ret (T12 (.bool true)) h73) (y0 r) (y3 r)
def k98_5 : KF := fun c i x r h => (fun (x46 x47 : AV) =>
 tQ (nic x46 h) fun v48 =>
 tQ (fa 7 v48 h) fun v49 =>
 tQ (ld v49 h) fun v50 =>
 tQ (fa 0 x47 h) fun v51 =>
 tQ (ld v51 h) fun v52 =>
 tX (c 143 [v50,v52] h) fun v53 h54 =>
 tQ (nic x46 h54) fun v55 =>
 tQ (fa 9 v55 h54) fun v56 =>
 tQ (ld v56 h54) fun v57 =>
 tQ (fa 0 x47 h54) fun v58 =>
 tQ (ld v58 h54) fun v59 =>
 tX (c 150 [v57,v59] h54) fun v60 h61 =>
 x (T8 x46 x47) h61) (y0 r) (y3 r)
def k98_2 : KF := fun c i x r h => (fun (x7 x8 : AV) =>
 tR (o_mkmap .nil h) fun v9 h10 =>
 tR (nic x7 h10) fun v11 h12 =>
 tR (fa 11 v11 h12) fun v13 h14 =>
 tR (sto v13 v9 h14) fun v15 h16 =>
 x (T8 x7 x8) h16) (y0 r) (y3 r)
def k98_0 : KF := fun c i x r h => (fun (x0 x1 : AV) =>
 tR (o_box 97 (.c x1) .nil h) fun v2 h3 =>
 x (T8 x0 v2) h3) (y0 r) (y1 r)
def x98 : AC := (.shal k98_0 (.seq (.seq (.drw [q 0 (m d9 r0),
 q 0 (o d10 (.nilc r9)),
 q 0 (o d11 (.fad 9 r10)),
 q 0 (o d12 (.ld1 r11)),
 w (.o d13 (.call 87 [r12])),
 q 1 (o d7 (.fad 0 r3)),
 q 1 (o d8 (.ld1 r7)),
 q 0 (o d14 (.bin .le r8 r13)),
 q 0 (m d15 r14),
 q 0 (.g .h0 .hf false d16 (.op (.fad 0 r3))),
 q 0 (.g .h0 .hf false d17 (.op (.ld1 r16))),
 q 0 (.g .h0 .hf false d18 (.op (.mv r0))),
 q 0 (.g .h0 .hf false d19 (.op (.nilc r18))),
 q 0 (.g .h0 .hf false d20 (.op (.fad 13 r19))),
 q 0 (.g .h0 .hf false d21 (.op (.fad 0 r20))),
 q 0 (.g .h0 .hf false d22 (.op (.ld1 r21))),
 q 0 (.g .h0 .hf false d23 (.op (.bin .le r17 r22))),
 q 0 (o d24 (.pick r15 (.c (.bool true)) r23))]) (.shal k98_1 .skip)) (.seq (.drw [q 0 (m d25 r0),
 q 0 (o d27 (.ldn 4 r3)),
 q 0 (o d30 (.nilc r25)),
 q 0 (o d31 (.fad 13 r30)),
 w (o .no (.stn 4 r31 r27)),
 q 1 (m d26 r0),
 q 1 (o d28 (.fad 1 r3)),
 q 1 (o d29 (.ld1 r28)),
 q 0 (o d32 (.nilc r26)),
 q 0 (o d33 (.fad 12 r32)),
 w (o .no (.st1 r33 r29))]) (.shal k98_2 (.seq (.shal k98_3 (.join (.block 0 (.loop (.seq (.ops [.o d41 (.nxt false r40),
 o d42 (.ext 0 r41)]) (.shal k98_4 .skip)))))) (.shal k98_5 (.shal k98_6 .skip)))))))
def z98 : List Rs := [.t .h0 .h4]
def f98 : AF := .mk x98 z98
def k99_0 : KF := fun c i x r h => (fun (x0 x1 : AV) =>
 tT (c 151 [] h) fun v2 h3 =>
 tT (c 152 [v2,x0] h3) fun v4 h5 =>
 tT (AV.onFn x1 (fun f l => c f (List.append [v2] l) h5) (.err 202)) fun v6 h7 =>
 tT (c 154 [v2] h7) fun v8 h9 =>
 tT (c 153 [v8] h9) fun v10 h11 =>
 .ret (T12 v10) h11) (y0 r) (y1 r)
def x99 : AC := (.shal k99_0 .skip)
def z99 : List Rs := [.t .h0 .h4]
def f99 : AF := .mk x99 z99
def k100_0 : KF := fun c i x r h => (fun (x0 x1 : AV) =>
 tR (ld x1 h) fun v2 h3 =>
 tR (nic v2 h3) fun v4 h5 =>
 tR (fa 6 v4 h5) fun v6 h7 =>
 tR (ld v6 h7) fun v8 h9 =>
 tT (c 85 [x0,v8] h9) fun v10 h11 =>
 .nm T26 h11) (y0 r) (y1 r)
def x100 : AC := (.shal k100_0 .skip)
def z100 : List Rs := []
def f100 : AF := .mk x100 z100
def k101_0 : KF := fun c i x r h => (fun (x0 x1 : AV) =>
 tR (ld x1 h) fun v2 h3 =>
 tR (nic v2 h3) fun v4 h5 =>
 tR (fa 13 v4 h5) fun v6 h7 =>
 tR (o_ldn 4 (.c v6) .nil h7) fun v8 h9 =>
 tT (c 102 [x0,v8] h9) fun v10 h11 =>
 .nm T26 h11) (y0 r) (y1 r)
def x101 : AC := (.shal k101_0 .skip)
def z101 : List Rs := []
def f101 : AF := .mk x101 z101
def k102_2 : KF := fun c i x r h => (fun (x36 x37 x38 x39 x40 : AV) =>
 tR (b_lt x40 x39 h) fun v41 h42 =>
 ifR v41 (tR (ix 3 x38 x40 h42) fun v43 h44 =>
 tR (o_ldn 3 (.c v43) .nil h44) fun v45 h46 =>
 tR (o_alloc 125 3 (.k1 (.mk (pi 0) (pi 0) (pi 0) .undef .undef .undef .undef .undef .undef .undef .undef .undef .undef .undef .undef .undef)) .nil h46) fun v47 h48 =>
 tR (o_stn 3 (.c v47) (.c v45) .nil h48) fun v49 h50 =>
 tR (o_ldn 3 (.c v47) .nil h50) fun v51 h52 =>
 tT (c 158 [x36,v51] h52) fun v53 h54 =>
 tR (fa 2 x37 h54) fun v55 h56 =>
 tR (ld v55 h56) fun v57 h58 =>
 tR (o_ldn 3 (.c v47) .nil h58) fun v59 h60 =>
 tR (lkp (.agg [.i,.i,.i]) (pi 0) false v57 v59 h60) fun v61 h62 =>
 tT (c 85 [x36,v61] h62) fun v63 h64 =>
 tR (b_add x40 (pi 1) h64) fun v65 h66 =>
 .nm (T85 x36 x37 x38 x39 v65) h66) (.ex 0 (T85 x36 x37 x38 x39 x40) h42)) (y0 r) (y3 r) (y23 r) (y24 r) (y25 r)
def k102_1 : KF := fun c i x r h => (fun (x24 x25 : AV) =>
 tR (fa 2 x25 h) fun v26 h27 =>
 tR (ld v26 h27) fun v28 h29 =>
 tT (c 156 [v28] h29) fun v30 h31 =>
 tT (c 155 [v30,(.fn 157 [x25])] h31) fun v32 h33 =>
 tR (len v32 h33) fun v34 h35 =>
 x (T85 x24 x25 v32 v34 (pi 0)) h35) (y0 r) (y3 r)
def k102_3 : KF := fun c i x r h => (fun (x67 x68 : AV) =>
 tR (fa 3 x68 h) fun v69 h70 =>
 tR (ld v69 h70) fun v71 h72 =>
 tT (c 105 [x67,v71] h72) fun v73 h74 =>
 .nm T26 h74) (y0 r) (y3 r)
def k102_0 : KF := fun c i x r h => (fun (x0 x1 : AV) =>
 tR (o_box 97 (.c x1) .nil h) fun v2 h3 =>
 tR (fa 0 v2 h3) fun v4 h5 =>
 tR (ld v4 h5) fun v6 h7 =>
 tT (c 85 [x0,v6] h7) fun v8 h9 =>
 tR (fa 1 v2 h9) fun v10 h11 =>
 tR (ld v10 h11) fun v12 h13 =>
 tT (c 85 [x0,v12] h13) fun v14 h15 =>
 tR (fa 2 v2 h15) fun v16 h17 =>
 tR (ld v16 h17) fun v18 h19 =>
 tR (o_lenm (.c v18) .nil h19) fun v20 h21 =>
 tT (c 85 [x0,v20] h21) fun v22 h23 =>
 x (T8 x0 v2) h23) (y0 r) (y1 r)
def x102 : AC := (.shal k102_0 (.seq (.shal k102_1 (.block 0 (.loop (.shal k102_2 .skip)))) (.shal k102_3 .skip)))
def z102 : List Rs := []
def f102 : AF := .mk x102 z102
def k103_0 : KF := fun c i x r h => (fun (x0 x1 : AV) =>
 tR (fa 1 x1 h) fun v2 h3 =>
 tR (o_ldn 2 (.c v2) .nil h3) fun v4 h5 =>
 tT (c 104 [x0,v4] h5) fun v6 h7 =>
 tR (fa 0 x1 h7) fun v8 h9 =>
 tR (ld v8 h9) fun v10 h11 =>
 tT (c 85 [x0,v10] h11) fun v12 h13 =>
 tR (fa 3 x1 h13) fun v14 h15 =>
 tR (ld v14 h15) fun v16 h17 =>
 tT (c 105 [x0,v16] h17) fun v18 h19 =>
 .nm T26 h19) (y0 r) (y1 r)
def x103 : AC := (.shal k103_0 .skip)
def z103 : List Rs := []
def f103 : AF := .mk x103 z103
def k104_0 : KF := fun c i x r h => (fun (x0 x1 : AV) =>
 tR (o_box 129 (.c x1) .nil h) fun v2 h3 =>
 tR (fa 0 v2 h3) fun v4 h5 =>
 tR (ld v4 h5) fun v6 h7 =>
 tT (c 85 [x0,v6] h7) fun v8 h9 =>
 tR (fa 1 v2 h9) fun v10 h11 =>
 tR (ld v10 h11) fun v12 h13 =>
 tT (c 85 [x0,v12] h13) fun v14 h15 =>
 .nm T26 h15) (y0 r) (y1 r)
def x104 : AC := (.shal k104_0 .skip)
def z104 : List Rs := []
def f104 : AF := .mk x104 z104
def k105_1 : KF := fun c i x r h => (fun (x6 x7 : AV) =>
 tR (lent x7 h) fun v8 h9 =>
 tR (b_gt v8 (pi 0) h9) fun v10 h11 =>
 ifR v10 (tR (lent x7 h11) fun v12 h13 =>
 tR (maxV true [v12,(pi 65535)] h13) fun v14 h15 =>
 tR (o_slcs (.c x7) .none (.some (.c v14)) .nil h15) fun v16 h17 =>
 tT (c 159 [x6,v16] h17) fun v18 h19 =>
 tR (o_slcs (.c x7) (.some (.c v14)) .none .nil h19) fun v20 h21 =>
 .nm (T13 x6 v20) h21) (.ex 0 (T13 x6 x7) h11)) (y0 r) (y1 r)
def k105_0 : KF := fun c i x r h => (fun (x0 x1 : AV) =>
 tR (lent x1 h) fun v2 h3 =>
 tT (c 85 [x0,v2] h3) fun v4 h5 =>
 x (T13 x0 x1) h5) (y0 r) (y1 r)
def x105 : AC := (.shal k105_0 (.block 0 (.loop (.shal k105_1 .skip))))
def z105 : List Rs := []
def f105 : AF := .mk x105 z105
def k106_0 : KF := fun c i x r h => (fun (x0 x1 : AV) =>
 tR (ld x1 h) fun v2 h3 =>
 tR (nic v2 h3) fun v4 h5 =>
 tR (fa 7 v4 h5) fun v6 h7 =>
 tR (ld v6 h7) fun v8 h9 =>
 tT (c 107 [v8] h9) fun v10 h11 =>
 tT (c 104 [x0,v10] h11) fun v12 h13 =>
 .nm T26 h13) (y0 r) (y1 r)
def x106 : AC := (.shal k106_0 .skip)
def z106 : List Rs := []
def f106 : AF := .mk x106 z106
def k107_0 : KF := fun c i x r h => (fun (x0 : AV) =>
 tR (o_alloc 129 2 (.k1 (.mk (pi 0) (pi 0) .undef .undef .undef .undef .undef .undef .undef .undef .undef .undef .undef .undef .undef .undef)) .nil h) fun v1 h2 =>
 tR (nic x0 h2) fun v3 h4 =>
 tR (fa 0 v3 h4) fun v5 h6 =>
 tR (o_ldn 2 (.c v5) .nil h6) fun v7 h8 =>
 tR (o_stn 2 (.c v1) (.c v7) .nil h8) fun v9 h10 =>
 .ret (T20 v1) h10) (y0 r)
def x107 : AC := (.shal k107_0 .skip)
def z107 : List Rs := [.agg 2 .h0 .h2]
def f107 : AF := .mk x107 z107
def k108_4 : KF := fun c i x r h => (fun (x47 x48 x49 : AV) =>
 tR (b_add x49 (pi 1) h) fun v50 h51 =>
 .nm (T27 x47 x48 v50) h51) (y0 r) (y5 r) (y6 r)
def k108_3 : KF := fun c i x r h => (fun (x26 x27 x28 : AV) =>
 tR (nic x26 h) fun v29 h30 =>
 tR (fa 9 v29 h30) fun v31 h32 =>
 tR (ld v31 h32) fun v33 h34 =>
 tT (c 90 [v33,x28] h34) fun v35 h36 =>
 tR (o_ext 0 (.c v35) .nil h36) fun v37 h38 =>
 tR (o_ext 1 (.c v35) .nil h38) fun v39 h40 =>
 ifR v39 (tR (o_build [(pi 0),(pi 0),(pi 0),(.str [])] [.mk 0 1 (.c x28),.mk 3 1 (.c v37)] .nil h40) fun v41 h42 =>
 tR (o_bslice 138 4 1 [(pi 0),(pi 0),(pi 0),(.str [])] [.mk 0 4 (.c v41)] .nil h42) fun v43 h44 =>
 tR (appV 138 4 x27 v43 h44) fun v45 h46 =>
 x (T27 x26 v45 x28) h46) (x (T27 x26 x27 x28) h40)) (y0 r) (y5 r) (y6 r)
def k108_2 : KF := fun c i x r h => (fun (x15 x16 x17 : AV) =>
 tR (nic x15 h) fun v18 h19 =>
 tR (fa 10 v18 h19) fun v20 h21 =>
 tR (ld v20 h21) fun v22 h23 =>
 tR (b_lt x17 v22 h23) fun v24 h25 =>
 ifR v24 (x (T27 x15 x16 x17) h25) (.ex 0 (T23 x16) h25)) (y0 r) (y5 r) (y6 r)
def k108_1 : KF := fun c i x r h => (fun (x2 x3 x4 : AV) =>
 tR (nic x2 h) fun v5 h6 =>
 tR (fa 13 v5 h6) fun v7 h8 =>
 tR (fa 0 v7 h8) fun v9 h10 =>
 tR (ld v9 h10) fun v11 h12 =>
 tR (maxV false [x3,v11] h12) fun v13 h14 =>
 x (T27 x2 x4 v13) h14) (y0 r) (y1 r) (y5 r)
def k108_5 : KF := fun c i x r h => (fun (x52 : AV) =>
 .ret (T12 x52) h) (y5 r)
def k108_0 : KF := fun c i x r h => (fun (x0 x1 : AV) =>
 x (T19 x0 x1 .nils) h) (y0 r) (y1 r)
def x108 : AC := (.shal k108_0 (.seq (.shal k108_1 (.block 0 (.loop (.shal k108_2 (.shal k108_3 (.shal k108_4 .skip)))))) (.shal k108_5 .skip)))
def z108 : List Rs := [.t .h0 .h4]
def f108 : AF := .mk x108 z108
def k109_0 : KF := fun c i x r h => (fun (x0 x1 : AV) =>
 tR (nic x0 h) fun v2 h3 =>
 tR (fa 7 v2 h3) fun v4 h5 =>
 tR (ld v4 h5) fun v6 h7 =>
 tT (c 147 [v6,x1] h7) fun v8 h9 =>
 tR (o_ext 0 (.c v8) .nil h9) fun v10 h11 =>
 tR (o_ext 1 (.c v8) .nil h11) fun v12 h13 =>
 tR (o_alloc 138 4 (.k1 (.mk (pi 0) (pi 0) (pi 0) (.str []) .undef .undef .undef .undef .undef .undef .undef .undef .undef .undef .undef .undef)) .nil h13) fun v14 h15 =>
 tR (o_stn 4 (.c v14) (.c v10) .nil h15) fun v16 h17 =>
 .ret (T12 v12) h17) (y0 r) (y1 r)
def x109 : AC := (.shal k109_0 .skip)
def z109 : List Rs := [.t .h0 .h4]
def f109 : AF := .mk x109 z109
def k110_0 : KF := fun c i x r h => (fun (x0 x1 : AV) =>
 tR (o_box 3 (.c x0) .nil h) fun v2 h3 =>
 tR (o_box 138 (.c x1) .nil h3) fun v4 h5 =>
 tR (ld v2 h5) fun v6 h7 =>
 tT (c 99 [v6,(.fn 160 [v4,v2])] h7) fun v8 h9 =>
 .ret (T32 v8) h9) (y1 r) (y2 r)
def x110 : AC := (.shal k110_0 .skip)
def z110 : List Rs := [.t .h0 .h6]
def f110 : AF := .mk x110 z110
def k111_0 : KF := fun c i x r h => (fun (x0 x1 : AV) =>
 tR (len x1 h) fun v2 h3 =>
 tR (b_gt v2 (pi 4194304) h3) fun v4 h5 =>
 ifR v4 (.ret (T12 (pi 13)) h5) (tT (c 92 [x1] h5) fun v6 h7 =>
 tR (nic x0 h7) fun v8 h9 =>
 tR (fa 0 v8 h9) fun v10 h11 =>
 tR (sto v10 v6 h11) fun v12 h13 =>
 tR (nic x0 h13) fun v14 h15 =>
 tR (fa 0 v14 h15) fun v16 h17 =>
 tR (ld v16 h17) fun v18 h19 =>
 tR (len v18 h19) fun v20 h21 =>
 tR (nic x0 h21) fun v22 h23 =>
 tR (fa 1 v22 h23) fun v24 h25 =>
 tR (sto v24 v20 h25) fun v26 h27 =>
 .ret (T12 (pi 0)) h27)) (y0 r) (y1 r)
def x111 : AC := (.shal k111_0 .skip)
def z111 : List Rs := [.t .h0 .h4]
def f111 : AF := .mk x111 z111
def k112_3 : KF := fun c i x r h => (fun (x16 x17 x18 : AV) =>
 tR (nic x16 h) fun v19 h20 =>
 tR (fa 1 v19 h20) fun v21 h22 =>
 tR (ld v21 h22) fun v23 h24 =>
 tR (b_add v23 (pi 1) h24) fun v25 h26 =>
 tR (nic x16 h26) fun v27 h28 =>
 tR (fa 1 v27 h28) fun v29 h30 =>
 tR (sto v29 v25 h30) fun v31 h32 =>
 .nm (T43 x16 x17 x18) h32) (y0 r) (y3 r) (y4 r)
def k112_2 : KF := fun c i x r h => (fun (x5 x6 x7 : AV) =>
 tR (nic x5 h) fun v8 h9 =>
 tR (fa 1 v8 h9) fun v10 h11 =>
 tR (ld v10 h11) fun v12 h13 =>
 tR (b_lt v12 x7 h13) fun v14 h15 =>
 ifR v14 (x (T43 x5 x6 x7) h15) (.ex 0 (T86 x6) h15)) (y0 r) (y3 r) (y4 r)
def k112_1 : KF := fun c i x r h => (fun (x1 x2 : AV) =>
 tT (c 53 [x1] h) fun v3 h4 =>
 x (T43 x1 x2 v3) h4) (y0 r) (y3 r)
def k112_4 : KF := fun c i x r h => (fun (x33 : AV) =>
 .ret (T20 x33) h) (y3 r)
def k112_0 : KF := fun c i x r h => (fun (x0 : AV) =>
 x (T8 x0 .nils) h) (y0 r)
def x112 : AC := (.shal k112_0 (.seq (.shal k112_1 (.block 0 (.loop (.shal k112_2 (.seq (.block 1 (.drw [q 0 (m d21 r0),
 q 0 (o d22 (.nilc r21)),
 q 0 (o d23 (.fad 0 r22)),
 q 0 (o d24 (.ld1 r23)),
 q 0 (m d25 r0),
 q 0 (o d26 (.nilc r25)),
 q 0 (o d27 (.fad 1 r26)),
 q 0 (o d28 (.ld1 r27)),
 q 0 (o d29 (.lkp (.one .i) (.str []) false r24 r28)),
 w (o d30 (.bslice 9 1 1 [(.str [])] [.mk 0 1 r29])),
 q 1 (m d20 r3),
 w (o d31 (.app 9 1 r20 r30)),
 q 0 (m d3 r31)])) (.shal k112_3 .skip)))))) (.shal k112_4 .skip)))
def z112 : List Rs := [.t .h0 .h2]
def f112 : AF := .mk x112 z112
def k113_1 : KF := fun c i x r h => (fun (x15 x16 x17 x18 x19 x20 : AV) =>
 ifR x20 (.ret T26 h) (.nm (T87 x15 x16 x17 x18 x19) h)) (y0 r) (y1 r) (y6 r) (y7 r) (y8 r) (y10 r)
def k113_5 : KF := fun c i x r h => (fun (x104 x105 x106 : AV) =>
 tQ (nic x104 h) fun v107 =>
 tQ (fa 0 v107 h) fun v108 =>
 tQ (ld v108 h) fun v109 =>
 tQ (nic v109 h) fun v110 =>
 tQ (fa 2 v110 h) fun v111 =>
 tQ (ld v111 h) fun v112 =>
 tQ (nic x104 h) fun v113 =>
 tQ (fa 1 v113 h) fun v114 =>
 tQ (ld v114 h) fun v115 =>
 tQ (nic x104 h) fun v116 =>
 tQ (fa 12 v116 h) fun v117 =>
 tQ (ld v117 h) fun v118 =>
 tQ (b_sub v118 (pi 1) h) fun v119 =>
 tQ (nic v112 h) fun v120 =>
 tX (i 4 v112 [v115,v119,x105,x106] h) fun v121 h122 =>
 .nm T26 h122) (y0 r) (y8 r) (y12 r)
def k113_4 : KF := fun c i x r h => (fun (x75 x76 x77 x78 x79 : AV) =>
 tQ (nic x75 h) fun v80 =>
 tQ (fa 11 v80 h) fun v81 =>
 tQ (ld v81 h) fun v82 =>
 tQ (o_ldn 3 (.c x77) .nil h) fun v83 =>
 tQ (nic x75 h) fun v84 =>
 tQ (fa 12 v84 h) fun v85 =>
 tQ (ld v85 h) fun v86 =>
 tQ (o_build [(pi 0),(pi 0)] [.mk 0 1 (.c x76),.mk 1 1 (.c v86)] .nil h) fun v87 =>
 tX (RV.toT (mup (.agg [.i,.i,.i]) v82 v83 v87 h)) fun v88 h89 =>
 tR (nic x75 h89) fun v90 h91 =>
 tR (fa 12 v90 h91) fun v92 h93 =>
 tR (ld v92 h93) fun v94 h95 =>
 tR (b_add v94 (pi 1) h95) fun v96 h97 =>
 tR (nic x75 h97) fun v98 h99 =>
 tR (fa 12 v98 h99) fun v100 h101 =>
 tR (sto v100 v96 h101) fun v102 h103 =>
 x (T90 x75 x78 x79) h103) (y0 r) (y1 r) (y6 r) (y8 r) (y12 r)
def k113_3 : KF := fun c i x r h => (fun (x44 x45 x46 x47 x48 x49 x50 : AV) =>
 ifR x47 (tQ (nic x44 h) fun v51 =>
 tQ (fa 11 v51 h) fun v52 =>
 tQ (ld v52 h) fun v53 =>
 tQ (o_ldn 3 (.c x46) .nil h) fun v54 =>
 tQ (o_build [(pi 0),(pi 0)] [.mk 0 1 (.c x45),.mk 1 1 (.c (ni 0))] .nil h) fun v55 =>
 tX (RV.toT (mup (.agg [.i,.i,.i]) v53 v54 v55 h)) fun v56 h57 =>
 ifR x50 (tQ (nic x44 h57) fun v58 =>
 tQ (fa 0 v58 h57) fun v59 =>
 tQ (ld v59 h57) fun v60 =>
 tQ (nic v60 h57) fun v61 =>
 tQ (fa 2 v61 h57) fun v62 =>
 tQ (ld v62 h57) fun v63 =>
 tQ (nic x44 h57) fun v64 =>
 tQ (fa 1 v64 h57) fun v65 =>
 tQ (ld v65 h57) fun v66 =>
 tQ (nic x44 h57) fun v67 =>
 tQ (fa 12 v67 h57) fun v68 =>
 tQ (ld v68 h57) fun v69 =>
 tQ (fa 4 x49 h57) fun v70 =>
 tQ (ld v70 h57) fun v71 =>
 tQ (nic v63 h57) fun v72 =>
 tX (i 3 v63 [v66,v69,v71] h57) fun v73 h74 =>
 .ret T26 h74) (.ret T26 h57)) (x (T89 x44 x45 x46 x48 x50) h)) (y0 r) (y1 r) (y6 r) (y7 r) (y8 r) (y11 r) (y12 r)
def k113_2 : KF := fun c i x r h => (fun (x21 x22 x23 x24 x25 : AV) =>
 tR (o_ldn 3 (.c x23) .nil h) fun v26 h27 =>
 tT (c 138 [x21,v26] h27) fun v28 h29 =>
 tR (o_ext 0 (.c v28) .nil h29) fun v30 h31 =>
 tR (o_ext 1 (.c v28) .nil h31) fun v32 h33 =>
 tR (o_alloc 127 6 (.k1 (.mk (pi 0) (pi 0) (pi 0) (.bool false) (.str []) (pi 0) .undef .undef .undef .undef .undef .undef .undef .undef .undef .undef)) .nil h33) fun v34 h35 =>
 tR (o_stn 6 (.c v34) (.c v30) .nil h35) fun v36 h37 =>
 tR (nic x21 h37) fun v38 h39 =>
 tR (fa 22 v38 h39) fun v40 h41 =>
 tR (sto v40 (pi 0) h41) fun v42 h43 =>
 x (T88 x21 x22 x23 x24 x25 v34 v32) h43) (y0 r) (y1 r) (y6 r) (y7 r) (y8 r)
def k113_0 : KF := fun c i x r h => (fun (x0 x1 x2 : AV) =>
 tT (c 161 [x2] h) fun v3 h4 =>
 tR (o_ext 0 (.c v3) .nil h4) fun v5 h6 =>
 tR (o_ext 1 (.c v3) .nil h6) fun v7 h8 =>
 tR (o_ext 2 (.c v3) .nil h8) fun v9 h10 =>
 tR (o_alloc 125 3 (.k1 (.mk (pi 0) (pi 0) (pi 0) .undef .undef .undef .undef .undef .undef .undef .undef .undef .undef .undef .undef .undef)) .nil h10) fun v11 h12 =>
 tR (o_stn 3 (.c v11) (.c v5) .nil h12) fun v13 h14 =>
 x (T87 x0 x1 v11 v7 v9) h14) (y0 r) (y1 r) (y2 r)
def x113 : AC := (.shal k113_0 (.seq (.seq (.drw [w (o d9 (.alloc 146 2 (.k1 (.mk (pi 0) (pi 0) .undef .undef .undef .undef .undef .undef .undef .undef .undef .undef .undef .undef .undef .undef)))),
 q 1 (m d20 r0),
 q 1 (o d21 (.nilc r20)),
 q 1 (o d22 (.fad 11 r21)),
 q 1 (o d23 (.ld1 r22)),
 q 1 (o d24 (.ldn 3 r6)),
 q 1 (o d25 (.lkp (.agg [.i,.i,.i]) (.agg [(pi 0),(pi 0)]) true r23 r24)),
 q 1 (m d19 r25),
 q 1 (o d26 (.ext 0 r19)),
 w (o .no (.stn 2 r9 r26)),
 q 2 (o d27 (.ext 1 r19)),
 q 0 (m d10 r27)]) (.shal k113_1 .skip)) (.shal k113_2 (.shal k113_3 (.shal k113_4 (.shal k113_5 .skip))))))
def z113 : List Rs := []
def f113 : AF := .mk x113 z113
def k114_1 : KF := fun c i x r h => (fun (x27 x28 x29 x30 x31 : AV) =>
 ifR x31 (.ret T26 h) (.nm (T41 x27 x28 x29 x30) h)) (y0 r) (y1 r) (y2 r) (y6 r) (y31 r)
def k114_4 : KF := fun c i x r h => (fun (x63 x64 x65 x66 : AV) =>
 tR (o_ldn 2 (.c x66) .nil h) fun v67 h68 =>
 tT (c 142 [x63,v67,x64,x65] h68) fun v69 h70 =>
 .nm T26 h70) (y0 r) (y1 r) (y2 r) (y6 r)
def k114_3 : KF := fun c i x r h => (fun (x48 x49 x50 x51 : AV) =>
 tQ (nic x48 h) fun v52 =>
 tQ (fa 8 v52 h) fun v53 =>
 tQ (ld v53 h) fun v54 =>
 tQ (nic x48 h) fun v55 =>
 tQ (fa 1 v55 h) fun v56 =>
 tQ (ld v56 h) fun v57 =>
 tQ (o_ldn 2 (.c x51) .nil h) fun v58 =>
 tX (c 130 [v54,v57,v58,x49] h) fun v59 h60 =>
 ifR v59 (tT (c 132 [x48,x49,x50] h60) fun v61 h62 =>
 x (T41 x48 x49 x50 x51) h62) (x (T41 x48 x49 x50 x51) h60)) (y0 r) (y1 r) (y2 r) (y6 r)
def k114_2 : KF := fun c i x r h => (fun (x32 x33 x34 x35 : AV) =>
 tR (o_ldn 2 (.c x35) .nil h) fun v36 h37 =>
 tT (c 128 [x32,v36,x33,x34] h37) fun v38 h39 =>
 tR (u_not v38 h39) fun v40 h41 =>
 ifR v40 (tR (nic x32 h41) fun v42 h43 =>
 tR (fa 19 v42 h43) fun v44 h45 =>
 tR (sto v44 (pi 0) h45) fun v46 h47 =>
 .ret T26 h47) (x (T41 x32 x33 x34 x35) h41)) (y0 r) (y1 r) (y2 r) (y6 r)
def k114_0 : KF := fun c i x r h => (fun (x0 x1 x2 : AV) =>
 tR (nic x0 h) fun v3 h4 =>
 tR (fa 8 v3 h4) fun v5 h6 =>
 tR (ld v5 h6) fun v7 h8 =>
 tT (c 126 [v7] h8) fun v9 h10 =>
 tR (o_alloc 129 2 (.k1 (.mk (pi 0) (pi 0) .undef .undef .undef .undef .undef .undef .undef .undef .undef .undef .undef .undef .undef .undef)) .nil h10) fun v11 h12 =>
 tR (o_stn 2 (.c v11) (.c v9) .nil h12) fun v13 h14 =>
 tR (nic x0 h14) fun v15 h16 =>
 tR (fa 8 v15 h16) fun v17 h18 =>
 tR (ld v17 h18) fun v19 h20 =>
 tT (c 131 [v19,x1,x2] h20) fun v21 h22 =>
 tR (o_ext 0 (.c v21) .nil h22) fun v23 h24 =>
 tR (o_ext 1 (.c v21) .nil h24) fun v25 h26 =>
 x (T91 x0 x1 v23 v11 v25) h26) (y0 r) (y1 r) (y2 r)
def x114 : AC := (.shal k114_0 (.seq (.seq (.ops [m d23 r7,
 o d24 (.un .not r23),
 m d25 r24,
 .g .h1 .h9 false d26 (.op (.mv r0)),
 .g .h1 .h9 false d27 (.op (.nilc r26)),
 .g .h1 .h9 false d28 (.op (.fad 19 r27)),
 .g .h1 .h9 false d29 (.op (.ld1 r28)),
 .g .h1 .h9 false d30 (.op (.bin .ne r29 (.c (pi 2)))),
 o d31 (.pick r25 (.c (.bool true)) r30)]) (.shal k114_1 .skip)) (.shal k114_2 (.shal k114_3 (.shal k114_4 .skip)))))
def z114 : List Rs := []
def f114 : AF := .mk x114 z114
def k115_1 : KF := fun c i x r h => (fun (x19 x20 : AV) =>
 tR (fa 3 x19 h) fun v21 h22 =>
 tR (ld v21 h22) fun v23 h24 =>
 ifR v23 (tT (c 154 [x20] h24) fun v25 h26 =>
 tR (cK .b2s v25 h26) fun v27 h28 =>
 .ret (T20 v27) h28) (x (T18 x19 x20) h24)) (y1 r) (y3 r)
def k115_0 : KF := fun c i x r h => (fun (x0 : AV) =>
 tR (o_box 127 (.c x0) .nil h) fun v1 h2 =>
 tT (c 151 [] h2) fun v3 h4 =>
 tR (fa 0 v1 h4) fun v5 h6 =>
 tR (o_ldn 3 (.c v5) .nil h6) fun v7 h8 =>
 tT (c 158 [v3,v7] h8) fun v9 h10 =>
 tR (fa 3 v1 h10) fun v11 h12 =>
 tR (ld v11 h12) fun v13 h14 =>
 ifR v13 (tT (c 152 [v3,(pi 1)] h14) fun v15 h16 =>
 x (T18 v1 v3) h16) (tT (c 152 [v3,(pi 0)] h14) fun v17 h18 =>
 x (T18 v1 v3) h18)) (y0 r)
def x115 : AC := (.shal k115_0 (.shal k115_1 (.seq (.drw [q 0 (m d20 r3),
 w (.o d21 (.call 154 [r20])),
 q 0 (o d22 (.conv .b2s r21)),
 q 1 (o d23 (.fad 4 r1)),
 q 1 (o d24 (.ld1 r23)),
 q 0 (o d25 (.bin .cat r22 r24)),
 q 0 (m d2 r25)]) .ret)))
def z115 : List Rs := [.t .h0 .h2]
def f115 : AF := .mk x115 z115
def k116_2 : KF := fun c i x r h => (fun (x66 x67 : AV) =>
 tR (nic x66 h) fun v68 h69 =>
 tR (fa 3 v68 h69) fun v70 h71 =>
 tR (o_ldn 2 (.c v70) .nil h71) fun v72 h73 =>
 tR (o_stn 2 (.c x67) (.c v72) .nil h73) fun v74 h75 =>
 .ret (T12 x67) h75) (y0 r) (y4 r)
def k116_1 : KF := fun c i x r h => (fun (x31 x32 x33 : AV) =>
 tR (maxV false [x32,(pi 0)] h) fun v34 h35 =>
 tR (nic x31 h35) fun v36 h37 =>
 tR (fa 5 v36 h37) fun v38 h39 =>
 tR (sto v38 v34 h39) fun v40 h41 =>
 tR (o_mkmap .nil h41) fun v42 h43 =>
 tR (nic x31 h43) fun v44 h45 =>
 tR (fa 6 v44 h45) fun v46 h47 =>
 tR (sto v46 v42 h47) fun v48 h49 =>
 tR (o_mkmap .nil h49) fun v50 h51 =>
 tR (nic x31 h51) fun v52 h53 =>
 tR (fa 7 v52 h53) fun v54 h55 =>
 tR (sto v54 v50 h55) fun v56 h57 =>
 tR (o_mkmap .nil h57) fun v58 h59 =>
 tR (nic x31 h59) fun v60 h61 =>
 tR (fa 8 v60 h61) fun v62 h63 =>
 tR (sto v62 v58 h63) fun v64 h65 =>
 x (T35 x31 x33) h65) (y0 r) (y1 r) (y4 r)
def k116_0 : KF := fun c i x r h => (fun (x0 x1 : AV) =>
 tR (o_alloc 129 2 (.k1 (.mk (pi 0) (pi 0) .undef .undef .undef .undef .undef .undef .undef .undef .undef .undef .undef .undef .undef .undef)) .nil h) fun v2 h3 =>
 tR (nic x0 h3) fun v4 h5 =>
 tR (fa 2 v4 h5) fun v6 h7 =>
 tR (ld v6 h7) fun v8 h9 =>
 tR (maxV true [v8,(pi 1073741823)] h9) fun v10 h11 =>
 tR (b_add v10 (pi 1) h11) fun v12 h13 =>
 tR (nic x0 h13) fun v14 h15 =>
 tR (fa 2 v14 h15) fun v16 h17 =>
 tR (sto v16 v12 h17) fun v18 h19 =>
 tQ (nic x0 h19) fun v20 =>
 tQ (fa 2 v20 h19) fun v21 =>
 tQ (ld v21 h19) fun v22 =>
 tQ (nic x0 h19) fun v23 =>
 tQ (fa 0 v23 h19) fun v24 =>
 tQ (ld v24 h19) fun v25 =>
 tQ (o_build [(pi 0),(pi 0)] [.mk 0 1 (.c v22),.mk 1 1 (.c v25)] .nil h19) fun v26 =>
 tQ (nic x0 h19) fun v27 =>
 tQ (fa 3 v27 h19) fun v28 =>
 tX (RV.toT (o_stn 2 (.c v28) (.c v26) .nil h19)) fun v29 h30 =>
 x (T92 x0 x1 v2) h30) (y0 r) (y1 r)
def x116 : AC := (.shal k116_0 (.shal k116_1 (.shal k116_2 .skip)))
def z116 : List Rs := [.agg 2 .h0 .h4]
def f116 : AF := .mk x116 z116
def k117_0 : KF := fun c i x r h => (fun (x0 x1 x2 x3 : AV) =>
 tR (o_ldn 2 (.c x1) .nil h) fun v4 h5 =>
 tT (c 104 [x0,v4] h5) fun v6 h7 =>
 tR (ld x2 h7) fun v8 h9 =>
 tT (c 85 [x0,v8] h9) fun v10 h11 =>
 tR (ld x3 h11) fun v12 h13 =>
 tR (nic v12 h13) fun v14 h15 =>
 tR (fa 6 v14 h15) fun v16 h17 =>
 tR (ld v16 h17) fun v18 h19 =>
 tT (c 85 [x0,v18] h19) fun v20 h21 =>
 .nm T26 h21) (y0 r) (y1 r) (y2 r) (y3 r)
def x117 : AC := (.shal k117_0 .skip)
def z117 : List Rs := []
def f117 : AF := .mk x117 z117
def k118_0 : KF := fun c i x r h => (fun (x0 x1 : AV) =>
 ifR x1 (.ret T26 h) (.nm (T1 x0) h)) (y0 r) (y31 r)
def k118_4 : KF := fun c i x r h => (fun (x53 x54 x55 x56 : AV) =>
 tR (b_lt x56 x55 h) fun v57 h58 =>
 ifR v57 (tR (ix 1 x54 x56 h58) fun v59 h60 =>
 tR (ld v59 h60) fun v61 h62 =>
 tR (nic x53 h62) fun v63 h64 =>
 tR (fa 21 v63 h64) fun v65 h66 =>
 tR (ld v65 h66) fun v67 h68 =>
 tR (b_add v61 (pi 1) h68) fun v69 h70 =>
 tR (maxV false [v67,v69] h70) fun v71 h72 =>
 tR (nic x53 h72) fun v73 h74 =>
 tR (fa 21 v73 h74) fun v75 h76 =>
 tR (sto v75 v71 h76) fun v77 h78 =>
 tR (b_add x56 (pi 1) h78) fun v79 h80 =>
 .nm (T93 x53 x54 x55 v79) h80) (.ex 0 (T93 x53 x54 x55 x56) h58)) (y0 r) (y84 r) (y85 r) (y86 r)
def k118_3 : KF := fun c i x r h => (fun (x42 : AV) =>
 tR (nic x42 h) fun v43 h44 =>
 tR (fa 8 v43 h44) fun v45 h46 =>
 tR (ld v45 h46) fun v47 h48 =>
 tT (c 141 [v47] h48) fun v49 h50 =>
 tR (len v49 h50) fun v51 h52 =>
 x (T93 x42 v49 v51 (pi 0)) h52) (y0 r)
def k118_6 : KF := fun c i x r h => (fun (x102 x103 x104 : AV) =>
 tR (b_add x103 (pi 1) h) fun v105 h106 =>
 .nm (T94 x102 v105 x104) h106) (y0 r) (y7 r) (y8 r)
def k118_5 : KF := fun c i x r h => (fun (x81 x82 x83 : AV) =>
 tR (b_lt x82 x83 h) fun v84 h85 =>
 ifR v84 (tR (nic x81 h85) fun v86 h87 =>
 tR (fa 9 v86 h87) fun v88 h89 =>
 tR (ld v88 h89) fun v90 h91 =>
 tT (c 90 [v90,x82] h91) fun v92 h93 =>
 tR (o_ext 0 (.c v92) .nil h93) fun v94 h95 =>
 tR (o_ext 1 (.c v92) .nil h95) fun v96 h97 =>
 tR (u_not v96 h97) fun v98 h99 =>
 ifR v98 (tT (c 114 [x81,x82,(.str [])] h99) fun v100 h101 =>
 x (T94 x81 x82 x83) h101) (x (T94 x81 x82 x83) h99)) (.ex 2 (T1 x81) h85)) (y0 r) (y7 r) (y8 r)
def k118_8 : KF := fun c i x r h => (fun (x116 x117 x118 : AV) =>
 tR (b_lt x118 x117 h) fun v119 h120 =>
 ifR v119 (tR (nic x116 h120) fun v121 h122 =>
 tR (fa 17 v121 h122) fun v123 h124 =>
 tR (ld v123 h124) fun v125 h126 =>
 tR (ix 6 v125 x118 h126) fun v127 h128 =>
 tR (fa 5 v127 h128) fun v129 h130 =>
 tR (sto v129 (ni 0) h130) fun v131 h132 =>
 tR (b_add x118 (pi 1) h132) fun v133 h134 =>
 .nm (T95 x116 x117 v133) h134) (.ex 4 (T95 x116 x117 x118) h120)) (y0 r) (y133 r) (y134 r)
def k118_7 : KF := fun c i x r h => (fun (x107 : AV) =>
 tR (nic x107 h) fun v108 h109 =>
 tR (fa 17 v108 h109) fun v110 h111 =>
 tR (ld v110 h111) fun v112 h113 =>
 tR (len v112 h113) fun v114 h115 =>
 x (T95 x107 v114 (pi 0)) h115) (y0 r)
def k118_9 : KF := fun c i x r h => (fun (x135 : AV) =>
 tT (c 66 [x135] h) fun v136 h137 =>
 .nm T26 h137) (y0 r)
def k118_2 : KF := fun c i x r h => (fun (x15 x16 x17 x18 : AV) =>
 tR (u_not x18 h) fun v19 h20 =>
 ifR v19 (tR (nic x15 h20) fun v21 h22 =>
 tR (fa 19 v21 h22) fun v23 h24 =>
 tR (sto v23 (pi 0) h24) fun v25 h26 =>
 .ret T26 h26) (tQ (nic x15 h20) fun v27 =>
 tQ (fa 8 v27 h20) fun v28 =>
 tQ (ld v28 h20) fun v29 =>
 tQ (nic x15 h20) fun v30 =>
 tQ (fa 1 v30 h20) fun v31 =>
 tQ (ld v31 h20) fun v32 =>
 tQ (o_ldn 2 (.c x16) .nil h20) fun v33 =>
 tX (c 127 [v29,v32,v33,x17] h20) fun v34 h35 =>
 tR (nic x15 h35) fun v36 h37 =>
 tR (fa 19 v36 h37) fun v38 h39 =>
 tR (sto v38 (pi 2) h39) fun v40 h41 =>
 x (T1 x15) h41)) (y0 r) (y2 r) (y3 r) (y4 r)
def k118_1 : KF := fun c i x r h => (fun (x2 : AV) =>
 tR (nic x2 h) fun v3 h4 =>
 tR (fa 8 v3 h4) fun v5 h6 =>
 tR (ld v5 h6) fun v7 h8 =>
 tT (c 126 [v7] h8) fun v9 h10 =>
 tR (o_alloc 129 2 (.k1 (.mk (pi 0) (pi 0) .undef .undef .undef .undef .undef .undef .undef .undef .undef .undef .undef .undef .undef .undef)) .nil h10) fun v11 h12 =>
 tR (o_stn 2 (.c v11) (.c v9) .nil h12) fun v13 h14 =>
 x (T68 x2 v11) h14) (y0 r)
def x118 : AC := (.seq (.seq (.drw [q 0 (m d12 r0),
 q 0 (o d13 (.nilc r12)),
 q 0 (o d14 (.fad 19 r13)),
 q 0 (o d15 (.ld1 r14)),
 q 0 (o d16 (.bin .ne r15 (.c (pi 1)))),
 q 0 (m d17 r16),
 q 0 (.g .h1 .h1 false d18 (.op (.mv r0))),
 q 0 (.g .h1 .h1 false d19 (.op (.nilc r18))),
 q 0 (.g .h1 .h1 false d20 (.op (.fad 20 r19))),
 q 0 (.g .h1 .h1 false d21 (.op (.ld1 r20))),
 q 0 (.g .h1 .h1 false d22 (.op (.lenm r21))),
 q 0 (.g .h1 .h1 false d25 (.op (.mv r0))),
 q 0 (.g .h1 .h1 false d26 (.op (.nilc r25))),
 q 0 (.g .h1 .h1 false d27 (.op (.fad 0 r26))),
 q 0 (.g .h1 .h1 false d28 (.op (.ld1 r27))),
 w (.g .h1 .h1 false d29 (.call 59 [r28])),
 q 1 (.g .h1 .h1 false d23 (.op (.bin .add r22 (.c (pi 1))))),
 q 1 (.g .h1 .h1 false d24 (.op (.bin .mul (.c (pi 2)) r23))),
 q 0 (.g .h1 .h1 false d30 (.op (.bin .le r24 r29))),
 q 0 (o d31 (.pick r17 (.c (.bool true)) r30))]) (.shal k118_0 .skip)) (.shal k118_1 (.seq (.drw [q 0 (m d40 r0),
 q 0 (o d41 (.nilc r40)),
 q 0 (o d42 (.fad 9 r41)),
 q 0 (o d43 (.ld1 r42)),
 w (.o d44 (.call 53 [r43])),
 q 1 (m d38 r0),
 q 1 (o d39 (.ldn 2 r2)),
 w (.o d45 (.call 120 [r38,r39,r44])),
 q 0 (m d37 r45),
 q 0 (o d46 (.ext 0 r37)),
 q 0 (o d47 (.ext 1 r37)),
 q 0 (m d3 r46),
 q 0 (m d4 r47)]) (.shal k118_2 (.seq (.drw [q 0 (m d68 r0),
 q 0 (o d69 (.nilc r68)),
 q 0 (o d70 (.fad 9 r69)),
 q 0 (o d71 (.ld1 r70)),
 w (.o d72 (.call 53 [r71])),
 q 1 (m d67 r0),
 q 1 (m d73 r0),
 q 1 (o d74 (.nilc r73)),
 q 1 (o d75 (.fad 10 r74)),
 q 1 (o d76 (.ld1 r75)),
 q 0 (o d77 (.max false [r72,r76])),
 q 0 (o d78 (.nilc r67)),
 q 0 (o d79 (.fad 21 r78)),
 w (o .no (.st1 r79 r77))]) (.seq (.shal k118_3 (.block 0 (.loop (.shal k118_4 .skip)))) (.seq (.seq (.drw [q 0 (m d101 r0),
 q 0 (o d102 (.nilc r101)),
 q 0 (o d103 (.fad 9 r102)),
 q 0 (o d104 (.ld1 r103)),
 w (.o d105 (.call 53 [r104])),
 q 1 (m d106 r0),
 q 1 (o d107 (.nilc r106)),
 q 1 (o d108 (.fad 21 r107)),
 q 1 (o d109 (.ld1 r108)),
 q 0 (m d7 r105),
 q 0 (m d8 r109)]) (.block 2 (.loop (.shal k118_5 (.shal k118_6 .skip))))) (.seq (.shal k118_7 (.block 4 (.loop (.shal k118_8 .skip)))) (.shal k118_9 .skip)))))))))
def z118 : List Rs := []
def f118 : AF := .mk x118 z118
def k119_2 : KF := fun c i x r h => (fun (x8 x9 x10 : AV) =>
 tR (b_gt x10 (pi 0) h) fun v11 h12 =>
 ifR v11 (tR (b_sub x10 (pi 1) h12) fun v13 h14 =>
 tR (bK .shl x8 (.int .u64 (.ofNat 8)) h14) fun v15 h16 =>
 tR (ix 1 x9 v13 h16) fun v17 h18 =>
 tR (ld v17 h18) fun v19 h20 =>
 tR (cK (.toInt .u64) v19 h20) fun v21 h22 =>
 tR (b_or v15 v21 h22) fun v23 h24 =>
 .go 0 (T97 u v23 x9 v13) h24) (.ret (T12 x8) h12)) (y5 r) (y6 r) (y7 r)
def k119_1 : KF := fun c i x r h => (fun (x2 x3 : AV) =>
 tT (c 162 [x2,x3] h) fun v4 h5 =>
 tR (len v4 h5) fun v6 h7 =>
 x (T96 (.int .u64 (.ofNat 0)) v4 v6) h7) (y0 r) (y1 r)
def k119_0 : KF := fun c i x r h => (fun (x0 x1 : AV) =>
 x (T13 x0 x1) h) (y0 r) (y1 r)
def x119 : AC := (.shal k119_0 (.scope (.shal k119_1 (.seq (.label 0) (.shal k119_2 .skip)))))
def z119 : List Rs := [.t .h0 .h4]
def f119 : AF := .mk x119 z119
def k120_1 : KF := fun c i x r h => (fun (x5 x6 x7 x8 : AV) =>
 ifR x8 (.ret (T83 .nils (.bool false)) h) (.nm (T98 x5 x6 x7) h)) (y0 r) (y2 r) (y4 r) (y23 r)
def k120_2 : KF := fun c i x r h => (fun (x9 x10 x11 : AV) =>
 tQ (nic x9 h) fun v12 =>
 tQ (fa 7 v12 h) fun v13 =>
 tQ (ld v13 h) fun v14 =>
 tQ (o_ldn 2 (.c x11) .nil h) fun v15 =>
 tX (c 93 [v14,v15,x10] h) fun v16 h17 =>
 tQ (o_ext 0 (.c v16) .nil h17) fun v18 =>
 tQ (o_ext 1 (.c v16) .nil h17) fun v19 =>
 .ret (T83 v19 v18) h17) (y0 r) (y2 r) (y4 r)
def k120_0 : KF := fun c i x r h => (fun (x0 x1 x2 : AV) =>
 tR (o_box 129 (.c x1) .nil h) fun v3 h4 =>
 x (T98 x0 x2 v3) h4) (y0 r) (y1 r) (y2 r)
def x120 : AC := (.shal k120_0 (.seq (.seq (.drw [q 0 (m d10 r0),
 q 0 (o d11 (.nilc r10)),
 q 0 (o d12 (.fad 7 r11)),
 q 0 (o d13 (.ld1 r12)),
 w (.o d14 (.call 107 [r13])),
 q 1 (o d15 (.ldn 2 r4)),
 w (.o d16 (.call 133 [r14,r15])),
 q 0 (o d17 (.un .not r16)),
 q 0 (m d18 r17),
 q 0 (.g .h1 .h2 false d19 (.op (.mv r0))),
 q 0 (.g .h1 .h2 false d20 (.op (.mkf 163 [r4]))),
 w (.g .h1 .h2 false d21 (.call 134 [r19,(.c (.bool true)),(.c (pi 1)),r20])),
 q 0 (.g .h1 .h2 false d22 (.op (.un .not r21))),
 q 0 (o d23 (.pick r18 (.c (.bool true)) r22))]) (.shal k120_1 .skip)) (.shal k120_2 .skip)))
def z120 : List Rs := [.t .h0 .h6,.t .h0 .h7]
def f120 : AF := .mk x120 z120
def k121_0 : KF := fun c i x r h => (fun (x0 x1 : AV) =>
 tR (o_box 88 (.c x0) .nil h) fun v2 h3 =>
 tR (ld v2 h3) fun v4 h5 =>
 tT (c 122 [v4,x1,(pi 5),(.fn 164 [v2])] h5) fun v6 h7 =>
 .nm T26 h7) (y0 r) (y1 r)
def x121 : AC := (.shal k121_0 .skip)
def z121 : List Rs := []
def f121 : AF := .mk x121 z121
def k122_0 : KF := fun c i x r h => (fun (x0 x1 x2 x3 : AV) =>
 tT (c 151 [] h) fun v4 h5 =>
 tT (c 152 [v4,x2] h5) fun v6 h7 =>
 tT (AV.onFn x3 (fun f l => c f (List.append [v4] l) h7) (.err 202)) fun v8 h9 =>
 x (T99 x0 x1 v4) h9) (y0 r) (y1 r) (y2 r) (y3 r)
def x122 : AC := (.shal k122_0 (.drw [q 0 (m d25 r8),
 w (.o d26 (.call 154 [r25])),
 q 1 (m d16 r0),
 q 1 (o d17 (.nilc r16)),
 q 1 (o d18 (.fad 0 r17)),
 q 1 (o d19 (.ld1 r18)),
 q 1 (m d20 r0),
 q 1 (o d21 (.nilc r20)),
 q 1 (o d22 (.fad 1 r21)),
 q 1 (o d23 (.ld1 r22)),
 q 1 (m d24 r1),
 w (.o d27 (.call 48 [r19,r23,r24,r26]))]))
def z122 : List Rs := []
def f122 : AF := .mk x122 z122
def k123_2 : KF := fun c i x r h => (fun (x28 x29 x30 x31 x32 x33 : AV) =>
 tR (b_lt x33 x32 h) fun v34 h35 =>
 ifR v34 (tR (ix 4 x31 x33 h35) fun v36 h37 =>
 tR (o_ldn 4 (.c v36) .nil h37) fun v38 h39 =>
 tR (o_alloc 138 4 (.k1 (.mk (pi 0) (pi 0) (pi 0) (.str []) .undef .undef .undef .undef .undef .undef .undef .undef .undef .undef .undef .undef)) .nil h39) fun v40 h41 =>
 tR (o_stn 4 (.c v40) (.c v38) .nil h41) fun v42 h43 =>
 tR (fa 1 v40 h43) fun v44 h45 =>
 tR (o_ldn 2 (.c v44) .nil h45) fun v46 h47 =>
 tT (c 104 [x28,v46] h47) fun v48 h49 =>
 tR (fa 0 v40 h49) fun v50 h51 =>
 tR (ld v50 h51) fun v52 h53 =>
 tT (c 85 [x28,v52] h53) fun v54 h55 =>
 tR (fa 3 v40 h55) fun v56 h57 =>
 tR (ld v56 h57) fun v58 h59 =>
 tT (c 105 [x28,v58] h59) fun v60 h61 =>
 tR (b_add x33 (pi 1) h61) fun v62 h63 =>
 .nm (T101 x28 x29 x30 x31 x32 v62) h63) (.ex 0 (T101 x28 x29 x30 x31 x32 x33) h35)) (y0 r) (y4 r) (y5 r) (y19 r) (y20 r) (y21 r)
def k123_1 : KF := fun c i x r h => (fun (x20 x21 x22 x23 : AV) =>
 tR (ld x21 h) fun v24 h25 =>
 tR (len v24 h25) fun v26 h27 =>
 x (T101 x20 x22 x23 v24 v26 (pi 0)) h27) (y0 r) (y3 r) (y4 r) (y5 r)
def k123_3 : KF := fun c i x r h => (fun (x64 x65 x66 : AV) =>
 tR (ld x65 h) fun v67 h68 =>
 tR (ld x66 h68) fun v69 h70 =>
 tT (c 108 [v67,v69] h70) fun v71 h72 =>
 tT (c 124 [x64,v71] h72) fun v73 h74 =>
 .nm T26 h74) (y0 r) (y4 r) (y5 r)
def k123_0 : KF := fun c i x r h => (fun (x0 x1 x2 x3 x4 x5 : AV) =>
 tR (o_ldn 2 (.c x1) .nil h) fun v6 h7 =>
 tT (c 104 [x0,v6] h7) fun v8 h9 =>
 tR (ld x2 h9) fun v10 h11 =>
 tT (c 85 [x0,v10] h11) fun v12 h13 =>
 tR (ld x3 h13) fun v14 h15 =>
 tR (len v14 h15) fun v16 h17 =>
 tT (c 85 [x0,v16] h17) fun v18 h19 =>
 x (T100 x0 x3 x4 x5) h19) (y0 r) (y1 r) (y2 r) (y3 r) (y4 r) (y5 r)
def x123 : AC := (.shal k123_0 (.seq (.shal k123_1 (.block 0 (.loop (.shal k123_2 .skip)))) (.shal k123_3 .skip)))
def z123 : List Rs := []
def f123 : AF := .mk x123 z123
def k124_1 : KF := fun c i x r h => (fun (x8 x9 x10 x11 : AV) =>
 tR (b_lt x11 x10 h) fun v12 h13 =>
 ifR v12 (tR (ix 4 x9 x11 h13) fun v14 h15 =>
 tR (o_ldn 4 (.c v14) .nil h15) fun v16 h17 =>
 tR (o_alloc 138 4 (.k1 (.mk (pi 0) (pi 0) (pi 0) (.str []) .undef .undef .undef .undef .undef .undef .undef .undef .undef .undef .undef .undef)) .nil h17) fun v18 h19 =>
 tR (o_stn 4 (.c v18) (.c v16) .nil h19) fun v20 h21 =>
 tR (fa 0 v18 h21) fun v22 h23 =>
 tR (ld v22 h23) fun v24 h25 =>
 tT (c 85 [x8,v24] h25) fun v26 h27 =>
 tR (fa 3 v18 h27) fun v28 h29 =>
 tR (ld v28 h29) fun v30 h31 =>
 tT (c 105 [x8,v30] h31) fun v32 h33 =>
 tR (b_add x11 (pi 1) h33) fun v34 h35 =>
 .nm (T82 x8 x9 x10 v34) h35) (.ex 0 (T82 x8 x9 x10 x11) h13)) (y0 r) (y10 r) (y11 r) (y12 r)
def k124_0 : KF := fun c i x r h => (fun (x0 x1 : AV) =>
 tR (len x1 h) fun v2 h3 =>
 tT (c 85 [x0,v2] h3) fun v4 h5 =>
 tR (len x1 h5) fun v6 h7 =>
 x (T82 x0 x1 v6 (pi 0)) h7) (y0 r) (y1 r)
def x124 : AC := (.shal k124_0 (.block 0 (.loop (.shal k124_1 .skip))))
def z124 : List Rs := []
def f124 : AF := .mk x124 z124
def k125_0 : KF := fun c i x r h => (fun (x0 : AV) =>
 tR (nic x0 h) fun v1 h2 =>
 tR (fa 2 v1 h2) fun v3 h4 =>
 tR (ld v3 h4) fun v5 h6 =>
 tR (b_ne v5 (pi 0) h6) fun v7 h8 =>
 .ret (T20 v7) h8) (y0 r)
def x125 : AC := (.shal k125_0 .skip)
def z125 : List Rs := [.t .h0 .h2]
def f125 : AF := .mk x125 z125
def k126_0 : KF := fun c i x r h => (fun (x0 : AV) =>
 tR (o_alloc 129 2 (.k1 (.mk (pi 0) (pi 0) .undef .undef .undef .undef .undef .undef .undef .undef .undef .undef .undef .undef .undef .undef)) .nil h) fun v1 h2 =>
 tR (nic x0 h2) fun v3 h4 =>
 tR (fa 3 v3 h4) fun v5 h6 =>
 tR (o_ldn 2 (.c v5) .nil h6) fun v7 h8 =>
 tR (o_stn 2 (.c v1) (.c v7) .nil h8) fun v9 h10 =>
 .ret (T20 v1) h10) (y0 r)
def x126 : AC := (.shal k126_0 .skip)
def z126 : List Rs := [.agg 2 .h0 .h2]
def f126 : AF := .mk x126 z126
def k127_2 : KF := fun c i x r h => (fun (x14 x15 x16 x17 x18 : AV) =>
 ifR x18 (.go 0 (T103 x14 x15 x16 x17) h) (.nm (T103 x14 x15 x16 x17) h)) (y0 r) (y1 r) (y3 r) (y8 r) (y40 r)
def k127_6 : KF := fun c i x r h => (fun (x51 x52 x53 x54 x55 : AV) =>
 ifR x55 (.go 1 (T106 x51 x52 x53 x54) h) (.nm (T106 x51 x52 x53 x54) h)) (y0 r) (y3 r) (y8 r) (y9 r) (y67 r)
def k127_7 : KF := fun c i x r h => (fun (x56 x57 x58 x59 x60 : AV) =>
 ifR x60 (tQ (nic x56 h) fun v61 =>
 tQ (fa 7 v61 h) fun v62 =>
 tQ (ld v62 h) fun v63 =>
 tQ (fa 0 x59 h) fun v64 =>
 tQ (ld v64 h) fun v65 =>
 tQ (o_ldn 4 (.c x59) .nil h) fun v66 =>
 tX (RV.toT (mup (.one .i) v63 v65 v66 h)) fun v67 h68 =>
 .nm (T104 x56 x57 x58) h68) (.nm (T104 x56 x57 x58) h)) (y0 r) (y3 r) (y8 r) (y9 r) (y86 r)
def k127_5 : KF := fun c i x r h => (fun (x38 x39 x40 : AV) =>
 tR (ix 4 x39 x40 h) fun v41 h42 =>
 tR (o_ldn 4 (.c v41) .nil h42) fun v43 h44 =>
 tR (o_alloc 138 4 (.k1 (.mk (pi 0) (pi 0) (pi 0) (.str []) .undef .undef .undef .undef .undef .undef .undef .undef .undef .undef .undef .undef)) .nil h44) fun v45 h46 =>
 tR (o_stn 4 (.c v45) (.c v43) .nil h46) fun v47 h48 =>
 tR (b_add x40 (pi 1) h48) fun v49 h50 =>
 x (T106 x38 x39 v49 v45) h50) (y0 r) (y3 r) (y8 r)
def k127_4 : KF := fun c i x r h => (fun (x31 x32 x33 : AV) =>
 tR (len x32 h) fun v34 h35 =>
 tR (b_lt x33 v34 h35) fun v36 h37 =>
 x (T105 x31 x32 x33 v36) h37) (y0 r) (y3 r) (y8 r)
def k127_3 : KF := fun c i x r h => (fun (x19 x20 x21 x22 : AV) =>
 tR (nic x19 h) fun v23 h24 =>
 tR (fa 6 v23 h24) fun v25 h26 =>
 tR (ld v25 h26) fun v27 h28 =>
 tR (mup (.one .i) v27 x20 (pi 1) h28) fun v29 h30 =>
 x (T104 x19 x21 x22) h30) (y0 r) (y1 r) (y3 r) (y8 r)
def k127_1 : KF := fun c i x r h => (fun (x6 x7 x8 x9 : AV) =>
 tR (o_ldn 2 (.c x9) .nil h) fun v10 h11 =>
 tT (c 70 [x6,v10] h11) fun v12 h13 =>
 x (T102 x6 x7 x8 x9 (pi 0)) h13) (y0 r) (y1 r) (y3 r) (y6 r)
def k127_0 : KF := fun c i x r h => (fun (x0 x1 x2 x3 : AV) =>
 tR (o_box 129 (.c x2) .nil h) fun v4 h5 =>
 x (T76 x0 x1 x3 v4) h5) (y0 r) (y1 r) (y2 r) (y3 r)
def x127 : AC := (.shal k127_0 (.scope (.shal k127_1 (.seq (.seq (.drw [q 0 (o d15 (.ldn 2 r6)),
 q 0 (m d16 r0),
 q 0 (o d17 (.nilc r16)),
 q 0 (o d18 (.fad 3 r17)),
 q 0 (o d19 (.ldn 2 r18)),
 q 0 (o d20 (.bin (.ane [.i,.i]) r15 r19)),
 q 0 (m d21 r20),
 q 0 (.g .h1 .h5 false d22 (.op (.ldn 2 r6))),
 q 0 (.g .h1 .h5 false d23 (.op (.build [(pi 0),(pi 0)] []))),
 q 0 (.g .h1 .h5 false d24 (.op (.bin (.aeq [.i,.i]) r22 r23))),
 q 0 (o d25 (.pick r21 (.c (.bool true)) r24)),
 q 0 (m d26 r25),
 q 0 (.g .h1 .ha false d27 (.op (.mv r0))),
 q 0 (.g .h1 .ha false d28 (.op (.mv r1))),
 w (.g .h1 .ha false d29 (.call 165 [r27,r28])),
 q 0 (.g .h1 .ha false d30 (.op (.un .not r29))),
 q 0 (o d31 (.pick r26 (.c (.bool true)) r30)),
 q 0 (m d32 r31),
 q 0 (.g .h2 .h0 false d33 (.op (.mv r0))),
 q 0 (.g .h2 .h0 false d34 (.op (.nilc r33))),
 q 0 (.g .h2 .h0 false d35 (.op (.fad 6 r34))),
 q 0 (.g .h2 .h0 false d36 (.op (.ld1 r35))),
 q 0 (.g .h2 .h0 false d37 (.op (.mv r1))),
 q 0 (.g .h2 .h0 false d38 (.op (.lkp (.one .i) (pi 0) false r36 r37))),
 q 0 (.g .h2 .h0 false d39 (.op (.bin .gt r38 (.c (pi 0))))),
 q 0 (o d40 (.pick r32 (.c (.bool true)) r39))]) (.shal k127_2 .skip)) (.shal k127_3 (.seq (.label 1) (.seq (.shal k127_4 (.cond r49 (.shal k127_5 (.seq (.seq (.drw [q 0 (o d56 (.fad 0 r9)),
 q 0 (o d57 (.ld1 r56)),
 q 0 (m d58 r0),
 q 0 (o d59 (.nilc r58)),
 q 0 (o d60 (.fad 5 r59)),
 q 0 (o d61 (.ld1 r60)),
 q 0 (o d62 (.bin .lt r57 r61)),
 q 0 (m d63 r62),
 q 0 (.g .h3 .hf false d64 (.op (.fad 0 r9))),
 q 0 (.g .h3 .hf false d65 (.op (.ld1 r64))),
 q 0 (.g .h3 .hf false d66 (.op (.bin .ge r65 (.c (pi 1048576))))),
 q 0 (o d67 (.pick r63 (.c (.bool true)) r66))]) (.shal k127_6 .skip)) (.seq (.seq (.drw [w (o d10 (.alloc 138 4 (.k1 (.mk (pi 0) (pi 0) (pi 0) (.str []) .undef .undef .undef .undef .undef .undef .undef .undef .undef .undef .undef .undef)))),
 q 1 (m d69 r0),
 q 1 (o d70 (.nilc r69)),
 q 1 (o d71 (.fad 7 r70)),
 q 1 (o d72 (.ld1 r71)),
 q 1 (o d73 (.fad 0 r9)),
 q 1 (o d74 (.ld1 r73)),
 q 1 (o d75 (.lkp (.one .i) (.agg [(pi 0),(pi 0),(pi 0),(.str [])]) true r72 r74)),
 q 1 (m d68 r75),
 q 1 (o d76 (.ext 0 r68)),
 w (o .no (.stn 4 r10 r76)),
 q 2 (o d77 (.ext 1 r68)),
 q 0 (m d11 r77)]) (.seq (.ops [m d78 r11,
 o d79 (.un .not r78),
 m d80 r79,
 .g .h5 .h0 false d81 (.op (.fad 1 r10)),
 .g .h5 .h0 false d82 (.op (.ldn 2 r81)),
 .g .h5 .h0 false d83 (.op (.fad 1 r9)),
 .g .h5 .h0 false d84 (.op (.ldn 2 r83)),
 .g .h5 .h0 false d85 (.call 133 [r82,r84]),
 o d86 (.pick r80 (.c (.bool true)) r85)]) (.shal k127_7 .skip))) (.goto 1)))) .skip)) (.label 0))))))))
def z127 : List Rs := []
def f127 : AF := .mk x127 z127
def k128_1 : KF := fun c i x r h => (fun (x10 x11 x12 x13 x14 : AV) =>
 ifR x14 (.ret (T107 (.bool false)) h) (.nm (T62 x10 x11 x12 x13) h)) (y0 r) (y5 r) (y6 r) (y7 r) (y35 r)
def k128_3 : KF := fun c i x r h => (fun (x23 x24 x25 x26 x27 x28 : AV) =>
 ifR x28 (tR (sto x27 (pi 3) h) fun v29 h30 =>
 .nm (T108 x23 x24 x25 x26 x27) h30) (.nm (T108 x23 x24 x25 x26 x27) h)) (y0 r) (y5 r) (y6 r) (y7 r) (y9 r) (y45 r)
def k128_4 : KF := fun c i x r h => (fun (x31 x32 x33 x34 x35 : AV) =>
 tR (ld x35 h) fun v36 h37 =>
 tT (c 134 [x31,(.bool true),v36,(.fn 166 [x32,x33,x35,x34])] h37) fun v38 h39 =>
 x (T109 x31 x32 x33 x34 v38) h39) (y0 r) (y5 r) (y6 r) (y7 r) (y9 r)
def k128_2 : KF := fun c i x r h => (fun (x15 x16 x17 x18 : AV) =>
 tR (o_alloc 3 1 (.k1 (.mk (pi 0) .undef .undef .undef .undef .undef .undef .undef .undef .undef .undef .undef .undef .undef .undef .undef)) .nil h) fun v19 h20 =>
 tR (sto v19 (pi 2) h20) fun v21 h22 =>
 x (T108 x15 x16 x17 x18 v19) h22) (y0 r) (y5 r) (y6 r) (y7 r)
def k128_0 : KF := fun c i x r h => (fun (x0 x1 x2 x3 : AV) =>
 tR (o_box 129 (.c x1) .nil h) fun v4 h5 =>
 tR (o_box 3 (.c x2) .nil h5) fun v6 h7 =>
 tR (o_box 9 (.c x3) .nil h7) fun v8 h9 =>
 x (T62 x0 v4 v6 v8) h9) (y0 r) (y1 r) (y2 r) (y3 r)
def x128 : AC := (.shal k128_0 (.seq (.seq (.drw [q 0 (m d12 r0),
 q 0 (o d13 (.nilc r12)),
 q 0 (o d14 (.fad 7 r13)),
 q 0 (o d15 (.ld1 r14)),
 w (.o d16 (.call 107 [r15])),
 q 1 (o d11 (.ldn 2 r5)),
 w (.o d17 (.call 133 [r11,r16])),
 q 0 (m d18 r17),
 q 0 (.g .h1 .h2 false d19 (.op (.ldn 2 r5))),
 q 0 (.g .h1 .h2 false d20 (.op (.build [(pi 0),(pi 0)] []))),
 q 0 (.g .h1 .h2 false d21 (.op (.bin (.aeq [.i,.i]) r19 r20))),
 q 0 (o d22 (.pick r18 (.c (.bool true)) r21)),
 q 0 (m d23 r22),
 q 0 (.g .h1 .h7 false d24 (.op (.ld1 r6))),
 q 0 (.g .h1 .h7 false d25 (.op (.mv r0))),
 q 0 (.g .h1 .h7 false d26 (.op (.nilc r25))),
 q 0 (.g .h1 .h7 false d27 (.op (.fad 13 r26))),
 q 0 (.g .h1 .h7 false d28 (.op (.fad 0 r27))),
 q 0 (.g .h1 .h7 false d29 (.op (.ld1 r28))),
 q 0 (.g .h1 .h7 false d30 (.op (.bin .lt r24 r29))),
 q 0 (o d31 (.pick r23 (.c (.bool true)) r30)),
 q 0 (m d32 r31),
 q 0 (.g .h2 .h0 false d33 (.op (.ld1 r6))),
 q 0 (.g .h2 .h0 false d34 (.op (.bin .ge r33 (.c (pi 1048576))))),
 q 0 (o d35 (.pick r32 (.c (.bool true)) r34))]) (.shal k128_1 .skip)) (.shal k128_2 (.seq (.seq (.drw [q 0 (m d36 r0),
 q 0 (o d37 (.ld1 r6)),
 w (.o d38 (.call 109 [r36,r37])),
 q 0 (m d39 r38),
 q 0 (.g .h2 .h7 true d40 (.op (.mv r0))),
 q 0 (.g .h2 .h7 true d41 (.op (.ld1 r6))),
 w (.g .h2 .h7 true d42 (.call 94 [r40,r41])),
 q 1 (.g .h2 .h7 true d43 (.op (.ld1 r7))),
 q 0 (.g .h2 .h7 true d44 (.op (.bin .seq r42 r43))),
 q 0 (o d45 (.pick r39 r44 (.c (.bool false))))]) (.shal k128_3 .skip)) (.shal k128_4 (.seq (.drw [q 0 (m d50 r10),
 q 0 (m d51 r50),
 q 0 (.g .h3 .h3 true d52 (.op (.mv r0))),
 q 0 (.g .h3 .h3 true d53 (.op (.nilc r52))),
 q 0 (.g .h3 .h3 true d54 (.op (.fad 7 r53))),
 q 0 (.g .h3 .h3 true d55 (.op (.ld1 r54))),
 q 0 (.g .h3 .h3 true d56 (.op (.ldn 2 r5))),
 q 0 (.g .h3 .h3 true d57 (.op (.ld1 r6))),
 q 0 (.g .h3 .h3 true d58 (.op (.ld1 r7))),
 w (.g .h3 .h3 true d59 (.call 167 [r55,r56,r57,r58])),
 q 0 (o d60 (.pick r51 r59 (.c (.bool false)))),
 q 0 (m d8 r60)]) .ret))))))
def z128 : List Rs := [.t .h0 .h8]
def f128 : AF := .mk x128 z128
def k129_0 : KF := fun c i x r h => (fun (x0 x1 x2 : AV) =>
 tR (o_ldn 2 (.c x1) .nil h) fun v3 h4 =>
 tT (c 104 [x0,v3] h4) fun v5 h6 =>
 tR (ld x2 h6) fun v7 h8 =>
 tT (c 85 [x0,v7] h8) fun v9 h10 =>
 .nm T26 h10) (y0 r) (y1 r) (y2 r)
def x129 : AC := (.shal k129_0 .skip)
def z129 : List Rs := []
def f129 : AF := .mk x129 z129
def k130_1 : KF := fun c i x r h => (fun (x14 x15 x16 x17 : AV) =>
 ifR x17 (.ret (T107 (.bool false)) h) (.nm (T110 x14 x15 x16) h)) (y0 r) (y1 r) (y9 r) (y31 r)
def k130_2 : KF := fun c i x r h => (fun (x18 x19 x20 : AV) =>
 tR (nic x20 h) fun v21 h22 =>
 tR (fa 1 v21 h22) fun v23 h24 =>
 tR (ld v23 h24) fun v25 h26 =>
 tR (mup (.one .i) v25 x19 (pi 1) h26) fun v27 h28 =>
 tR (nic x20 h28) fun v29 h30 =>
 tR (fa 1 v29 h30) fun v31 h32 =>
 tR (ld v31 h32) fun v33 h34 =>
 tR (o_lenm (.c v33) .nil h34) fun v35 h36 =>
 tT (c 168 [x18,v35] h36) fun v37 h38 =>
 .ret (T107 v37) h38) (y0 r) (y1 r) (y9 r)
def k130_0 : KF := fun c i x r h => (fun (x0 x1 x2 x3 : AV) =>
 tR (o_box 129 (.c x2) .nil h) fun v4 h5 =>
 tR (nic x0 h5) fun v6 h7 =>
 tR (fa 8 v6 h7) fun v8 h9 =>
 tR (ld v8 h9) fun v10 h11 =>
 tR (lkp (.one .i) .nilp false v10 x3 h11) fun v12 h13 =>
 x (T74 x0 x1 v4 v12) h13) (y0 r) (y1 r) (y2 r) (y3 r)
def x130 : AC := (.shal k130_0 (.seq (.seq (.drw [q 0 (o d16 (.ldn 2 r6)),
 q 0 (m d17 r0),
 q 0 (o d18 (.nilc r17)),
 q 0 (o d19 (.fad 3 r18)),
 q 0 (o d20 (.ldn 2 r19)),
 q 0 (o d21 (.bin (.ane [.i,.i]) r16 r20)),
 q 0 (m d22 r21),
 q 0 (.g .h1 .h6 false d23 (.op (.mv r0))),
 q 0 (.g .h1 .h6 false d24 (.op (.mv r1))),
 w (.g .h1 .h6 false d25 (.call 165 [r23,r24])),
 q 0 (.g .h1 .h6 false d26 (.op (.un .not r25))),
 q 0 (o d27 (.pick r22 (.c (.bool true)) r26)),
 q 0 (m d28 r27),
 q 0 (.g .h1 .hc false d29 (.op (.mv r9))),
 q 0 (.g .h1 .hc false d30 (.op (.bin .peq r29 (.c .nilp)))),
 q 0 (o d31 (.pick r28 (.c (.bool true)) r30))]) (.shal k130_1 .skip)) (.shal k130_2 .skip)))
def z130 : List Rs := [.t .h0 .h8]
def f130 : AF := .mk x130 z130
def k131_1 : KF := fun c i x r h => (fun (x3 x4 x5 x6 : AV) =>
 ifR x6 (.ret (T83 (.str []) (.bool false)) h) (.nm (T38 x3 x4 x5) h)) (y0 r) (y1 r) (y2 r) (y25 r)
def k131_4 : KF := fun c i x r h => (fun (x49 x50 x51 : AV) =>
 tR (nic x49 h) fun v52 h53 =>
 tR (fa 8 v52 h53) fun v54 h55 =>
 tR (ld v54 h55) fun v56 h57 =>
 tR (o_mkmap .nil h57) fun v58 h59 =>
 tR (o_build [(.str []),.nilm] [.mk 0 1 (.c x51),.mk 1 1 (.c v58)] .nil h59) fun v60 h61 =>
 tR (o_box 218 (.c v60) .nil h61) fun v62 h63 =>
 tR (mup (.one .i) v56 x50 v62 h63) fun v64 h65 =>
 .ret (T83 x51 (.bool true)) h65) (y0 r) (y1 r) (y2 r)
def k131_3 : KF := fun c i x r h => (fun (x26 x27 x28 : AV) =>
 tR (nic x26 h) fun v29 h30 =>
 tR (fa 7 v29 h30) fun v31 h32 =>
 tR (ld v31 h32) fun v33 h34 =>
 tR (lkp (.one .i) (.agg [(pi 0),(pi 0),(pi 0),(.str [])]) true v33 x27 h34) fun v35 h36 =>
 tR (o_ext 0 (.c v35) .nil h36) fun v37 h38 =>
 tR (o_ext 1 (.c v35) .nil h38) fun v39 h40 =>
 tR (o_alloc 138 4 (.k1 (.mk (pi 0) (pi 0) (pi 0) (.str []) .undef .undef .undef .undef .undef .undef .undef .undef .undef .undef .undef .undef)) .nil h40) fun v41 h42 =>
 tR (o_stn 4 (.c v41) (.c v37) .nil h42) fun v43 h44 =>
 ifR v39 (tR (fa 3 v41 h44) fun v45 h46 =>
 tR (ld v45 h46) fun v47 h48 =>
 x (T38 x26 x27 v47) h48) (x (T38 x26 x27 x28) h44)) (y0 r) (y1 r) (y2 r)
def k131_2 : KF := fun c i x r h => (fun (x7 x8 x9 : AV) =>
 tR (nic x7 h) fun v10 h11 =>
 tR (fa 8 v10 h11) fun v12 h13 =>
 tR (ld v12 h13) fun v14 h15 =>
 tR (lkp (.one .i) .nilp false v14 x8 h15) fun v16 h17 =>
 tR (bK .pne v16 .nilp h17) fun v18 h19 =>
 ifR v18 (tR (nic v16 h19) fun v20 h21 =>
 tR (fa 0 v20 h21) fun v22 h23 =>
 tR (ld v22 h23) fun v24 h25 =>
 .ret (T83 v24 (.bool true)) h25) (x (T38 x7 x8 x9) h19)) (y0 r) (y1 r) (y2 r)
def k131_0 : KF := fun c i x r h => (fun (x0 x1 x2 : AV) =>
 x (T38 x0 x1 x2) h) (y0 r) (y1 r) (y2 r)
def x131 : AC := (.shal k131_0 (.seq (.seq (.ops [m d11 r0,
 .o d12 (.call 169 [r11]),
 o d13 (.un .not r12),
 m d14 r13,
 .g .h0 .he false d15 (.op (.mv r1)),
 .g .h0 .he false d16 (.op (.mv r0)),
 .g .h0 .he false d17 (.op (.nilc r16)),
 .g .h0 .he false d18 (.op (.fad 5 r17)),
 .g .h0 .he false d19 (.op (.ld1 r18)),
 .g .h0 .he false d20 (.op (.bin .lt r15 r19)),
 o d21 (.pick r14 (.c (.bool true)) r20),
 m d22 r21,
 .g .h1 .h6 false d23 (.op (.mv r1)),
 .g .h1 .h6 false d24 (.op (.bin .ge r23 (.c (pi 1048576)))),
 o d25 (.pick r22 (.c (.bool true)) r24)]) (.shal k131_1 .skip)) (.shal k131_2 (.shal k131_3 (.shal k131_4 .skip)))))
def z131 : List Rs := [.t .h0 .h6,.t .h0 .h7]
def f131 : AF := .mk x131 z131
def k132_2 : KF := fun c i x r h => (fun (x18 x19 x20 x21 : AV) =>
 ifR x21 (.ret T26 h) (.nm (T56 x18 x19 x20) h)) (y0 r) (y4 r) (y5 r) (y26 r)
def k132_1 : KF := fun c i x r h => (fun (x7 x8 x9 : AV) =>
 tQ (nic x7 h) fun v10 =>
 tQ (fa 9 v10 h) fun v11 =>
 tQ (ld v11 h) fun v12 =>
 tQ (ld x8 h) fun v13 =>
 tX (c 90 [v12,v13] h) fun v14 h15 =>
 tQ (o_ext 0 (.c v14) .nil h15) fun v16 =>
 tQ (o_ext 1 (.c v14) .nil h15) fun v17 =>
 x (T111 x7 x8 x9 v17) h15) (y0 r) (y4 r) (y5 r)
def k132_3 : KF := fun c i x r h => (fun (x22 x23 x24 : AV) =>
 tR (ld x23 h) fun v25 h26 =>
 tR (ld x24 h26) fun v27 h28 =>
 tT (c 78 [x22,v25,v27] h28) fun v29 h30 =>
 tT (c 83 [x22,(pi 6),(.fn 170 [x23,x24])] h30) fun v31 h32 =>
 .nm T26 h32) (y0 r) (y4 r) (y5 r)
def k132_0 : KF := fun c i x r h => (fun (x0 x1 x2 : AV) =>
 tR (o_box 3 (.c x1) .nil h) fun v3 h4 =>
 tR (o_box 9 (.c x2) .nil h4) fun v5 h6 =>
 x (T56 x0 v3 v5) h6) (y0 r) (y1 r) (y2 r)
def x132 : AC := (.shal k132_0 (.seq (.shal k132_1 (.seq (.drw [q 0 (m d17 r7),
 q 0 (m d18 r17),
 q 0 (.g .h1 .h2 false d20 (.op (.mv r0))),
 q 0 (.g .h1 .h2 false d21 (.op (.nilc r20))),
 q 0 (.g .h1 .h2 false d22 (.op (.fad 9 r21))),
 q 0 (.g .h1 .h2 false d23 (.op (.ld1 r22))),
 w (.g .h1 .h2 false d24 (.call 87 [r23])),
 q 1 (.g .h1 .h2 false d19 (.op (.ld1 r4))),
 q 0 (.g .h1 .h2 false d25 (.op (.bin .lt r19 r24))),
 q 0 (o d26 (.pick r18 (.c (.bool true)) r25))]) (.shal k132_2 .skip))) (.shal k132_3 .skip)))
def z132 : List Rs := []
def f132 : AF := .mk x132 z132
def k133_0 : KF := fun c i x r h => (fun (x0 x1 : AV) =>
 tR (o_box 129 (.c x0) .nil h) fun v2 h3 =>
 tR (o_box 129 (.c x1) .nil h3) fun v4 h5 =>
 tR (o_ldn 2 (.c v2) .nil h5) fun v6 h7 =>
 tR (o_ldn 2 (.c v4) .nil h7) fun v8 h9 =>
 tT (c 171 [v6,v8] h9) fun v10 h11 =>
 tR (b_lt v10 (pi 0) h11) fun v12 h13 =>
 .ret (T12 v12) h13) (y0 r) (y1 r)
def x133 : AC := (.shal k133_0 .skip)
def z133 : List Rs := [.t .h0 .h4]
def f133 : AF := .mk x133 z133
def k134_2 : KF := fun c i x r h => (fun (x49 x50 : AV) =>
 ifR x50 (tR (nic x49 h) fun v51 h52 =>
 tR (fa 2 v51 h52) fun v53 h54 =>
 tR (ld v53 h54) fun v55 h56 =>
 tT (c 173 [v55] h56) fun v57 h58 =>
 .ret (T107 (.bool true)) h58) (.ret (T107 (.bool true)) h)) (y0 r) (y1 r)
def k134_1 : KF := fun c i x r h => (fun (x20 x21 x22 : AV) =>
 tR (nic x20 h) fun v23 h24 =>
 tR (fa 2 v23 h24) fun v25 h26 =>
 tR (ld v25 h26) fun v27 h28 =>
 tT (c 172 [v27,x22] h28) fun v29 h30 =>
 tR (b_ne v29 (pi 0) h30) fun v31 h32 =>
 ifR v31 (.ret (T107 (.bool false)) h32) (tR (nic x20 h32) fun v33 h34 =>
 tR (fa 5 v33 h34) fun v35 h36 =>
 tR (ld v35 h36) fun v37 h38 =>
 tR (len x22 h38) fun v39 h40 =>
 tR (b_add v37 v39 h40) fun v41 h42 =>
 tR (nic x20 h42) fun v43 h44 =>
 tR (fa 5 v43 h44) fun v45 h46 =>
 tR (sto v45 v41 h46) fun v47 h48 =>
 x (T13 x20 x21) h48)) (y0 r) (y1 r) (y9 r)
def k134_0 : KF := fun c i x r h => (fun (x0 x1 x2 x3 : AV) =>
 tT (c 99 [x2,x3] h) fun v4 h5 =>
 tR (nic x0 h5) fun v6 h7 =>
 tR (fa 5 v6 h7) fun v8 h9 =>
 tR (ld v8 h9) fun v10 h11 =>
 tR (len v4 h11) fun v12 h13 =>
 tR (b_add v10 v12 h13) fun v14 h15 =>
 tR (b_gt v14 (pi 2097152) h15) fun v16 h17 =>
 ifR v16 (tT (c 64 [x0] h17) fun v18 h19 =>
 x (T110 x0 x1 v4) h19) (x (T110 x0 x1 v4) h17)) (y0 r) (y1 r) (y2 r) (y3 r)
def x134 : AC := (.shal k134_0 (.shal k134_1 (.shal k134_2 .skip)))
def z134 : List Rs := [.t .h0 .h8]
def f134 : AF := .mk x134 z134
def k135_0 : KF := fun c i x r h => (fun (x0 x1 x2 x3 : AV) =>
 tR (ld x1 h) fun v4 h5 =>
 tT (c 85 [x0,v4] h5) fun v6 h7 =>
 tR (ld x2 h7) fun v8 h9 =>
 tR (b_eq v8 (pi 4) h9) fun v10 h11 =>
 ifR v10 (tR (ld x3 h11) fun v12 h13 =>
 tT (c 105 [x0,v12] h13) fun v14 h15 =>
 .nm T26 h15) (.nm T26 h11)) (y0 r) (y1 r) (y2 r) (y3 r)
def x135 : AC := (.shal k135_0 .skip)
def z135 : List Rs := []
def f135 : AF := .mk x135 z135
def k136_0 : KF := fun c i x r h => (fun (x0 x1 : AV) =>
 tR (ld x1 h) fun v2 h3 =>
 tR (nic v2 h3) fun v4 h5 =>
 tR (fa 13 v4 h5) fun v6 h7 =>
 tR (o_ldn 4 (.c v6) .nil h7) fun v8 h9 =>
 tT (c 102 [x0,v8] h9) fun v10 h11 =>
 .nm T26 h11) (y0 r) (y1 r)
def x136 : AC := (.shal k136_0 .skip)
def z136 : List Rs := []
def f136 : AF := .mk x136 z136
def k137_0 : KF := fun c i x r h => (fun (x0 x1 : AV) =>
 tR (ld x1 h) fun v2 h3 =>
 tT (c 124 [x0,v2] h3) fun v4 h5 =>
 .nm T26 h5) (y0 r) (y1 r)
def x137 : AC := (.shal k137_0 .skip)
def z137 : List Rs := []
def f137 : AF := .mk x137 z137
def k138_2 : KF := fun c i x r h => (fun (x55 x56 : AV) =>
 tR (o_ldn 6 (.c x56) .nil h) fun v57 h58 =>
 tR (o_stn 6 (.c x55) (.c v57) .nil h58) fun v59 h60 =>
 .ret (T15 x55 (.bool true)) h60) (y4 r) (y7 r)
def k138_1 : KF := fun c i x r h => (fun (x20 x21 x22 : AV) =>
 tR (nic x20 h) fun v23 h24 =>
 tR (fa 17 v23 h24) fun v25 h26 =>
 tR (ld v25 h26) fun v27 h28 =>
 tR (ix 6 v27 x22 h28) fun v29 h30 =>
 tR (o_ldn 6 (.c v29) .nil h30) fun v31 h32 =>
 tR (o_alloc 127 6 (.k1 (.mk (pi 0) (pi 0) (pi 0) (.bool false) (.str []) (pi 0) .undef .undef .undef .undef .undef .undef .undef .undef .undef .undef)) .nil h32) fun v33 h34 =>
 tR (o_stn 6 (.c v33) (.c v31) .nil h34) fun v35 h36 =>
 tR (nic x20 h36) fun v37 h38 =>
 tR (fa 17 v37 h38) fun v39 h40 =>
 tR (ld v39 h40) fun v41 h42 =>
 tT (c 177 [v41] h42) fun v43 h44 =>
 tR (b_add x22 (pi 1) h44) fun v45 h46 =>
 tT (c 176 [v43,x22,v45] h46) fun v47 h48 =>
 tR (nic x20 h48) fun v49 h50 =>
 tR (fa 17 v49 h50) fun v51 h52 =>
 tR (sto v51 v47 h52) fun v53 h54 =>
 x (T113 x21 v33) h54) (y0 r) (y4 r) (y6 r)
def k138_0 : KF := fun c i x r h => (fun (x0 x1 : AV) =>
 tR (o_box 125 (.c x1) .nil h) fun v2 h3 =>
 tR (o_alloc 127 6 (.k1 (.mk (pi 0) (pi 0) (pi 0) (.bool false) (.str []) (pi 0) .undef .undef .undef .undef .undef .undef .undef .undef .undef .undef)) .nil h3) fun v4 h5 =>
 tR (nic x0 h5) fun v6 h7 =>
 tR (fa 17 v6 h7) fun v8 h9 =>
 tR (ld v8 h9) fun v10 h11 =>
 tT (c 174 [v10,(.fn 175 [v2])] h11) fun v12 h13 =>
 tR (b_lt v12 (pi 0) h13) fun v14 h15 =>
 ifR v14 (tR (o_build [(pi 0),(pi 0),(pi 0),(.bool false),(.str []),(pi 0)] [] .nil h15) fun v16 h17 =>
 tR (o_stn 6 (.c v4) (.c v16) .nil h17) fun v18 h19 =>
 .ret (T15 v4 (.bool false)) h19) (x (T112 x0 v4 v12) h15)) (y0 r) (y1 r)
def x138 : AC := (.shal k138_0 (.shal k138_1 (.shal k138_2 .skip)))
def z138 : List Rs := [.agg 6 .h0 .h4,.t .h0 .h5]
def f138 : AF := .mk x138 z138
def k139_0 : KF := fun c i x r h => (fun (x0 : AV) =>
 tR (o_alloc 125 3 (.k1 (.mk (pi 0) (pi 0) (pi 0) .undef .undef .undef .undef .undef .undef .undef .undef .undef .undef .undef .undef .undef)) .nil h) fun v1 h2 =>
 tT (c 75 [x0] h2) fun v3 h4 =>
 tR (o_build [(pi 0),(pi 0),(pi 0)] [.mk 0 1 (.c v3)] .nil h4) fun v5 h6 =>
 tR (o_alloc 125 3 (.k1 (.mk (pi 0) (pi 0) (pi 0) .undef .undef .undef .undef .undef .undef .undef .undef .undef .undef .undef .undef .undef)) .nil h6) fun v7 h8 =>
 tR (o_stn 3 (.c v7) (.c v5) .nil h8) fun v9 h10 =>
 tT (c 75 [x0] h10) fun v11 h12 =>
 tR (fa 1 v7 h12) fun v13 h14 =>
 tR (sto v13 v11 h14) fun v15 h16 =>
 tT (c 75 [x0] h16) fun v17 h18 =>
 tR (fa 2 v7 h18) fun v19 h20 =>
 tR (sto v19 v17 h20) fun v21 h22 =>
 tR (o_ldn 3 (.c v7) .nil h22) fun v23 h24 =>
 tR (o_stn 3 (.c v1) (.c v23) .nil h24) fun v25 h26 =>
 .ret (T20 v1) h26) (y0 r)
def x139 : AC := (.shal k139_0 .skip)
def z139 : List Rs := [.agg 3 .h0 .h2]
def f139 : AF := .mk x139 z139
def k140_1 : KF := fun c i x r h => (fun (x3 x4 x5 : AV) =>
 tR (b_eq x5 (pi 0) h) fun v6 h7 =>
 ifR v6 (.ret T26 h7) (tR (nic x3 h7) fun v8 h9 =>
 tR (fa 0 v8 h9) fun v10 h11 =>
 tR (ld v10 h11) fun v12 h13 =>
 tR (cK (.toInt .u8) x4 h13) fun v14 h15 =>
 tR (o_bslice 5 1 1 [(.int .u8 (.ofNat 0))] [.mk 0 1 (.c v14)] .nil h15) fun v16 h17 =>
 tR (appV 5 1 v12 v16 h17) fun v18 h19 =>
 tR (nic x3 h19) fun v20 h21 =>
 tR (fa 0 v20 h21) fun v22 h23 =>
 tR (sto v22 v18 h23) fun v24 h25 =>
 tR (bK .shr x4 (.int .u64 (.ofNat 8)) h25) fun v26 h27 =>
 tR (b_sub x5 (pi 1) h27) fun v28 h29 =>
 .go 0 (T14 x3 v26 v28) h29)) (y0 r) (y1 r) (y6 r)
def k140_0 : KF := fun c i x r h => (fun (x0 x1 x2 : AV) =>
 x (T14 x0 x1 x2) h) (y0 r) (y1 r) (y2 r)
def x140 : AC := (.scope (.shal k140_0 (.seq (.label 0) (.shal k140_1 .skip))))
def z140 : List Rs := []
def f140 : AF := .mk x140 z140
def k141_2 : KF := fun c i x r h => (fun (x17 x18 x19 x20 : AV) =>
 ifR x20 (tR (o_ent (.c x19) .nil h) fun v21 h22 =>
 tR (o_ext 0 (.c v21) .nil h22) fun v23 h24 =>
 tR (mup (.one .i) x18 v23 (pi 1) h24) fun v25 h26 =>
 .nm (T114 x17 x18 x19) h26) (.ex 0 (T114 x17 x18 x19) h)) (y1 r) (y3 r) (y11 r) (y13 r)
def k141_1 : KF := fun c i x r h => (fun (x5 x6 : AV) =>
 tR (ld x5 h) fun v7 h8 =>
 tR (nic v7 h8) fun v9 h10 =>
 tR (fa 7 v9 h10) fun v11 h12 =>
 tR (ld v11 h12) fun v13 h14 =>
 tR (o_rngm (.c v13) .nil h14) fun v15 h16 =>
 x (T114 x5 x6 v15) h16) (y1 r) (y3 r)
def k141_4 : KF := fun c i x r h => (fun (x39 x40 x41 x42 : AV) =>
 ifR x42 (tR (o_ent (.c x41) .nil h) fun v43 h44 =>
 tR (o_ext 0 (.c v43) .nil h44) fun v45 h46 =>
 tR (mup (.one .i) x40 v45 (pi 1) h46) fun v47 h48 =>
 .nm (T115 x39 x40 x41) h48) (.ex 2 (T115 x39 x40 x41) h)) (y1 r) (y3 r) (y22 r) (y24 r)
def k141_3 : KF := fun c i x r h => (fun (x27 x28 : AV) =>
 tR (ld x27 h) fun v29 h30 =>
 tR (nic v29 h30) fun v31 h32 =>
 tR (fa 8 v31 h32) fun v33 h34 =>
 tR (ld v33 h34) fun v35 h36 =>
 tR (o_rngm (.c v35) .nil h36) fun v37 h38 =>
 x (T115 x27 x28 v37) h38) (y1 r) (y3 r)
def k141_5 : KF := fun c i x r h => (fun (x49 x50 : AV) =>
 tT (c 180 [x50] h) fun v51 h52 =>
 tT (c 179 [v51] h52) fun v53 h54 =>
 tT (c 178 [v53,(.fn 181 [x49])] h54) fun v55 h56 =>
 .ret (T20 v55) h56) (y1 r) (y3 r)
def k141_0 : KF := fun c i x r h => (fun (x0 : AV) =>
 tR (o_box 92 (.c x0) .nil h) fun v1 h2 =>
 tR (o_mkmap .nil h2) fun v3 h4 =>
 x (T18 v1 v3) h4) (y0 r)
def x141 : AC := (.shal k141_0 (.seq (.shal k141_1 (.join (.block 0 (.loop (.seq (.ops [.o d12 (.nxt false r11),
 o d13 (.ext 0 r12)]) (.shal k141_2 .skip)))))) (.seq (.shal k141_3 (.join (.block 2 (.loop (.seq (.ops [.o d23 (.nxt false r22),
 o d24 (.ext 0 r23)]) (.shal k141_4 .skip)))))) (.shal k141_5 .skip))))
def z141 : List Rs := [.t .h0 .h2]
def f141 : AF := .mk x141 z141
def k142_0 : KF := fun c i x r h => (fun (x0 x1 x2 x3 : AV) =>
 tR (o_box 129 (.c x1) .nil h) fun v4 h5 =>
 tR (o_box 3 (.c x2) .nil h5) fun v6 h7 =>
 tR (o_box 9 (.c x3) .nil h7) fun v8 h9 =>
 tT (c 83 [x0,(pi 3),(.fn 182 [v4,v6,v8])] h9) fun v10 h11 =>
 .nm T26 h11) (y0 r) (y1 r) (y2 r) (y3 r)
def x142 : AC := (.shal k142_0 .skip)
def z142 : List Rs := []
def f142 : AF := .mk x142 z142
def k143_0 : KF := fun c i x r h => (fun (x0 x1 : AV) =>
 tR (o_box 3 (.c x1) .nil h) fun v2 h3 =>
 tR (nic x0 h3) fun v4 h5 =>
 tR (fa 2 v4 h5) fun v6 h7 =>
 tR (ld v6 h7) fun v8 h9 =>
 tT (c 183 [v8,(.fn 184 [v2])] h9) fun v10 h11 =>
 .nm T26 h11) (y0 r) (y1 r)
def x143 : AC := (.shal k143_0 .skip)
def z143 : List Rs := []
def f143 : AF := .mk x143 z143
def k144_0 : KF := fun c i x r h => (fun (x0 x1 : AV) =>
 tR (o_box 3 (.c x1) .nil h) fun v2 h3 =>
 tR (nic x0 h3) fun v4 h5 =>
 tR (fa 0 v4 h5) fun v6 h7 =>
 tR (ld v6 h7) fun v8 h9 =>
 tT (c 185 [v8,(.fn 186 [v2])] h9) fun v10 h11 =>
 .nm T26 h11) (y0 r) (y1 r)
def x144 : AC := (.shal k144_0 .skip)
def z144 : List Rs := []
def f144 : AF := .mk x144 z144
def k145_2 : KF := fun c i x r h => (fun (x12 x13 x14 x15 : AV) =>
 tR (b_lt x15 x14 h) fun v16 h17 =>
 ifR v16 (tQ (ix 1 x12 x15 h17) fun v18 =>
 tQ (ld v18 h17) fun v19 =>
 tQ (ix 1 x13 x15 h17) fun v20 =>
 tQ (ld v20 h17) fun v21 =>
 tQ (b_ne v19 v21 h17) fun v22 =>
 ifR v22 (.ret (T12 (.bool false)) h17) (tR (b_add x15 (pi 1) h17) fun v23 h24 =>
 .nm (T116 x12 x13 x14 v23) h24)) (.ex 0 (T116 x12 x13 x14 x15) h17)) (y0 r) (y1 r) (y12 r) (y13 r)
def k145_1 : KF := fun c i x r h => (fun (x8 x9 : AV) =>
 tR (len x8 h) fun v10 h11 =>
 x (T116 x8 x9 v10 (pi 0)) h11) (y0 r) (y1 r)
def k145_3 : KF := fun c i x r h => .ret (T12 (.bool true)) h
def k145_0 : KF := fun c i x r h => (fun (x0 x1 : AV) =>
 tR (len x0 h) fun v2 h3 =>
 tR (len x1 h3) fun v4 h5 =>
 tR (b_ne v2 v4 h5) fun v6 h7 =>
 ifR v6 (.ret (T12 (.bool false)) h7) (x (T13 x0 x1) h7)) (y0 r) (y1 r)
def x145 : AC := (.shal k145_0 (.seq (.shal k145_1 (.block 0 (.loop (.shal k145_2 .skip)))) (.shal k145_3 .skip)))
def z145 : List Rs := [.t .h0 .h4]
def f145 : AF := .mk x145 z145
def k146_0 : KF := fun c i x r h => (fun (x0 : AV) =>
 tT (c 187 [x0] h) fun v1 h2 =>
 tR (cK (.toInt .u8) v1 h2) fun v3 h4 =>
 tR (bK .shr v1 (.int .u64 (.ofNat 8)) h4) fun v5 h6 =>
 tR (cK (.toInt .u8) v5 h6) fun v7 h8 =>
 tR (bK .shr v1 (.int .u64 (.ofNat 16)) h8) fun v9 h10 =>
 tR (cK (.toInt .u8) v9 h10) fun v11 h12 =>
 tR (bK .shr v1 (.int .u64 (.ofNat 24)) h12) fun v13 h14 =>
 tR (cK (.toInt .u8) v13 h14) fun v15 h16 =>
 tR (o_bslice 5 1 4 [(.int .u8 (.ofNat 0)),(.int .u8 (.ofNat 0)),(.int .u8 (.ofNat 0)),(.int .u8 (.ofNat 0))] [.mk 0 1 (.c v3),.mk 1 1 (.c v7),.mk 2 1 (.c v11),.mk 3 1 (.c v15)] .nil h16) fun v17 h18 =>
 tR (appV 5 1 v17 x0 h18) fun v19 h20 =>
 .ret (T20 v19) h20) (y0 r)
def x146 : AC := (.shal k146_0 .skip)
def z146 : List Rs := [.t .h0 .h2]
def f146 : AF := .mk x146 z146
def k147_0 : KF := fun c i x r h => (fun (x0 x1 : AV) =>
 tR (o_alloc 138 4 (.k1 (.mk (pi 0) (pi 0) (pi 0) (.str []) .undef .undef .undef .undef .undef .undef .undef .undef .undef .undef .undef .undef)) .nil h) fun v2 h3 =>
 tR (nic x0 h3) fun v4 h5 =>
 tR (fa 2 v4 h5) fun v6 h7 =>
 tR (ld v6 h7) fun v8 h9 =>
 tR (lkp (.one .i) (.agg [(pi 0),(pi 0),(pi 0),(.str [])]) true v8 x1 h9) fun v10 h11 =>
 tR (o_ext 0 (.c v10) .nil h11) fun v12 h13 =>
 tR (o_ext 1 (.c v10) .nil h13) fun v14 h15 =>
 tR (o_alloc 138 4 (.k1 (.mk (pi 0) (pi 0) (pi 0) (.str []) .undef .undef .undef .undef .undef .undef .undef .undef .undef .undef .undef .undef)) .nil h15) fun v16 h17 =>
 tR (o_stn 4 (.c v16) (.c v12) .nil h17) fun v18 h19 =>
 tR (o_ldn 4 (.c v16) .nil h19) fun v20 h21 =>
 tR (o_stn 4 (.c v2) (.c v20) .nil h21) fun v22 h23 =>
 .ret (T15 v2 v14) h23) (y0 r) (y1 r)
def x147 : AC := (.shal k147_0 .skip)
def z147 : List Rs := [.agg 4 .h0 .h4,.t .h0 .h5]
def f147 : AF := .mk x147 z147
def k148_1 : KF := fun c i x r h => (fun (x10 x11 x12 x13 : AV) =>
 ifR x13 (tT (c 189 [x10,(pi 3),x11] h) fun v14 h15 =>
 .nm (T28 x10 x12) h15) (.nm (T28 x10 x12) h)) (y0 r) (y5 r) (y6 r) (y23 r)
def k148_2 : KF := fun c i x r h => (fun (x16 x17 : AV) =>
 tT (c 162 [x16,x17] h) fun v18 h19 =>
 tR (cK .b2s v18 h19) fun v20 h21 =>
 .ret (T12 v20) h21) (y0 r) (y6 r)
def k148_0 : KF := fun c i x r h => (fun (x0 x1 : AV) =>
 tR (nic x0 h) fun v2 h3 =>
 tR (fa 1 v2 h3) fun v4 h5 =>
 tR (ld v4 h5) fun v6 h7 =>
 tT (c 188 [x0] h7) fun v8 h9 =>
 x (T117 x0 x1 v6 v8) h9) (y0 r) (y1 r)
def x148 : AC := (.shal k148_0 (.seq (.seq (.ops [m d13 r0,
 o d14 (.nilc r13),
 o d15 (.fad 2 r14),
 o d16 (.ld1 r15),
 o d17 (.bin .eq r16 (.c (pi 0))),
 m d18 r17,
 .g .h1 .h2 true d19 (.op (.mv r6)),
 .g .h1 .h2 true d20 (.op (.mv r1)),
 .g .h1 .h2 true d21 (.op (.max false [r20,(.c (pi 0))])),
 .g .h1 .h2 true d22 (.op (.bin .gt r19 r21)),
 o d23 (.pick r18 r22 (.c (.bool false)))]) (.shal k148_1 .skip)) (.shal k148_2 .skip)))
def z148 : List Rs := [.t .h0 .h4]
def f148 : AF := .mk x148 z148
def k149_2 : KF := fun c i x r h => (fun (x18 x19 x20 x21 : AV) =>
 ifR x21 (.ret (T32 (.bool false)) h) (.nm (T38 x18 x19 x20) h)) (y0 r) (y1 r) (y2 r) (y30 r)
def k149_1 : KF := fun c i x r h => (fun (x3 x4 x5 : AV) =>
 tR (nic x3 h) fun v6 h7 =>
 tR (fa 0 v6 h7) fun v8 h9 =>
 tR (ld v8 h9) fun v10 h11 =>
 tR (lkp (.one .i) (.str []) true v10 x4 h11) fun v12 h13 =>
 tR (o_ext 0 (.c v12) .nil h13) fun v14 h15 =>
 tR (o_ext 1 (.c v12) .nil h15) fun v16 h17 =>
 x (T118 x3 x4 x5 v16) h17) (y0 r) (y1 r) (y2 r)
def k149_3 : KF := fun c i x r h => (fun (x22 x23 x24 : AV) =>
 tR (nic x22 h) fun v25 h26 =>
 tR (fa 0 v25 h26) fun v27 h28 =>
 tR (ld v27 h28) fun v29 h30 =>
 tR (mup (.one .i) v29 x23 x24 h30) fun v31 h32 =>
 .ret (T32 (.bool true)) h32) (y0 r) (y1 r) (y2 r)
def k149_0 : KF := fun c i x r h => (fun (x0 x1 x2 : AV) =>
 x (T38 x0 x1 x2) h) (y0 r) (y1 r) (y2 r)
def x149 : AC := (.shal k149_0 (.seq (.shal k149_1 (.seq (.ops [m d18 r8,
 m d19 r18,
 .g .h1 .h3 false d20 (.op (.mv r1)),
 .g .h1 .h3 false d21 (.op (.mv r0)),
 .g .h1 .h3 false d22 (.op (.nilc r21)),
 .g .h1 .h3 false d23 (.op (.fad 1 r22)),
 .g .h1 .h3 false d24 (.op (.ld1 r23)),
 .g .h1 .h3 false d25 (.op (.bin .lt r20 r24)),
 o d26 (.pick r19 (.c (.bool true)) r25),
 m d27 r26,
 .g .h1 .hb false d28 (.op (.mv r1)),
 .g .h1 .hb false d29 (.op (.bin .ge r28 (.c (pi 1048576)))),
 o d30 (.pick r27 (.c (.bool true)) r29)]) (.shal k149_2 .skip))) (.shal k149_3 .skip)))
def z149 : List Rs := [.t .h0 .h6]
def f149 : AF := .mk x149 z149
def k150_0 : KF := fun c i x r h => (fun (x0 x1 : AV) =>
 tR (nic x0 h) fun v2 h3 =>
 tR (fa 1 v2 h3) fun v4 h5 =>
 tR (ld v4 h5) fun v6 h7 =>
 tR (b_gt x1 v6 h7) fun v8 h9 =>
 ifR v8 (tT (c 144 [x0,x1] h9) fun v10 h11 =>
 tR (nic x0 h11) fun v12 h13 =>
 tR (fa 1 v12 h13) fun v14 h15 =>
 tR (sto v14 x1 h15) fun v16 h17 =>
 .nm T26 h17) (.nm T26 h9)) (y0 r) (y1 r)
def x150 : AC := (.shal k150_0 .skip)
def z150 : List Rs := []
def f150 : AF := .mk x150 z150
def k151_0 : KF := fun c i x r h => tR (o_build [.nils] [] .nil h) fun v0 h1 =>
 tR (o_box 225 (.c v0) .nil h1) fun v2 h3 =>
 .ret (T1 v2) h3
def x151 : AC := (.shal k151_0 .skip)
def z151 : List Rs := [.t .h0 .h0]
def f151 : AF := .mk x151 z151
def k152_0 : KF := fun c i x r h => (fun (x0 x1 : AV) =>
 tR (cK (.toInt .u64) x1 h) fun v2 h3 =>
 tT (c 140 [x0,v2,(pi 1)] h3) fun v4 h5 =>
 .nm T26 h5) (y0 r) (y1 r)
def x152 : AC := (.shal k152_0 .skip)
def z152 : List Rs := []
def f152 : AF := .mk x152 z152
def k153_0 : KF := fun c i x r h => (fun (x0 : AV) =>
 tT (c 151 [] h) fun v1 h2 =>
 tT (c 146 [x0] h2) fun v3 h4 =>
 tR (len v3 h4) fun v5 h6 =>
 tT (c 85 [v1,v5] h6) fun v7 h8 =>
 tT (c 154 [v1] h8) fun v9 h10 =>
 tR (appV 5 1 v9 v3 h10) fun v11 h12 =>
 .ret (T20 v11) h12) (y0 r)
def x153 : AC := (.shal k153_0 .skip)
def z153 : List Rs := [.t .h0 .h2]
def f153 : AF := .mk x153 z153
def k154_0 : KF := fun c i x r h => (fun (x0 : AV) =>
 tR (nic x0 h) fun v1 h2 =>
 tR (fa 0 v1 h2) fun v3 h4 =>
 tR (ld v3 h4) fun v5 h6 =>
 tT (c 92 [v5] h6) fun v7 h8 =>
 .ret (T20 v7) h8) (y0 r)
def x154 : AC := (.shal k154_0 .skip)
def z154 : List Rs := [.t .h0 .h2]
def f154 : AF := .mk x154 z154
def k155_0 : KF := fun c i x r h => (fun (x0 x1 : AV) =>
 tT (c 190 [x0] h) fun v2 h3 =>
 tT (c 191 [v2,x1] h3) fun v4 h5 =>
 .ret (T12 v2) h5) (y0 r) (y1 r)
def x155 : AC := (.shal k155_0 .skip)
def z155 : List Rs := [.t .h0 .h4]
def f155 : AF := .mk x155 z155
def k156_0 : KF := fun c i x r h => (fun (x0 : AV) =>
 tR (o_box 95 (.c x0) .nil h) fun v1 h2 =>
 .ret (T20 (.fn 192 [v1])) h2) (y0 r)
def x156 : AC := (.shal k156_0 .skip)
def z156 : List Rs := [.t .h0 .h2]
def f156 : AF := .mk x156 z156
def k157_0 : KF := fun c i x r h => (fun (x0 x1 x2 : AV) =>
 tR (o_box 125 (.c x0) .nil h) fun v3 h4 =>
 tR (o_box 125 (.c x1) .nil h4) fun v5 h6 =>
 tQ (fa 2 x2 h6) fun v7 =>
 tQ (ld v7 h6) fun v8 =>
 tQ (o_ldn 3 (.c v3) .nil h6) fun v9 =>
 tQ (lkp (.agg [.i,.i,.i]) (pi 0) false v8 v9 h6) fun v10 =>
 tQ (fa 2 x2 h6) fun v11 =>
 tQ (ld v11 h6) fun v12 =>
 tQ (o_ldn 3 (.c v5) .nil h6) fun v13 =>
 tQ (lkp (.agg [.i,.i,.i]) (pi 0) false v12 v13 h6) fun v14 =>
 tQ (b_sub v10 v14 h6) fun v15 =>
 .ret (T23 v15) h6) (y0 r) (y1 r) (y2 r)
def x157 : AC := (.shal k157_0 .skip)
def z157 : List Rs := [.t .h0 .h5]
def f157 : AF := .mk x157 z157
def k158_0 : KF := fun c i x r h => (fun (x0 x1 : AV) =>
 tR (o_box 125 (.c x1) .nil h) fun v2 h3 =>
 tR (fa 0 v2 h3) fun v4 h5 =>
 tR (ld v4 h5) fun v6 h7 =>
 tT (c 85 [x0,v6] h7) fun v8 h9 =>
 tR (fa 1 v2 h9) fun v10 h11 =>
 tR (ld v10 h11) fun v12 h13 =>
 tT (c 85 [x0,v12] h13) fun v14 h15 =>
 tR (fa 2 v2 h15) fun v16 h17 =>
 tR (ld v16 h17) fun v18 h19 =>
 tT (c 85 [x0,v18] h19) fun v20 h21 =>
 .nm T26 h21) (y0 r) (y1 r)
def x158 : AC := (.shal k158_0 .skip)
def z158 : List Rs := []
def f158 : AF := .mk x158 z158
def k159_0 : KF := fun c i x r h => (fun (x0 x1 : AV) =>
 tR (lent x1 h) fun v2 h3 =>
 tT (c 193 [x0,v2] h3) fun v4 h5 =>
 tR (nic x0 h5) fun v6 h7 =>
 tR (fa 0 v6 h7) fun v8 h9 =>
 tR (ld v8 h9) fun v10 h11 =>
 tR (o_apps 5 (.c v10) (.c x1) .nil h11) fun v12 h13 =>
 tR (nic x0 h13) fun v14 h15 =>
 tR (fa 0 v14 h15) fun v16 h17 =>
 tR (sto v16 v12 h17) fun v18 h19 =>
 .nm T26 h19) (y0 r) (y1 r)
def x159 : AC := (.shal k159_0 .skip)
def z159 : List Rs := []
def f159 : AF := .mk x159 z159
def k160_0 : KF := fun c i x r h => (fun (x0 x1 x2 : AV) =>
 tR (fa 0 x1 h) fun v3 h4 =>
 tR (ld v3 h4) fun v5 h6 =>
 tT (c 85 [x0,v5] h6) fun v7 h8 =>
 tR (ld x2 h8) fun v9 h10 =>
 tR (b_eq v9 (pi 4) h10) fun v11 h12 =>
 ifR v11 (tR (fa 3 x1 h12) fun v13 h14 =>
 tR (ld v13 h14) fun v15 h16 =>
 tT (c 105 [x0,v15] h16) fun v17 h18 =>
 .nm T26 h18) (.nm T26 h12)) (y0 r) (y1 r) (y2 r)
def x160 : AC := (.shal k160_0 .skip)
def z160 : List Rs := []
def f160 : AF := .mk x160 z160
def k161_0 : KF := fun c i x r h => (fun (x0 : AV) =>
 tR (o_alloc 125 3 (.k1 (.mk (pi 0) (pi 0) (pi 0) .undef .undef .undef .undef .undef .undef .undef .undef .undef .undef .undef .undef .undef)) .nil h) fun v1 h2 =>
 tR (cK (.s2b 5) x0 h2) fun v3 h4 =>
 tT (c 63 [v3] h4) fun v5 h6 =>
 tT (c 139 [v5] h6) fun v7 h8 =>
 tR (o_alloc 125 3 (.k1 (.mk (pi 0) (pi 0) (pi 0) .undef .undef .undef .undef .undef .undef .undef .undef .undef .undef .undef .undef .undef)) .nil h8) fun v9 h10 =>
 tR (o_stn 3 (.c v9) (.c v7) .nil h10) fun v11 h12 =>
 tT (c 68 [v5] h12) fun v13 h14 =>
 tR (b_eq v13 (pi 1) h14) fun v15 h16 =>
 x (T119 x0 v1 v5 v9 v15) h16) (y0 r)
def x161 : AC := (.shal k161_0 (.seq (.drw [q 0 (m d21 r5),
 w (.o d22 (.call 194 [r21])),
 q 1 (o d16 (.ldn 3 r6)),
 w (o .no (.stn 3 r2 r16)),
 q 2 (m d17 r7),
 q 2 (m d18 r0),
 q 2 (m d19 r0),
 q 2 (o d20 (.lent r19)),
 q 1 (o d23 (.bin .sub r20 r22)),
 q 1 (o d24 (.slcs r18 (.some r23) .none)),
 q 0 (m d3 r17),
 q 0 (m d4 r24)]) .ret))
def z161 : List Rs := [.agg 3 .h0 .h2,.t .h0 .h3,.t .h0 .h4]
def f161 : AF := .mk x161 z161
def k162_3 : KF := fun c i x r h => (fun (x47 x48 : AV) =>
 tQ (nic x47 h) fun v49 =>
 tQ (fa 0 v49 h) fun v50 =>
 tQ (ld v50 h) fun v51 =>
 tQ (nic x47 h) fun v52 =>
 tQ (fa 1 v52 h) fun v53 =>
 tQ (ld v53 h) fun v54 =>
 tQ (b_sub v54 x48 h) fun v55 =>
 tQ (nic x47 h) fun v56 =>
 tQ (fa 1 v56 h) fun v57 =>
 tQ (ld v57 h) fun v58 =>
 tQ (o_slc 1 (.c v51) (.some (.c v55)) (.some (.c v58)) .none .nil h) fun v59 =>
 .ret (T12 v59) h) (y0 r) (y1 r)
def k162_2 : KF := fun c i x r h => (fun (x31 x32 : AV) =>
 tR (nic x31 h) fun v33 h34 =>
 tR (fa 1 v33 h34) fun v35 h36 =>
 tR (ld v35 h36) fun v37 h38 =>
 tR (b_add v37 x32 h38) fun v39 h40 =>
 tR (nic x31 h40) fun v41 h42 =>
 tR (fa 1 v41 h42) fun v43 h44 =>
 tR (sto v43 v39 h44) fun v45 h46 =>
 x (T13 x31 x32) h46) (y0 r) (y1 r)
def k162_1 : KF := fun c i x r h => (fun (x10 x11 : AV) =>
 tQ (nic x10 h) fun v12 =>
 tQ (fa 0 v12 h) fun v13 =>
 tQ (ld v13 h) fun v14 =>
 tQ (len v14 h) fun v15 =>
 tQ (nic x10 h) fun v16 =>
 tQ (fa 1 v16 h) fun v17 =>
 tQ (ld v17 h) fun v18 =>
 tQ (b_sub v15 v18 h) fun v19 =>
 tQ (b_gt x11 v19 h) fun v20 =>
 ifR v20 (tR (nic x10 h) fun v21 h22 =>
 tR (fa 0 v21 h22) fun v23 h24 =>
 tR (ld v23 h24) fun v25 h26 =>
 tR (len v25 h26) fun v27 h28 =>
 tT (c 189 [x10,(pi 10),v27] h28) fun v29 h30 =>
 .ret (T12 .nils) h30) (x (T13 x10 x11) h)) (y0 r) (y1 r)
def k162_0 : KF := fun c i x r h => (fun (x0 x1 : AV) =>
 tR (nic x0 h) fun v2 h3 =>
 tR (fa 2 v2 h3) fun v4 h5 =>
 tR (ld v4 h5) fun v6 h7 =>
 tR (b_ne v6 (pi 0) h7) fun v8 h9 =>
 ifR v8 (.ret (T12 .nils) h9) (x (T13 x0 x1) h9)) (y0 r) (y1 r)
def x162 : AC := (.shal k162_0 (.shal k162_1 (.shal k162_2 (.shal k162_3 .skip))))
def z162 : List Rs := [.t .h0 .h4]
def f162 : AF := .mk x162 z162
def k163_0 : KF := fun c i x r h => (fun (x0 x1 : AV) =>
 tR (o_ldn 2 (.c x1) .nil h) fun v2 h3 =>
 tT (c 104 [x0,v2] h3) fun v4 h5 =>
 .nm T26 h5) (y0 r) (y1 r)
def x163 : AC := (.shal k163_0 .skip)
def z163 : List Rs := []
def f163 : AF := .mk x163 z163
def k164_0 : KF := fun c i x r h => (fun (x0 x1 : AV) =>
 tR (ld x1 h) fun v2 h3 =>
 tR (nic v2 h3) fun v4 h5 =>
 tR (fa 7 v4 h5) fun v6 h7 =>
 tR (ld v6 h7) fun v8 h9 =>
 tT (c 107 [v8] h9) fun v10 h11 =>
 tT (c 104 [x0,v10] h11) fun v12 h13 =>
 .nm T26 h13) (y0 r) (y1 r)
def x164 : AC := (.shal k164_0 .skip)
def z164 : List Rs := []
def f164 : AF := .mk x164 z164
def k165_0 : KF := fun c i x r h => (fun (x0 x1 : AV) =>
 x (T13 x0 x1) h) (y0 r) (y1 r)
def x165 : AC := (.shal k165_0 (.seq (.ops [m d5 r1,
 o d6 (.bin .ge r5 (.c (pi 0))),
 m d7 r6,
 .g .h0 .h7 true d8 (.op (.mv r1)),
 .g .h0 .h7 true d9 (.op (.mv r0)),
 .g .h0 .h7 true d10 (.op (.nilc r9)),
 .g .h0 .h7 true d11 (.op (.fad 1 r10)),
 .g .h0 .h7 true d12 (.op (.ld1 r11)),
 .g .h0 .h7 true d13 (.op (.bin .lt r8 r12)),
 o d14 (.pick r7 r13 (.c (.bool false))),
 m d4 r14]) .ret))
def z165 : List Rs := [.t .h0 .h4]
def f165 : AF := .mk x165 z165
def k166_0 : KF := fun c i x r h => (fun (x0 x1 x2 x3 x4 : AV) =>
 tR (o_ldn 2 (.c x1) .nil h) fun v5 h6 =>
 tT (c 104 [x0,v5] h6) fun v7 h8 =>
 tR (ld x2 h8) fun v9 h10 =>
 tT (c 85 [x0,v9] h10) fun v11 h12 =>
 tR (ld x3 h12) fun v13 h14 =>
 tR (b_eq v13 (pi 2) h14) fun v15 h16 =>
 ifR v15 (tR (ld x4 h16) fun v17 h18 =>
 tT (c 105 [x0,v17] h18) fun v19 h20 =>
 .nm T26 h20) (.nm T26 h16)) (y0 r) (y1 r) (y2 r) (y3 r) (y4 r)
def x166 : AC := (.shal k166_0 .skip)
def z166 : List Rs := []
def f166 : AF := .mk x166 z166
def k167_1 : KF := fun c i x r h => (fun (x6 x7 x8 x9 x10 : AV) =>
 ifR x10 (.ret (T107 (.bool false)) h) (.nm (T120 x6 x7 x8 x9) h)) (y0 r) (y2 r) (y3 r) (y5 r) (y27 r)
def k167_3 : KF := fun c i x r h => (fun (x30 x31 : AV) =>
 tR (nic x30 h) fun v32 h33 =>
 tR (fa 3 v32 h33) fun v34 h35 =>
 tR (ld v34 h35) fun v36 h37 =>
 tR (b_add x31 (pi 1) h37) fun v38 h39 =>
 tR (maxV false [v36,v38] h39) fun v40 h41 =>
 tR (nic x30 h41) fun v42 h43 =>
 tR (fa 3 v42 h43) fun v44 h45 =>
 tR (sto v44 v40 h45) fun v46 h47 =>
 .ret (T107 (.bool true)) h47) (y0 r) (y2 r)
def k167_2 : KF := fun c i x r h => (fun (x11 x12 x13 x14 : AV) =>
 tR (o_ldn 2 (.c x14) .nil h) fun v15 h16 =>
 tR (nic x11 h16) fun v17 h18 =>
 tR (fa 0 v17 h18) fun v19 h20 =>
 tR (o_stn 2 (.c v19) (.c v15) .nil h20) fun v21 h22 =>
 tQ (nic x11 h22) fun v23 =>
 tQ (fa 2 v23 h22) fun v24 =>
 tQ (ld v24 h22) fun v25 =>
 tQ (o_ldn 2 (.c x14) .nil h22) fun v26 =>
 tQ (o_build [(pi 0),(pi 0),(pi 0),(.str [])] [.mk 0 1 (.c x12),.mk 1 2 (.c v26),.mk 3 1 (.c x13)] .nil h22) fun v27 =>
 tX (RV.toT (mup (.one .i) v25 x12 v27 h22)) fun v28 h29 =>
 x (T68 x11 x12) h29) (y0 r) (y2 r) (y3 r) (y5 r)
def k167_0 : KF := fun c i x r h => (fun (x0 x1 x2 x3 : AV) =>
 tR (o_box 129 (.c x1) .nil h) fun v4 h5 =>
 x (T120 x0 x2 x3 v4) h5) (y0 r) (y1 r) (y2 r) (y3 r)
def x167 : AC := (.shal k167_0 (.seq (.seq (.drw [q 0 (o d9 (.ldn 2 r5)),
 q 0 (m d10 r0),
 q 0 (o d11 (.nilc r10)),
 q 0 (o d12 (.fad 0 r11)),
 q 0 (o d13 (.ldn 2 r12)),
 w (.o d14 (.call 133 [r9,r13])),
 q 0 (m d15 r14),
 q 0 (.g .h0 .hf false d16 (.op (.ldn 2 r5))),
 q 0 (.g .h0 .hf false d17 (.op (.build [(pi 0),(pi 0)] []))),
 q 0 (.g .h0 .hf false d18 (.op (.bin (.aeq [.i,.i]) r16 r17))),
 q 0 (o d19 (.pick r15 (.c (.bool true)) r18)),
 q 0 (m d20 r19),
 q 0 (.g .h1 .h4 false d21 (.op (.mv r2))),
 q 0 (.g .h1 .h4 false d22 (.op (.bin .lt r21 (.c (pi 0))))),
 q 0 (o d23 (.pick r20 (.c (.bool true)) r22)),
 q 0 (m d24 r23),
 q 0 (.g .h1 .h8 false d25 (.op (.mv r2))),
 q 0 (.g .h1 .h8 false d26 (.op (.bin .ge r25 (.c (pi 1048576))))),
 q 0 (o d27 (.pick r24 (.c (.bool true)) r26))]) (.shal k167_1 .skip)) (.shal k167_2 (.shal k167_3 .skip))))
def z167 : List Rs := [.t .h0 .h8]
def f167 : AF := .mk x167 z167
def k168_0 : KF := fun c i x r h => (fun (x0 x1 : AV) =>
 tR (b_mul (pi 2) x1 h) fun v2 h3 =>
 tR (nic x0 h3) fun v4 h5 =>
 tR (fa 1 v4 h5) fun v6 h7 =>
 tR (ld v6 h7) fun v8 h9 =>
 tR (b_gt v2 v8 h9) fun v10 h11 =>
 .ret (T12 v10) h11) (y0 r) (y1 r)
def x168 : AC := (.shal k168_0 .skip)
def z168 : List Rs := [.t .h0 .h4]
def f168 : AF := .mk x168 z168
end
end Go.Am.Seat
