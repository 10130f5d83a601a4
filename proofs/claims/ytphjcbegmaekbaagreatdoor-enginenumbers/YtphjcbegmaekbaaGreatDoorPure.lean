/- Calls without places, by their arguments and answers. Nothing is asked. -/
import Derived.Test.YtphjcbegmaekbaaGreatDoorFast2
import Derived.Test.YtphjcbegmaekbaaGreatDoorG0
set_option linter.all false
namespace Go.Am.Seat
set_option maxRecDepth 20000
noncomputable section
def Gw:List (List AV×AV):=[([(.str [117])],(.bool false)),([(.str [111])],(.bool false)),([(.str [118,100])],(.bool false)),([(.str [115])],(.bool false)),([(.str [97])],(.bool false)),([(.str [107])],(.bool false)),([(.str [116])],(.bool false)),([(.str [118,99])],(.bool false)),([(.str [99])],(.bool false)),([(.str [118,98])],(.bool false)),([(.str [120])],(.bool false)),([(.str [112])],(.bool false)),([(.str [109])],(.bool false)),([(.str [118,97])],(.bool false)),([(.str [98])],(.bool false)),([(.str [118,101])],(.bool false)),([(.str [110])],(.bool false))]
def h256:AF:=eW (.fn (aX Gw)) f256
def Gx:List (List AV×AV):=[([(pi 2),i0],(.aM .f64 4611686018427387904 0)),([i1,i0],(.aM .f64 4607182418800017408 0)),([i0,i1],(.aM .f64 0 4607182418800017408)),([i0,i0],(.aM .f64 0 0))]
def h270:AF:=eW (.fn (aX Gx)) f270
def Gy:List (List AV×AV):=[([(.int .u8 (.ofNat 116))],(.bool true)),([(.int .u8 (.ofNat 107))],(.bool true)),([(.int .u8 (.ofNat 108))],(.bool true)),([(.int .u8 (.ofNat 106))],(.bool true)),([(.int .u8 (.ofNat 101))],(.bool true)),([(.int .u8 (.ofNat 103))],(.bool true)),([(.int .u8 (.ofNat 112))],(.bool true)),([(.int .u8 (.ofNat 102))],(.bool true)),([(.int .u8 (.ofNat 120))],(.bool true)),([(.int .u8 (.ofNat 114))],(.bool true)),([(.int .u8 (.ofNat 32))],(.bool false)),([(.int .u8 (.ofNat 117))],(.bool true)),([(.int .u8 (.ofNat 100))],(.bool true)),([(.int .u8 (.ofNat 105))],(.bool true)),([(.int .u8 (.ofNat 99))],(.bool true)),([(.int .u8 (.ofNat 111))],(.bool true)),([(.int .u8 (.ofNat 110))],(.bool true)),([(.int .u8 (.ofNat 115))],(.bool true)),([(.int .u8 (.ofNat 41))],(.bool false)),([(.int .u8 (.ofNat 98))],(.bool true)),([(.int .u8 (.ofNat 109))],(.bool true)),([(.int .u8 (.ofNat 97))],(.bool true))]
def h278:AF:=eW (.fn (aX Gy)) f278
def Gz:List (List AV×AV):=[([(.agg [i1,(pi 5),iS])],(.bool true)),([(.agg [i1,(pi 2),iS])],(.bool true)),([(.agg [i1,i1,iS])],(.bool true)),([(.agg [(pi 2),i0,(.str [120])])],(.bool true)),([(.agg [i1,(pi 4),iS])],(.bool true)),([(.agg [i1,i0,iS])],(.bool true)),([(.agg [i1,(pi 10),iS])],(.bool true)),([(.agg [i1,(pi 7),iS])],(.bool true)),([(.agg [i1,(pi 3),iS])],(.bool true))]
def h303:AF:=eW (.fn (aX Gz)) f303
def GA:List (List AV×AV):=[([(.aM .f64 4607182418800017408 0)],i1),([(.aM .f64 0 4607182418800017408)],(ni 0)),([(.aM .f64 4611686018427387904 0)],(pi 2))]
def h305:AF:=eW (.fn (aX GA)) f305
def GB:List (List AV×AV):=[([(.agg [i1,(pi 5),iS])],(.bool false)),([(.agg [i1,(pi 2),iS])],(.bool false)),([(.agg [i1,i1,iS])],(.bool false)),([(.agg [(pi 2),i0,(.str [120])])],(.bool false)),([(.agg [i1,(pi 4),iS])],(.bool false)),([(.agg [i1,i0,iS])],(.bool false)),([(.agg [i1,(pi 10),iS])],(.bool false)),([(.agg [i1,(pi 7),iS])],(.bool false)),([(.agg [i1,(pi 3),iS])],(.bool false))]
def h330:AF:=eW (.fn (aX GB)) f330
def GC:List (List AV×AV):=[([(.gA .f64 4611686018427387904)],(.bool true)),([(.gA .f64 4607182418800017408)],(.bool true)),([(.gA .f64 0)],(.bool true))]
def h331:AF:=eW (.fn (aX GC)) f331
def GD:List (List AV×AV):=[([(pi 2)],(.aM .f64 4611686018427387904 0)),([(ni 0)],(.aM .f64 0 4607182418800017408)),([i1],(.aM .f64 4607182418800017408 0)),([i0],(.aM .f64 0 0))]
def h332:AF:=eW (.fn (aX GD)) f332
def GF:List (List AV×AV):=[([(.int .u8 (.ofNat 116))],(.bool true)),([(.int .u8 (.ofNat 107))],(.bool true)),([(.int .u8 (.ofNat 108))],(.bool true)),([(.int .u8 (.ofNat 106))],(.bool true)),([(.int .u8 (.ofNat 101))],(.bool true)),([(.int .u8 (.ofNat 103))],(.bool true)),([(.int .u8 (.ofNat 112))],(.bool true)),([(.int .u8 (.ofNat 102))],(.bool true)),([(.int .u8 (.ofNat 120))],(.bool true)),([(.int .u8 (.ofNat 114))],(.bool true)),([(.int .u8 (.ofNat 32))],(.bool false)),([(.int .u8 (.ofNat 117))],(.bool true)),([(.int .u8 (.ofNat 100))],(.bool true)),([(.int .u8 (.ofNat 105))],(.bool true)),([(.int .u8 (.ofNat 99))],(.bool true)),([(.int .u8 (.ofNat 111))],(.bool true)),([(.int .u8 (.ofNat 110))],(.bool true)),([(.int .u8 (.ofNat 115))],(.bool true)),([(.int .u8 (.ofNat 41))],(.bool false)),([(.int .u8 (.ofNat 98))],(.bool true)),([(.int .u8 (.ofNat 109))],(.bool true)),([(.int .u8 (.ofNat 97))],(.bool true))]
def h334:AF:=eW (.fn (aX GF)) f334
def GG:List (List AV×AV):=[([(.aM .f64 0 0),(.aM .f64 0 4607182418800017408)],(.eS [(.aM .f64 0 4607182418800017408),(.bool true)])),([(.aM .f64 0 0),(.aM .f64 4611686018427387904 0)],(.eS [(.aM .f64 4611686018427387904 0),(.bool true)])),([(.aM .f64 4607182418800017408 0),(.aM .f64 0 4607182418800017408)],(.eS [(.aM .f64 0 0),(.bool true)])),([(.aM .f64 4607182418800017408 0),(.aM .f64 4607182418800017408 0)],(.eS [(.aM .f64 4611686018427387904 0),(.bool true)])),([(.aM .f64 0 0),(.aM .f64 4607182418800017408 0)],(.eS [(.aM .f64 4607182418800017408 0),(.bool true)]))]
def h384:AF:=eW (.fn (aX GG)) f384
def GH:List (List AV×AV):=[([(.str [117])],(.bool true)),([(.str [111])],(.bool true)),([(.str [118,100])],(.bool true)),([(.str [115])],(.bool true)),([(.str [97])],(.bool true)),([(.str [107])],(.bool true)),([(.str [116])],(.bool true)),([(.str [118,99])],(.bool true)),([(.str [99])],(.bool true)),([(.str [118,98])],(.bool true)),([(.str [120])],(.bool true)),([(.str [112])],(.bool true)),([(.str [109])],(.bool true)),([(.str [118,97])],(.bool true)),([(.str [98])],(.bool true)),([(.str [118,101])],(.bool true)),([(.str [110])],(.bool true))]
def h129:AF:=eW (.fn (aX GH)) f129
def GJ:List (List AV×AV):=[([(.str [108,116])],(pi 2)),([(.str [97,100,100])],(pi 2)),([(.str [109,117,108])],(pi 2))]
def h389:AF:=eW (.fn (aX GJ)) f389
def GK:List (List AV×AV):=[([(.aM .f64 4607182418800017408 0)],(.eS [i1,i0,(.bool true)])),([(.aM .f64 0 4607182418800017408)],(.eS [i0,i1,(.bool true)])),([(.aM .f64 4611686018427387904 0)],(.eS [(pi 2),i0,(.bool true)]))]
def h401:AF:=eW (.fn (aX GK)) f401
def GL:List (List AV×AV):=[([(.aM .f64 0 0)],i0),([(.aM .f64 4607182418800017408 0)],i1),([(.aM .f64 0 4607182418800017408)],(ni 0)),([(.aM .f64 4611686018427387904 0)],(pi 2))]
def h147:AF:=eW (.fn (aX GL)) f147
def GM:List (List AV×AV):=[([(.aM .f64 4607182418800017408 0)],(.aM .f64 4607182418800017408 0)),([(.aM .f64 4611686018427387904 0)],(.aM .f64 4611686018427387904 0))]
def h405:AF:=eW (.fn (aX GM)) f405
def GN:List (List AV×AV):=[([(.gA .f64 4611686018427387904)],(.gA .f64 4611686018427387904)),([(.gA .f64 4607182418800017408)],(.gA .f64 4607182418800017408)),([(.gA .f64 0)],(.gA .f64 0))]
def h414:AF:=eW (.fn (aX GN)) f414
def GO:List (List AV×AV):=[([(.agg [i1,(pi 2),iS]),(.agg [i1,(pi 5),iS])],(ni 0)),([(.agg [i1,i0,iS]),(.agg [i1,i1,iS])],(ni 0)),([(.agg [i1,(pi 4),iS]),(.agg [i1,i1,iS])],i1),([(.agg [(pi 2),i0,(.str [120])]),(.agg [(pi 2),i0,(.str [120])])],i0),([(.agg [i1,(pi 10),iS]),(.agg [i1,(pi 4),iS])],i1),([(.agg [i1,(pi 5),iS]),(.agg [i1,(pi 5),iS])],i0),([(.agg [i1,(pi 2),iS]),(.agg [i1,(pi 4),iS])],(ni 0)),([(.agg [i1,i0,iS]),(.agg [i1,(pi 3),iS])],(ni 0)),([(.agg [i1,(pi 3),iS]),(.agg [i1,(pi 3),iS])],i0),([(.agg [i1,(pi 3),iS]),(.agg [i1,i0,iS])],i1),([(.agg [i1,i0,iS]),(.agg [i1,(pi 4),iS])],(ni 0)),([(.agg [i1,(pi 2),iS]),(.agg [i1,(pi 2),iS])],i0),([(.agg [i1,(pi 3),iS]),(.agg [i1,(pi 7),iS])],(ni 0)),([(.agg [i1,(pi 7),iS]),(.agg [i1,(pi 5),iS])],i1),([(.agg [i1,(pi 5),iS]),(.agg [i1,(pi 2),iS])],i1),([(.agg [i1,i0,iS]),(.agg [i1,i0,iS])],i0),([(.agg [i1,(pi 3),iS]),(.agg [i1,(pi 2),iS])],i1),([(.agg [i1,(pi 10),iS]),(.agg [i1,(pi 10),iS])],i0),([(.agg [i1,(pi 3),iS]),(.agg [i1,(pi 5),iS])],(ni 0)),([(.agg [i1,(pi 4),iS]),(.agg [i1,(pi 4),iS])],i0),([(.agg [i1,(pi 2),iS]),(.agg [i1,(pi 3),iS])],(ni 0)),([(.agg [i1,(pi 4),iS]),(.agg [i1,(pi 2),iS])],i1),([(.agg [i1,(pi 7),iS]),(.agg [i1,(pi 7),iS])],i0),([(.agg [i1,i1,iS]),(.agg [i1,(pi 4),iS])],(ni 0)),([(.agg [i1,(pi 5),iS]),(.agg [i1,(pi 3),iS])],i1),([(.agg [i1,(pi 5),iS]),(.agg [i1,(pi 7),iS])],(ni 0)),([(.agg [i1,i1,iS]),(.agg [i1,i1,iS])],i0),([(.agg [i1,(pi 2),iS]),(.agg [i1,i1,iS])],i1),([(.agg [i1,i0,iS]),(.agg [i1,(pi 2),iS])],(ni 0)),([(.agg [i1,i1,iS]),(.agg [i1,i0,iS])],i1),([(.agg [i1,i1,iS]),(.agg [i1,(pi 2),iS])],(ni 0))]
def h416:AF:=eW (.fn (aX GO)) f416
def GP:List (List AV×AV):=[([(.agg [i1,(pi 2),iS]),(.agg [i1,(pi 5),iS])],(.bool true)),([(.agg [i1,i0,iS]),(.agg [i1,i1,iS])],(.bool true)),([(.agg [(pi 2),i0,(.str [120])]),(.agg [(pi 2),i0,(.str [120])])],(.bool false)),([(.agg [i1,(pi 4),iS]),(.agg [i1,i1,iS])],(.bool false)),([(.agg [i1,(pi 10),iS]),(.agg [i1,(pi 4),iS])],(.bool false)),([(.agg [i1,(pi 5),iS]),(.agg [i1,(pi 5),iS])],(.bool false)),([(.agg [i1,(pi 2),iS]),(.agg [i1,(pi 4),iS])],(.bool true)),([(.agg [i1,i0,iS]),(.agg [i1,(pi 3),iS])],(.bool true)),([(.agg [i1,(pi 3),iS]),(.agg [i1,(pi 3),iS])],(.bool false)),([(.agg [i1,(pi 3),iS]),(.agg [i1,i0,iS])],(.bool false)),([(.agg [i1,i0,iS]),(.agg [i1,(pi 4),iS])],(.bool true)),([(.agg [i1,(pi 2),iS]),(.agg [i1,(pi 2),iS])],(.bool false)),([(.agg [i1,(pi 3),iS]),(.agg [i1,(pi 7),iS])],(.bool true)),([(.agg [i1,(pi 7),iS]),(.agg [i1,(pi 5),iS])],(.bool false)),([(.agg [i1,(pi 5),iS]),(.agg [i1,(pi 2),iS])],(.bool false)),([(.agg [i1,(pi 4),iS]),(.agg [i1,(pi 10),iS])],(.bool true)),([(.agg [i1,i0,iS]),(.agg [i1,i0,iS])],(.bool false)),([(.agg [i1,(pi 3),iS]),(.agg [i1,(pi 2),iS])],(.bool false)),([(.agg [i1,(pi 10),iS]),(.agg [i1,(pi 10),iS])],(.bool false)),([(.agg [i1,(pi 3),iS]),(.agg [i1,(pi 5),iS])],(.bool true)),([(.agg [i1,(pi 4),iS]),(.agg [i1,(pi 4),iS])],(.bool false)),([(.agg [i1,(pi 2),iS]),(.agg [i1,(pi 3),iS])],(.bool true)),([(.agg [i1,(pi 4),iS]),(.agg [i1,(pi 2),iS])],(.bool false)),([(.agg [i1,(pi 7),iS]),(.agg [i1,(pi 7),iS])],(.bool false)),([(.agg [i1,i1,iS]),(.agg [i1,(pi 4),iS])],(.bool true)),([(.agg [i1,(pi 5),iS]),(.agg [i1,(pi 3),iS])],(.bool false)),([(.agg [i1,(pi 5),iS]),(.agg [i1,(pi 7),iS])],(.bool true)),([(.agg [i1,i1,iS]),(.agg [i1,i1,iS])],(.bool false)),([(.agg [i1,(pi 2),iS]),(.agg [i1,i1,iS])],(.bool false)),([(.agg [i1,i0,iS]),(.agg [i1,(pi 2),iS])],(.bool true)),([(.agg [i1,i1,iS]),(.agg [i1,i0,iS])],(.bool false)),([(.agg [i1,i1,iS]),(.agg [i1,(pi 2),iS])],(.bool true))]
def h417:AF:=eW (.fn (aX GP)) f417
def GQ:List (List AV×AV):=[([(.str [117])],(.bool true)),([(.str [111])],(.bool true)),([(.str [118,100])],(.bool true)),([(.str [115])],(.bool true)),([(.str [97])],(.bool true)),([(.str [107])],(.bool true)),([(.str [116])],(.bool true)),([(.str [118,99])],(.bool true)),([(.str [99])],(.bool true)),([(.str [118,98])],(.bool true)),([(.str [120])],(.bool true)),([(.str [112])],(.bool true)),([(.str [109])],(.bool true)),([(.str [118,97])],(.bool true)),([(.str [98])],(.bool true)),([(.str [118,101])],(.bool true)),([(.str [110])],(.bool true))]
def h166:AF:=eW (.fn (aX GQ)) f166
def GR:List (List AV×AV):=[([i1,(.bool true)],(.eS [(.aM .f64 4607182418800017408 0),(.bool true)])),([(pi 2),(.bool true)],(.eS [(.aM .f64 4611686018427387904 0),(.bool true)])),([(ni 0),(.bool true)],(.eS [(.aM .f64 0 4607182418800017408),(.bool true)])),([i0,(.bool true)],(.eS [(.aM .f64 0 0),(.bool true)]))]
def h438:AF:=eW (.fn (aX GR)) f438
def GS:List (List AV×AV):=[([(.agg [i1,i1,iS]),(.agg [i1,(pi 3),iS])],(.bool true)),([(.agg [i1,(pi 2),iS]),(.agg [i1,(pi 5),iS])],(.bool true)),([(.agg [i1,i0,iS]),(.agg [i1,i1,iS])],(.bool true)),([(.agg [i1,(pi 10),iS]),(.agg [i1,i1,iS])],(.bool false)),([(.agg [(pi 2),i0,(.str [120])]),(.agg [(pi 2),i0,(.str [120])])],(.bool false)),([(.agg [i1,(pi 4),iS]),(.agg [i1,i1,iS])],(.bool false)),([(.agg [i1,(pi 10),iS]),(.agg [i1,(pi 4),iS])],(.bool false)),([(.agg [i1,(pi 5),iS]),(.agg [i1,(pi 5),iS])],(.bool false)),([(.agg [i1,(pi 4),iS]),(.agg [i1,i0,iS])],(.bool false)),([(.agg [i1,(pi 2),iS]),(.agg [i1,(pi 4),iS])],(.bool true)),([(.agg [i1,(pi 4),iS]),(.agg [i1,(pi 5),iS])],(.bool true)),([(.agg [i1,i0,iS]),(.agg [i1,(pi 5),iS])],(.bool true)),([(.agg [i1,i0,iS]),(.agg [i1,(pi 3),iS])],(.bool true)),([(.agg [i1,(pi 10),iS]),(.agg [i1,(pi 2),iS])],(.bool false)),([(.agg [i1,(pi 3),iS]),(.agg [i1,i0,iS])],(.bool false)),([(.agg [i1,(pi 3),iS]),(.agg [i1,(pi 3),iS])],(.bool false)),([(.agg [i1,(pi 4),iS]),(.agg [i1,(pi 3),iS])],(.bool false)),([(.agg [i1,i0,iS]),(.agg [i1,(pi 4),iS])],(.bool true)),([(.agg [i1,(pi 2),iS]),(.agg [i1,(pi 2),iS])],(.bool false)),([(.agg [i1,(pi 3),iS]),(.agg [i1,(pi 7),iS])],(.bool true)),([(.agg [i1,i0,iS]),(.agg [i1,(pi 10),iS])],(.bool true)),([(.agg [i1,(pi 5),iS]),(.agg [i1,(pi 2),iS])],(.bool false)),([(.agg [i1,(pi 4),iS]),(.agg [i1,(pi 10),iS])],(.bool true)),([(.agg [i1,i0,iS]),(.agg [i1,i0,iS])],(.bool false)),([(.agg [i1,i1,iS]),(.agg [i1,(pi 10),iS])],(.bool true)),([(.agg [i1,(pi 3),iS]),(.agg [i1,(pi 10),iS])],(.bool true)),([(.agg [i1,(pi 3),iS]),(.agg [i1,(pi 5),iS])],(.bool true)),([(.agg [i1,(pi 5),iS]),(.agg [i1,(pi 10),iS])],(.bool true)),([(.agg [i1,(pi 10),iS]),(.agg [i1,i0,iS])],(.bool false)),([(.agg [i1,(pi 4),iS]),(.agg [i1,(pi 4),iS])],(.bool false)),([(.agg [i1,(pi 2),iS]),(.agg [i1,i0,iS])],(.bool false)),([(.agg [i1,(pi 4),iS]),(.agg [i1,(pi 2),iS])],(.bool false)),([(.agg [i1,(pi 10),iS]),(.agg [i1,(pi 5),iS])],(.bool false)),([(.agg [i1,i1,iS]),(.agg [i1,(pi 4),iS])],(.bool true)),([(.agg [i1,(pi 3),iS]),(.agg [i1,(pi 4),iS])],(.bool true)),([(.agg [i1,i1,iS]),(.agg [i1,(pi 5),iS])],(.bool true)),([(.agg [i1,(pi 10),iS]),(.agg [i1,(pi 3),iS])],(.bool false)),([(.agg [i1,(pi 5),iS]),(.agg [i1,(pi 7),iS])],(.bool true)),([(.agg [i1,(pi 2),iS]),(.agg [i1,(pi 10),iS])],(.bool true)),([(.agg [i1,i1,iS]),(.agg [i1,i1,iS])],(.bool false)),([(.agg [i1,(pi 2),iS]),(.agg [i1,i1,iS])],(.bool false)),([(.agg [i1,i0,iS]),(.agg [i1,(pi 2),iS])],(.bool true)),([(.agg [i1,i1,iS]),(.agg [i1,i0,iS])],(.bool false)),([(.agg [i1,i1,iS]),(.agg [i1,(pi 2),iS])],(.bool true))]
def h456:AF:=eW (.fn (aX GS)) f456
def GU:List (List AV×AV):=[([(pi 2),i0],(.aM .f64 4611686018427387904 0)),([i1,i0],(.aM .f64 4607182418800017408 0)),([i0,i1],(.aM .f64 0 4607182418800017408)),([i0,i0],(.aM .f64 0 0))]
def h201:AF:=eW (.fn (aX GU)) f201
def GV:List (List AV×AV):=[([(pi 2)],(.eS [(.aM .f64 4611686018427387904 0),(.bool true)])),([i1],(.eS [(.aM .f64 4607182418800017408 0),(.bool true)])),([i0],(.eS [(.aM .f64 0 0),(.bool true)]))]
def h458:AF:=eW (.fn (aX GV)) f458
def GW:List (List AV×AV):=[([(.aM .f64 0 0)],(.bool true)),([(.aM .f64 4607182418800017408 0)],(.bool true)),([(.aM .f64 0 4607182418800017408)],(.bool true)),([(.aM .f64 4611686018427387904 0)],(.bool true))]
def h214:AF:=eW (.fn (aX GW)) f214
def GX:List (List AV×AV):=[([(.aM .f64 4607182418800017408 0)],(.aM .f64 4607182418800017408 0)),([(.aM .f64 0 4607182418800017408)],(.aM .f64 0 4607182418800017408)),([(.aM .f64 4611686018427387904 0)],(.aM .f64 4611686018427387904 0))]
def h215:AF:=eW (.fn (aX GX)) f215
def GY:List (List AV×AV):=[([(.aM .f64 0 0)],(.eS [i0,i0,(.bool true)])),([(.aM .f64 4607182418800017408 0)],(.eS [i1,i0,(.bool true)])),([(.aM .f64 0 4607182418800017408)],(.eS [i0,i1,(.bool true)])),([(.aM .f64 4611686018427387904 0)],(.eS [(pi 2),i0,(.bool true)]))]
def h217:AF:=eW (.fn (aX GY)) f217
def GZ:List (List AV×AV):=[([(.agg [i1,(pi 5),iS])],(.bool true)),([(.agg [i1,(pi 2),iS])],(.bool true)),([(.agg [i1,i1,iS])],(.bool true)),([(.agg [(pi 2),i0,(.str [120])])],(.bool true)),([(.agg [i1,(pi 4),iS])],(.bool true)),([(.agg [i1,i0,iS])],(.bool true)),([(.agg [i1,(pi 10),iS])],(.bool true)),([(.agg [i1,(pi 7),iS])],(.bool true)),([(.agg [i1,(pi 3),iS])],(.bool true))]
def h222:AF:=eW (.fn (aX GZ)) f222
def akm:F1:=.mk h256 f257 f258 f259 .none .none .none .none .none .none .none .none f268 .none h270 f271
def akn:F1:=.mk f272 f273 f274 f275 f276 f277 h278 .none f280 f281 f282 f283 f284 f285 f286 f287
def ako:F1:=.mk f288 f289 f290 f291 f292 f293 f294 f295 f296 f297 f298 f299 f300 f301 f302 h303
def akp:F1:=.mk f304 h305 f306 f307 f308 f309 f310 f311 f312 f313 f314 f315 f316 f317 f318 f319
def akq:F1:=.mk .none .none .none .none .none .none .none .none .none f329 h330 h331 h332 f333 h334 .none
def akr:F1:=.mk h384 f385 .none .none f388 h389 .none .none f392 f393 f394 f395 f396 f397 f398 f399
def apc:F1:=.mk f128 h129 f130 f131 f132 f133 f134 f135 f136 f137 f138 f139 f140 f141 f142 f143
def aks:F1:=.mk f400 h401 f402 f403 f404 h405 f406 f407 f408 f409 .none .none .none f413 h414 f415
def apd:F1:=.mk .none .none f146 h147 f148 f149 f150 f151 f152 f153 f154 f155 f156 f157 .none f159
def akt:F1:=.mk h416 h417 .none .none f420 f421 f422 f423 f424 f425 .none .none .none .none f430 f431
def aku:F1:=.mk f160 f161 f162 f163 .none f165 h166 f167 f168 f169 f170 .none .none f173 f174 f175
def akv:F1:=.mk f432 f433 f434 f435 f436 f437 h438 f439 f440 f441 f442 f443 f444 f445 f446 f447
def akw:F1:=.mk .none .none .none .none f452 .none .none f455 h456 f457 h458 f459 .none f461 .none .none
def akx:F1:=.mk f192 f193 f194 f195 f196 f197 f198 f199 f200 h201 f202 f203 f204 f205 f206 f207
def aky:F1:=.mk f208 f209 f210 .none .none f213 h214 h215 f216 h217 f218 f219 f220 f221 h222 f223
def akz:F2:=.mk akm akn ako akp akq ED EE EF akr aks akt akv akw EG EH EI
def akA:F2:=.mk agU agV agW agX agY agZ aha ahb apc apd aku Ez akx aky EA EC
def pg:Pg:=.mk (.mk akA akz EJ .nil .nil .nil .nil .nil .nil .nil .nil .nil .nil .nil .nil .nil) []
set_option maxRecDepth 1000000
theorem q256:cI lZ 1000000 256 7 Gw=true:=by decide +kernel
theorem q270:cI lZ 1000000 270 7 Gx=true:=by decide +kernel
theorem q278:cI lZ 1000000 278 7 Gy=true:=by decide +kernel
theorem q303:cI lZ 1000000 303 7 Gz=true:=by decide +kernel
theorem q305:cI lZ 1000000 305 7 GA=true:=by decide +kernel
theorem q330:cI lZ 1000000 330 7 GB=true:=by decide +kernel
theorem q331:cI lZ 1000000 331 7 GC=true:=by decide +kernel
theorem q332:cI lZ 1000000 332 7 GD=true:=by decide +kernel
theorem q334:cI lZ 1000000 334 7 GF=true:=by decide +kernel
theorem q384:cI lZ 1000000 384 7 GG=true:=by decide +kernel
theorem q129:cI lZ 1000000 129 7 GH=true:=by decide +kernel
theorem q389:cI lZ 1000000 389 7 GJ=true:=by decide +kernel
theorem q401:cI lZ 1000000 401 7 GK=true:=by decide +kernel
theorem q147:cI lZ 1000000 147 7 GL=true:=by decide +kernel
theorem q405:cI lZ 1000000 405 7 GM=true:=by decide +kernel
theorem q414:cI lZ 1000000 414 7 GN=true:=by decide +kernel
theorem q416:cI lZ 1000000 416 7 GO=true:=by decide +kernel
theorem q417:cI lZ 1000000 417 7 GP=true:=by decide +kernel
theorem q166:cI lZ 1000000 166 7 GQ=true:=by decide +kernel
theorem q438:cI lZ 1000000 438 7 GR=true:=by decide +kernel
theorem q456:cI lZ 1000000 456 7 GS=true:=by decide +kernel
theorem q201:cI lZ 1000000 201 7 GU=true:=by decide +kernel
theorem q458:cI lZ 1000000 458 7 GV=true:=by decide +kernel
theorem q214:cI lZ 1000000 214 7 GW=true:=by decide +kernel
theorem q215:cI lZ 1000000 215 7 GX=true:=by decide +kernel
theorem q217:cI lZ 1000000 217 7 GY=true:=by decide +kernel
theorem q222:cI lZ 1000000 222 7 GZ=true:=by decide +kernel
end
end Go.Am.Seat
