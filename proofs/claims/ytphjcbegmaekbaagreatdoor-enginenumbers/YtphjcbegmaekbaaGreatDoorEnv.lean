/- Each function of the table is what the program's function is translated into. Nothing is asked. -/
import Derived.Test.YtphjcbegmaekbaaGreatDoorInsT
import Derived.Test.YtphjcbegmaekbaaGreatDoorEnv0
import Derived.Test.YtphjcbegmaekbaaGreatDoorEnv1
set_option linter.all false
open Go.Proofs
namespace Go.Am.Seat
set_option maxRecDepth 100000
section
theorem mixed:Tryz.prog.follows .mixedOrders=true:=by kernel_rfl
theorem q116:eA Tryz.prog ⟨7,[],none⟩ p116 116:=alh Ed (by decide)
noncomputable def w504:yY Tryz.prog ⟨7,[],none⟩ dz 504 480 p504_0 p504_1 p504_2 p504_3 p504_4 p504_5 p504_6 p504_7 p504_8:={fn:=Tryz.f504,gn:=Tryz.f480,i0:=_,i1:=_,i2:=_,i3:=_,i4:=_,j0:=_,j1:=_,j2:=_,j3:=_,o0:=_,o1:=_,oa:=_,ob:=_,o4:=_,p0:=_,p1:=_,p2:=_,p3:=_,om:=_,q3:=[_],oc:=_,on:=_,cl:=_,ty:=_,hf:=Tryz.func504,fb:=rfl,fnt:=rfl,fr:=by kernel_rfl,hg:=Tryz.func480,Wn:=by decide,gb:=rfl,gnt:=rfl,gr:=by kernel_rfl,e0:=rfl,e1:=rfl,ea:=rfl,eb:=rfl,e4:=rfl,a0:=rfl,a1:=rfl,a2:=rfl,a3:=rfl,s3:=rfl,mo:=⟨rfl,rfl,rfl⟩,co:=⟨rfl,rfl,rfl,rfl,rfl⟩,no:=⟨rfl,rfl,rfl⟩,b0:=by decide,b3:=by decide}
theorem q504:eA Tryz.prog ⟨7,[],none⟩ p504 504:=Rc w504
theorem q435:iP Tryz.prog ⟨7,[],none⟩ (.fn oC) 435:=Ju Tryz.func435 (by kernel_rfl) (by kernel_rfl) (by kernel_rfl) (by kernel_rfl)
theorem q461:iP Tryz.prog ⟨7,[],none⟩ .BA 461:=Jr Tryz.func461 (by kernel_rfl) (by kernel_rfl) (by kernel_rfl) (by kernel_rfl)
theorem q467:iP Tryz.prog ⟨7,[],none⟩ .Gh 467:=Jp Tryz.func467 (by kernel_rfl) (by kernel_rfl) (by kernel_rfl) (by kernel_rfl)
theorem q468:iP Tryz.prog ⟨7,[],none⟩ (.LL 5) 468:=Re (ps:=Tryz.f468.params) (t:=Tryz.f468.resultTypes[0]!) Tryz.func468 (by kernel_rfl) (by kernel_rfl) (by kernel_rfl) (by kernel_rfl) (by kernel_rfl)
theorem q518:iP Tryz.prog ⟨7,[],none⟩ (.fn wv) 518:=Jt Tryz.func518 (by kernel_rfl) (by kernel_rfl) (by kernel_rfl) (by kernel_rfl)
theorem dJ {C:H→Prop} (a0:C .h0) (a1:C .h1) (a2:C .h2) (a3:C .h3) (a4:C .h4) (a5:C .h5) (a6:C .h6) (a7:C .h7) (a8:C .h8) (a9:C .h9) (aa:C .ha) (ab:C .hb) (ac:C .hc) (ad:C .hd) (ae:C .he) (af:C .hf):∀c,C c:=fun c=>by cases c<;>assumption
theorem no:True:=trivial
theorem rn {b:Nat}:Row Tryz.prog ⟨7,[],none⟩ dz b .nil:=Cs b
theorem pn {a:Nat}:zl Tryz.prog ⟨7,[],none⟩ dz a .nil:=JM a
theorem R0:Row Tryz.prog ⟨7,[],none⟩ dz 0 agU:=dJ no no no no g4 g5 g6 g7 g8 g9 g10 g11 g12 g13 g14 g15
theorem R1:Row Tryz.prog ⟨7,[],none⟩ dz 1 agV:=dJ g16 g17 g18 g19 g20 g21 g22 g23 g24 g25 g26 g27 g28 g29 g30 g31
theorem R2:Row Tryz.prog ⟨7,[],none⟩ dz 2 agW:=dJ g32 g33 g34 g35 g36 g37 g38 g39 g40 g41 g42 g43 g44 g45 g46 g47
theorem R3:Row Tryz.prog ⟨7,[],none⟩ dz 3 agX:=dJ g48 g49 g50 g51 g52 g53 g54 g55 no no no g59 g60 g61 g62 no
theorem R4:Row Tryz.prog ⟨7,[],none⟩ dz 4 agY:=dJ g64 g65 g66 g67 g68 no no g71 g72 g73 g74 g75 g76 g77 g78 g79
theorem R5:Row Tryz.prog ⟨7,[],none⟩ dz 5 agZ:=dJ g80 g81 g82 g83 g84 g85 g86 g87 g88 g89 no no g92 g93 g94 g95
theorem R6:Row Tryz.prog ⟨7,[],none⟩ dz 6 aha:=dJ g96 g97 g98 g99 g100 no no no g104 no g106 g107 no g109 g110 g111
theorem R7:Row Tryz.prog ⟨7,[],none⟩ dz 7 ahb:=dJ g112 g113 g114 g115 ⟨g116,q116⟩ g117 g118 no g120 g121 g122 g123 g124 g125 g126 g127
theorem R8:Row Tryz.prog ⟨7,[],none⟩ dz 8 amL:=dJ g128 g129 g130 g131 g132 g133 g134 g135 g136 g137 g138 g139 g140 g141 g142 g143
theorem R9:Row Tryz.prog ⟨7,[],none⟩ dz 9 amM:=dJ no no g146 g147 g148 g149 g150 g151 g152 g153 g154 g155 g156 g157 no g159
theorem R10:Row Tryz.prog ⟨7,[],none⟩ dz 10 RY:=dJ g160 g161 g162 g163 no g165 g166 g167 g168 g169 g170 no no g173 g174 g175
theorem R11:Row Tryz.prog ⟨7,[],none⟩ dz 11 Ez:=dJ g176 g177 g178 g179 g180 g181 g182 g183 g184 g185 g186 g187 g188 g189 g190 g191
theorem R12:Row Tryz.prog ⟨7,[],none⟩ dz 12 RZ:=dJ g192 g193 g194 g195 g196 g197 g198 g199 g200 g201 g202 g203 g204 g205 g206 g207
theorem R13:Row Tryz.prog ⟨7,[],none⟩ dz 13 Sa:=dJ g208 g209 g210 no no g213 g214 g215 g216 g217 g218 g219 g220 g221 g222 g223
theorem R14:Row Tryz.prog ⟨7,[],none⟩ dz 14 EA:=dJ g224 g225 g226 g227 g228 g229 g230 g231 no no no g235 g236 g237 g238 g239
theorem R15:Row Tryz.prog ⟨7,[],none⟩ dz 15 EC:=dJ g240 g241 g242 g243 g244 g245 g246 g247 g248 g249 g250 g251 g252 g253 g254 g255
theorem R16:Row Tryz.prog ⟨7,[],none⟩ dz 16 Sb:=dJ g256 g257 g258 g259 no no no no no no no no g268 no g270 g271
theorem R17:Row Tryz.prog ⟨7,[],none⟩ dz 17 Sc:=dJ g272 g273 g274 g275 g276 g277 g278 no g280 g281 g282 g283 g284 g285 g286 g287
theorem R18:Row Tryz.prog ⟨7,[],none⟩ dz 18 Se:=dJ g288 g289 g290 g291 g292 g293 g294 g295 g296 g297 g298 g299 g300 g301 g302 g303
theorem R19:Row Tryz.prog ⟨7,[],none⟩ dz 19 Sf:=dJ g304 g305 g306 g307 g308 g309 g310 g311 g312 g313 g314 g315 g316 g317 g318 g319
theorem R20:Row Tryz.prog ⟨7,[],none⟩ dz 20 Sh:=dJ no no no no no no no no no g329 g330 g331 g332 g333 g334 no
theorem R21:Row Tryz.prog ⟨7,[],none⟩ dz 21 ED:=dJ g336 no no g339 g340 g341 g342 g343 g344 g345 g346 g347 no g349 g350 g351
theorem R22:Row Tryz.prog ⟨7,[],none⟩ dz 22 EE:=dJ g352 g353 g354 g355 g356 g357 g358 g359 g360 g361 g362 g363 g364 no no no
theorem R23:Row Tryz.prog ⟨7,[],none⟩ dz 23 EF:=dJ no no no g371 g372 no no no no no g378 no no g381 g382 g383
theorem R24:Row Tryz.prog ⟨7,[],none⟩ dz 24 Si:=dJ g384 g385 no no g388 g389 no no g392 g393 g394 g395 g396 g397 g398 g399
theorem R25:Row Tryz.prog ⟨7,[],none⟩ dz 25 Sj:=dJ g400 g401 g402 g403 g404 g405 g406 g407 g408 g409 no no no g413 g414 g415
theorem R26:Row Tryz.prog ⟨7,[],none⟩ dz 26 Sk:=dJ g416 g417 no no g420 g421 g422 g423 g424 g425 no no no no g430 g431
theorem R27:Row Tryz.prog ⟨7,[],none⟩ dz 27 Sl:=dJ g432 g433 g434 q435 g436 g437 g438 g439 g440 g441 g442 g443 g444 g445 g446 g447
theorem R28:Row Tryz.prog ⟨7,[],none⟩ dz 28 Sm:=dJ no no no no g452 no no g455 g456 g457 g458 g459 no q461 no no
theorem R29:Row Tryz.prog ⟨7,[],none⟩ dz 29 EG:=dJ no no g466 q467 q468 no no no no g473 g474 g475 g476 g477 g478 g479
theorem R30:Row Tryz.prog ⟨7,[],none⟩ dz 30 EH:=dJ no g481 no g483 no no g486 g487 g488 g489 no no no no no no
theorem R31:Row Tryz.prog ⟨7,[],none⟩ dz 31 EI:=dJ no no no no no no g502 g503 ⟨g504,q504⟩ g505 g506 no g508 no no no
theorem R32:Row Tryz.prog ⟨7,[],none⟩ dz 32 Sn:=dJ no no no g515 g516 no q518 no no no no no no no no no
theorem Kd:zl Tryz.prog ⟨7,[],none⟩ dz 0 So:=dJ R0 R1 R2 R3 R4 R5 R6 R7 R8 R9 R10 R11 R12 R13 R14 R15
theorem Ke:zl Tryz.prog ⟨7,[],none⟩ dz 1 Sp:=dJ R16 R17 R18 R19 R20 R21 R22 R23 R24 R25 R26 R27 R28 R29 R30 R31
theorem Kf:zl Tryz.prog ⟨7,[],none⟩ dz 2 EJ:=dJ R32 rn rn rn rn rn rn rn rn rn rn rn rn rn rn rn
theorem Ej:∀a:H,zl Tryz.prog ⟨7,[],none⟩ dz a.nat (F3.get a lZ.fs):=dJ Kd Ke Kf pn pn pn pn pn pn pn pn pn pn pn pn pn
theorem alB:mA Tryz.prog dz lZ.ms:=JO (by kernel_rfl)
theorem fp:Env Tryz.prog ⟨7,[],none⟩ dz lZ:=alr mixed alB Ej rfl
end
end Go.Am.Seat
