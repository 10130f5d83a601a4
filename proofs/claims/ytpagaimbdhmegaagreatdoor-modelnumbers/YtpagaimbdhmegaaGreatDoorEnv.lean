/- Each function of the table is what the program's function is translated into. Nothing is asked. -/
import Derived.Test.YtpagaimbdhmegaaGreatDoorInsT
import Derived.Test.YtpagaimbdhmegaaGreatDoorEnv0
import Derived.Test.YtpagaimbdhmegaaGreatDoorEnv1
set_option linter.all false
open Go.Proofs
namespace Go.Am.Seat
set_option maxRecDepth 100000
section
theorem mixed:Tryz.prog.follows .mixedOrders=true:=by kernel_rfl
theorem q84:fB Tryz.prog ⟨7,[],none⟩ p84 84:=OX FP (by decide)
theorem q367:jJ Tryz.prog ⟨7,[],none⟩ .zS 367:=Er Tryz.func367 (by kernel_rfl) (by kernel_rfl) (by kernel_rfl) (by kernel_rfl)
theorem q413:jJ Tryz.prog ⟨7,[],none⟩ .Eh 413:=Eo Tryz.func413 (by kernel_rfl) (by kernel_rfl) (by kernel_rfl) (by kernel_rfl)
theorem q414:jJ Tryz.prog ⟨7,[],none⟩ (.Jg 5) 414:=Jm (ps:=Tryz.f414.params) (t:=Tryz.f414.resultTypes[0]!) Tryz.func414 (by kernel_rfl) (by kernel_rfl) (by kernel_rfl) (by kernel_rfl) (by kernel_rfl)
theorem q448:jJ Tryz.prog ⟨7,[],none⟩ (.fn vD) 448:=Et Tryz.func448 (by kernel_rfl) (by kernel_rfl) (by kernel_rfl) (by kernel_rfl)
theorem ef {C:H→Prop} (a0:C .h0) (a1:C .h1) (a2:C .h2) (a3:C .h3) (a4:C .h4) (a5:C .h5) (a6:C .h6) (a7:C .h7) (a8:C .h8) (a9:C .h9) (aa:C .ha) (ab:C .hb) (ac:C .hc) (ad:C .hd) (ae:C .he) (af:C .hf):∀c,C c:=fun c=>by cases c<;>assumption
theorem no:True:=trivial
theorem rn {b:Nat}:Row Tryz.prog ⟨7,[],none⟩ dP b .nil:=Ax b
theorem pn {a:Nat}:zj Tryz.prog ⟨7,[],none⟩ dP a .nil:=FJ a
theorem R0:Row Tryz.prog ⟨7,[],none⟩ dP 0 Vj:=ef no no no no g4 g5 g6 g7 g8 g9 g10 g11 g12 g13 g14 g15
theorem R1:Row Tryz.prog ⟨7,[],none⟩ dP 1 Vk:=ef g16 g17 g18 g19 g20 g21 g22 g23 g24 g25 g26 g27 g28 g29 g30 g31
theorem R2:Row Tryz.prog ⟨7,[],none⟩ dP 2 Vl:=ef g32 g33 g34 g35 g36 g37 g38 g39 no no no no no g45 g46 g47
theorem R3:Row Tryz.prog ⟨7,[],none⟩ dP 3 Vm:=ef g48 g49 g50 g51 g52 g53 g54 g55 g56 g57 g58 g59 g60 g61 g62 g63
theorem R4:Row Tryz.prog ⟨7,[],none⟩ dP 4 Vn:=ef g64 g65 g66 g67 no no no no g72 no no g75 g76 g77 g78 g79
theorem R5:Row Tryz.prog ⟨7,[],none⟩ dP 5 Vo:=ef g80 g81 g82 g83 ⟨g84,q84⟩ g85 g86 g87 g88 g89 g90 g91 g92 g93 g94 g95
theorem R6:Row Tryz.prog ⟨7,[],none⟩ dP 6 Vp:=ef g96 g97 g98 g99 g100 g101 g102 g103 g104 g105 g106 g107 g108 g109 g110 no
theorem R7:Row Tryz.prog ⟨7,[],none⟩ dP 7 Vq:=ef no no g114 g115 g116 g117 g118 g119 g120 g121 g122 g123 no no g126 g127
theorem R8:Row Tryz.prog ⟨7,[],none⟩ dP 8 Vr:=ef g128 g129 g130 g131 g132 g133 g134 g135 g136 g137 g138 no g140 g141 g142 g143
theorem R9:Row Tryz.prog ⟨7,[],none⟩ dP 9 Vs:=ef g144 g145 g146 g147 g148 g149 g150 g151 g152 g153 g154 g155 g156 g157 g158 g159
theorem R10:Row Tryz.prog ⟨7,[],none⟩ dP 10 KD:=ef g160 g161 g162 g163 g164 g165 g166 g167 g168 g169 g170 g171 g172 g173 g174 g175
theorem R11:Row Tryz.prog ⟨7,[],none⟩ dP 11 KE:=ef g176 g177 g178 g179 g180 g181 g182 g183 g184 g185 g186 g187 g188 g189 g190 no
theorem R12:Row Tryz.prog ⟨7,[],none⟩ dP 12 KG:=ef no no no no no no no g199 no g201 g202 g203 g204 g205 g206 g207
theorem R13:Row Tryz.prog ⟨7,[],none⟩ dP 13 KH:=ef g208 g209 g210 g211 g212 g213 g214 no no g217 g218 g219 g220 g221 g222 g223
theorem R14:Row Tryz.prog ⟨7,[],none⟩ dP 14 KI:=ef g224 g225 g226 g227 g228 g229 g230 g231 g232 g233 g234 g235 g236 g237 g238 g239
theorem R15:Row Tryz.prog ⟨7,[],none⟩ dP 15 KJ:=ef g240 g241 g242 g243 g244 g245 g246 g247 g248 g249 g250 g251 g252 g253 g254 g255
theorem R16:Row Tryz.prog ⟨7,[],none⟩ dP 16 KL:=ef g256 g257 g258 g259 g260 g261 g262 g263 g264 g265 g266 g267 no g269 g270 no
theorem R17:Row Tryz.prog ⟨7,[],none⟩ dP 17 KM:=ef g272 g273 g274 g275 no g277 g278 g279 no no no no no no g286 g287
theorem R18:Row Tryz.prog ⟨7,[],none⟩ dP 18 KN:=ef g288 g289 g290 g291 no no no no no no no g299 g300 g301 g302 no
theorem R19:Row Tryz.prog ⟨7,[],none⟩ dP 19 KP:=ef g304 g305 g306 g307 g308 g309 g310 g311 g312 g313 g314 g315 no no no no
theorem R20:Row Tryz.prog ⟨7,[],none⟩ dP 20 KQ:=ef no g321 no no g324 g325 g326 g327 g328 no g330 g331 g332 g333 no g335
theorem R21:Row Tryz.prog ⟨7,[],none⟩ dP 21 KR:=ef g336 g337 g338 g339 g340 g341 g342 g343 g344 g345 g346 g347 g348 g349 g350 g351
theorem R22:Row Tryz.prog ⟨7,[],none⟩ dP 22 KS:=ef g352 g353 g354 g355 g356 g357 g358 g359 g360 g361 g362 no g364 g365 g366 q367
theorem R23:Row Tryz.prog ⟨7,[],none⟩ dP 23 KU:=ef no no no no no g373 no g375 g376 g377 g378 g379 g380 g381 g382 g383
theorem R24:Row Tryz.prog ⟨7,[],none⟩ dP 24 KW:=ef no g385 g386 g387 no no no g391 g392 no no g395 g396 g397 g398 g399
theorem R25:Row Tryz.prog ⟨7,[],none⟩ dP 25 KX:=ef g400 g401 g402 g403 no no no no no g409 no no g412 q413 q414 g415
theorem R26:Row Tryz.prog ⟨7,[],none⟩ dP 26 KY:=ef g416 no no g419 no g421 no no g424 no g426 g427 g428 g429 g430 g431
theorem R27:Row Tryz.prog ⟨7,[],none⟩ dP 27 KZ:=ef g432 g433 no no no no no no no no g442 g443 no g445 g446 no
theorem R28:Row Tryz.prog ⟨7,[],none⟩ dP 28 La:=ef q448 no no no no no no no g456 g457 no no no no no no
theorem FQ:zj Tryz.prog ⟨7,[],none⟩ dP 0 Lb:=ef R0 R1 R2 R3 R4 R5 R6 R7 R8 R9 R10 R11 R12 R13 R14 R15
theorem FR:zj Tryz.prog ⟨7,[],none⟩ dP 1 Lc:=ef R16 R17 R18 R19 R20 R21 R22 R23 R24 R25 R26 R27 R28 rn rn rn
theorem BU:∀a:H,zj Tryz.prog ⟨7,[],none⟩ dP a.nat (F3.get a pg.fs):=ef FQ FR pn pn pn pn pn pn pn pn pn pn pn pn pn pn
theorem Qh:mH Tryz.prog dP pg.ms:=FL (by kernel_rfl)
theorem env:Env Tryz.prog ⟨7,[],none⟩ dP pg:=Ps mixed Qh BU rfl
end
end Go.Am.Seat
