/- Each function of the table is what the program's function is translated into. Nothing is asked. -/
import Derived.Test.YtfikinbodiohiaaGreatDoorEnv0
import Derived.Test.YtfikinbodiohiaaGreatDoorEnv1
set_option linter.all false
open Go.Proofs
namespace Go.Am.Seat
set_option maxRecDepth 100000
section
theorem mixed:Tryz.prog.follows .mixedOrders=true:=by kernel_rfl
noncomputable def w346:yt Tryz.prog ⟨7,[],none⟩ fj 346 312 p346_0 p346_1 p346_2 p346_3 p346_4 p346_5 p346_6 p346_7 p346_8:={fn:=Tryz.f346,gn:=Tryz.f312,i0:=_,i1:=_,i2:=_,i3:=_,i4:=_,j0:=_,j1:=_,j2:=_,j3:=_,o0:=_,o1:=_,oa:=_,ob:=_,o4:=_,p0:=_,p1:=_,p2:=_,p3:=_,om:=_,q3:=[_],oc:=_,on:=_,cl:=_,ty:=_,hf:=Tryz.func346,fb:=rfl,ZC:=rfl,fr:=by kernel_rfl,hg:=Tryz.func312,Nh:=by decide,gb:=rfl,ZD:=rfl,gr:=by kernel_rfl,e0:=rfl,e1:=rfl,ea:=rfl,eb:=rfl,e4:=rfl,a0:=rfl,a1:=rfl,a2:=rfl,a3:=rfl,s3:=rfl,mo:=⟨rfl,rfl,rfl⟩,co:=⟨rfl,rfl,rfl,rfl,rfl⟩,no:=⟨rfl,rfl,rfl⟩,b0:=by decide,b3:=by decide}
theorem q346:gh Tryz.prog ⟨7,[],none⟩ p346 346:=Li w346
theorem q252:iH Tryz.prog ⟨7,[],none⟩ (.fn oW) 252:=Gy Tryz.func252 (by kernel_rfl) (by kernel_rfl) (by kernel_rfl) (by kernel_rfl)
theorem q340:iH Tryz.prog ⟨7,[],none⟩ .BH 340:=Gv Tryz.func340 (by kernel_rfl) (by kernel_rfl) (by kernel_rfl) (by kernel_rfl)
theorem q352:iH Tryz.prog ⟨7,[],none⟩ .Gt 352:=Gs Tryz.func352 (by kernel_rfl) (by kernel_rfl) (by kernel_rfl) (by kernel_rfl)
theorem q353:iH Tryz.prog ⟨7,[],none⟩ (.Lk 5) 353:=Lj (ps:=Tryz.f353.params) (t:=Tryz.f353.resultTypes[0]!) Tryz.func353 (by kernel_rfl) (by kernel_rfl) (by kernel_rfl) (by kernel_rfl) (by kernel_rfl)
theorem q373:iH Tryz.prog ⟨7,[],none⟩ (.fn we) 373:=Gx Tryz.func373 (by kernel_rfl) (by kernel_rfl) (by kernel_rfl) (by kernel_rfl)
theorem fE {C:H→Prop} (a0:C .h0) (a1:C .h1) (a2:C .h2) (a3:C .h3) (a4:C .h4) (a5:C .h5) (a6:C .h6) (a7:C .h7) (a8:C .h8) (a9:C .h9) (aa:C .ha) (ab:C .hb) (ac:C .hc) (ad:C .hd) (ae:C .he) (af:C .hf):∀c,C c:=fun c=>by cases c<;>assumption
theorem no:True:=trivial
theorem rn {b:Nat}:Row Tryz.prog ⟨7,[],none⟩ fj b .nil:=Cj b
theorem pn {a:Nat}:Ay Tryz.prog ⟨7,[],none⟩ fj a .nil:=Hn a
theorem R0:Row Tryz.prog ⟨7,[],none⟩ fj 0 NV:=fE no no no no g4 g5 g6 g7 g8 g9 g10 g11 g12 g13 g14 g15
theorem R1:Row Tryz.prog ⟨7,[],none⟩ fj 1 NW:=fE g16 g17 g18 g19 g20 g21 g22 g23 g24 g25 g26 g27 g28 g29 g30 g31
theorem R2:Row Tryz.prog ⟨7,[],none⟩ fj 2 NX:=fE g32 g33 g34 g35 g36 g37 g38 g39 g40 g41 g42 g43 g44 g45 g46 no
theorem R3:Row Tryz.prog ⟨7,[],none⟩ fj 3 NY:=fE no g49 g50 g51 g52 g53 g54 g55 g56 g57 g58 g59 g60 g61 g62 g63
theorem R4:Row Tryz.prog ⟨7,[],none⟩ fj 4 NZ:=fE g64 g65 g66 g67 g68 g69 g70 g71 g72 g73 g74 g75 g76 g77 g78 g79
theorem R5:Row Tryz.prog ⟨7,[],none⟩ fj 5 Ul:=fE g80 g81 g82 g83 g84 g85 g86 g87 g88 g89 g90 g91 g92 g93 g94 g95
theorem R6:Row Tryz.prog ⟨7,[],none⟩ fj 6 Oa:=fE g96 g97 g98 g99 g100 g101 no no no g105 g106 no g108 g109 g110 g111
theorem R7:Row Tryz.prog ⟨7,[],none⟩ fj 7 Ob:=fE g112 g113 g114 g115 g116 g117 g118 g119 g120 g121 g122 g123 g124 g125 g126 g127
theorem R8:Row Tryz.prog ⟨7,[],none⟩ fj 8 Um:=fE g128 g129 g130 g131 g132 g133 g134 g135 g136 g137 g138 g139 g140 g141 g142 g143
theorem R9:Row Tryz.prog ⟨7,[],none⟩ fj 9 Un:=fE g144 g145 g146 g147 g148 g149 g150 g151 g152 g153 g154 g155 g156 g157 g158 g159
theorem R10:Row Tryz.prog ⟨7,[],none⟩ fj 10 MO:=fE g160 g161 g162 g163 g164 g165 g166 g167 g168 g169 g170 g171 g172 g173 g174 g175
theorem R11:Row Tryz.prog ⟨7,[],none⟩ fj 11 MP:=fE g176 g177 g178 g179 g180 g181 g182 g183 g184 g185 no no no g189 g190 g191
theorem R12:Row Tryz.prog ⟨7,[],none⟩ fj 12 Eo:=fE g192 g193 no no g196 g197 g198 g199 g200 g201 no g203 g204 g205 g206 g207
theorem R13:Row Tryz.prog ⟨7,[],none⟩ fj 13 Ep:=fE g208 g209 g210 g211 g212 g213 g214 g215 g216 g217 no no no no no g223
theorem R14:Row Tryz.prog ⟨7,[],none⟩ fj 14 MQ:=fE no no no g227 no g229 g230 g231 g232 no g234 g235 g236 g237 g238 g239
theorem R15:Row Tryz.prog ⟨7,[],none⟩ fj 15 MS:=fE g240 g241 g242 g243 g244 g245 g246 g247 g248 g249 g250 g251 q252 g253 g254 g255
theorem R16:Row Tryz.prog ⟨7,[],none⟩ fj 16 MT:=fE g256 g257 g258 g259 g260 g261 g262 g263 g264 g265 g266 g267 g268 g269 g270 g271
theorem R17:Row Tryz.prog ⟨7,[],none⟩ fj 17 Er:=fE no no g274 g275 g276 g277 g278 g279 g280 g281 g282 g283 g284 g285 g286 g287
theorem R18:Row Tryz.prog ⟨7,[],none⟩ fj 18 MU:=fE g288 g289 g290 g291 g292 no no no no no g298 no no g301 g302 g303
theorem R19:Row Tryz.prog ⟨7,[],none⟩ fj 19 MV:=fE g304 g305 g306 g307 g308 g309 g310 g311 no g313 g314 g315 no g317 g318 g319
theorem R20:Row Tryz.prog ⟨7,[],none⟩ fj 20 Es:=fE g320 g321 g322 g323 no g325 g326 g327 g328 no g330 g331 g332 g333 g334 g335
theorem R21:Row Tryz.prog ⟨7,[],none⟩ fj 21 Et:=fE g336 g337 no no q340 no g342 no g344 g345 ⟨g346,q346⟩ g347 g348 g349 g350 g351
theorem R22:Row Tryz.prog ⟨7,[],none⟩ fj 22 Eu:=fE q352 q353 g354 g355 no no g358 no g360 g361 g362 g363 g364 no no no
theorem R23:Row Tryz.prog ⟨7,[],none⟩ fj 23 Ev:=fE no no g370 g371 no q373 no no g376 no no g379 no g381 no no
theorem Ho:Ay Tryz.prog ⟨7,[],none⟩ fj 0 MW:=fE R0 R1 R2 R3 R4 R5 R6 R7 R8 R9 R10 R11 R12 R13 R14 R15
theorem Hq:Ay Tryz.prog ⟨7,[],none⟩ fj 1 MX:=fE R16 R17 R18 R19 R20 R21 R22 R23 rn rn rn rn rn rn rn rn
theorem Dj:∀a:H,Ay Tryz.prog ⟨7,[],none⟩ fj a.nat (F3.get a nk.fs):=fE Ho Hq pn pn pn pn pn pn pn pn pn pn pn pn pn pn
theorem SZ:mN Tryz.prog fj nk.ms:=Hr (by kernel_rfl)
theorem fT:Env Tryz.prog ⟨7,[],none⟩ fj nk:=Ta mixed SZ Dj rfl
end
end Go.Am.Seat
