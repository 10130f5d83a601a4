/- Short names for registers and operations of the abstract machine. Nothing is asked. -/
import Derived.Test.YtldbgpadimkeeaaGreatDoorA
set_option linter.all false
namespace Go.Am.Seat
set_option maxRecDepth 20000
noncomputable section
def r0 : AO := .t .h0 .h0
def d0 : bX := .t .h0 .h0
def r1 : AO := .t .h0 .h1
def d1 : bX := .t .h0 .h1
def r2 : AO := .t .h0 .h2
def d2 : bX := .t .h0 .h2
def r3 : AO := .t .h0 .h3
def d3 : bX := .t .h0 .h3
def r4 : AO := .t .h0 .h4
def d4 : bX := .t .h0 .h4
def r5 : AO := .t .h0 .h5
def d5 : bX := .t .h0 .h5
def r6 : AO := .t .h0 .h6
def d6 : bX := .t .h0 .h6
def r7 : AO := .t .h0 .h7
def d7 : bX := .t .h0 .h7
def r8 : AO := .t .h0 .h8
def d8 : bX := .t .h0 .h8
def r9 : AO := .t .h0 .h9
def d9 : bX := .t .h0 .h9
def r10 : AO := .t .h0 .ha
def d10 : bX := .t .h0 .ha
def r11 : AO := .t .h0 .hb
def d11 : bX := .t .h0 .hb
def r12 : AO := .t .h0 .hc
def d12 : bX := .t .h0 .hc
def r13 : AO := .t .h0 .hd
def d13 : bX := .t .h0 .hd
def r14 : AO := .t .h0 .he
def d14 : bX := .t .h0 .he
def r15 : AO := .t .h0 .hf
def d15 : bX := .t .h0 .hf
def r16 : AO := .t .h1 .h0
def d16 : bX := .t .h1 .h0
def r17 : AO := .t .h1 .h1
def d17 : bX := .t .h1 .h1
def r18 : AO := .t .h1 .h2
def d18 : bX := .t .h1 .h2
def r19 : AO := .t .h1 .h3
def d19 : bX := .t .h1 .h3
def r20 : AO := .t .h1 .h4
def d20 : bX := .t .h1 .h4
def r21 : AO := .t .h1 .h5
def d21 : bX := .t .h1 .h5
def r22 : AO := .t .h1 .h6
def d22 : bX := .t .h1 .h6
def r23 : AO := .t .h1 .h7
def d23 : bX := .t .h1 .h7
def r24 : AO := .t .h1 .h8
def d24 : bX := .t .h1 .h8
def r25 : AO := .t .h1 .h9
def d25 : bX := .t .h1 .h9
def r26 : AO := .t .h1 .ha
def d26 : bX := .t .h1 .ha
def r27 : AO := .t .h1 .hb
def d27 : bX := .t .h1 .hb
def r28 : AO := .t .h1 .hc
def d28 : bX := .t .h1 .hc
def r29 : AO := .t .h1 .hd
def d29 : bX := .t .h1 .hd
def r30 : AO := .t .h1 .he
def d30 : bX := .t .h1 .he
def r31 : AO := .t .h1 .hf
def d31 : bX := .t .h1 .hf
def r32 : AO := .t .h2 .h0
def d32 : bX := .t .h2 .h0
def r33 : AO := .t .h2 .h1
def d33 : bX := .t .h2 .h1
def r34 : AO := .t .h2 .h2
def d34 : bX := .t .h2 .h2
def r35 : AO := .t .h2 .h3
def d35 : bX := .t .h2 .h3
def r36 : AO := .t .h2 .h4
def d36 : bX := .t .h2 .h4
def r37 : AO := .t .h2 .h5
def d37 : bX := .t .h2 .h5
def r38 : AO := .t .h2 .h6
def d38 : bX := .t .h2 .h6
def r39 : AO := .t .h2 .h7
def d39 : bX := .t .h2 .h7
def r40 : AO := .t .h2 .h8
def d40 : bX := .t .h2 .h8
def r41 : AO := .t .h2 .h9
def d41 : bX := .t .h2 .h9
def r42 : AO := .t .h2 .ha
def d42 : bX := .t .h2 .ha
def r43 : AO := .t .h2 .hb
def d43 : bX := .t .h2 .hb
def r44 : AO := .t .h2 .hc
def d44 : bX := .t .h2 .hc
def r45 : AO := .t .h2 .hd
def d45 : bX := .t .h2 .hd
def r46 : AO := .t .h2 .he
def d46 : bX := .t .h2 .he
def r47 : AO := .t .h2 .hf
def d47 : bX := .t .h2 .hf
def r48 : AO := .t .h3 .h0
def d48 : bX := .t .h3 .h0
def r49 : AO := .t .h3 .h1
def d49 : bX := .t .h3 .h1
def r50 : AO := .t .h3 .h2
def d50 : bX := .t .h3 .h2
def r51 : AO := .t .h3 .h3
def d51 : bX := .t .h3 .h3
def r52 : AO := .t .h3 .h4
def d52 : bX := .t .h3 .h4
def r53 : AO := .t .h3 .h5
def d53 : bX := .t .h3 .h5
def r54 : AO := .t .h3 .h6
def d54 : bX := .t .h3 .h6
def r55 : AO := .t .h3 .h7
def d55 : bX := .t .h3 .h7
def r56 : AO := .t .h3 .h8
def d56 : bX := .t .h3 .h8
def r57 : AO := .t .h3 .h9
def d57 : bX := .t .h3 .h9
def r58 : AO := .t .h3 .ha
def d58 : bX := .t .h3 .ha
def r59 : AO := .t .h3 .hb
def d59 : bX := .t .h3 .hb
def r60 : AO := .t .h3 .hc
def d60 : bX := .t .h3 .hc
def r61 : AO := .t .h3 .hd
def d61 : bX := .t .h3 .hd
def r62 : AO := .t .h3 .he
def d62 : bX := .t .h3 .he
def r63 : AO := .t .h3 .hf
def d63 : bX := .t .h3 .hf
def r64 : AO := .t .h4 .h0
def d64 : bX := .t .h4 .h0
def r65 : AO := .t .h4 .h1
def d65 : bX := .t .h4 .h1
def r66 : AO := .t .h4 .h2
def d66 : bX := .t .h4 .h2
def r67 : AO := .t .h4 .h3
def d67 : bX := .t .h4 .h3
def r68 : AO := .t .h4 .h4
def d68 : bX := .t .h4 .h4
def r69 : AO := .t .h4 .h5
def d69 : bX := .t .h4 .h5
def r70 : AO := .t .h4 .h6
def d70 : bX := .t .h4 .h6
def r71 : AO := .t .h4 .h7
def d71 : bX := .t .h4 .h7
def r72 : AO := .t .h4 .h8
def d72 : bX := .t .h4 .h8
def r73 : AO := .t .h4 .h9
def d73 : bX := .t .h4 .h9
def r74 : AO := .t .h4 .ha
def d74 : bX := .t .h4 .ha
def r75 : AO := .t .h4 .hb
def d75 : bX := .t .h4 .hb
def r76 : AO := .t .h4 .hc
def d76 : bX := .t .h4 .hc
def r77 : AO := .t .h4 .hd
def d77 : bX := .t .h4 .hd
def r78 : AO := .t .h4 .he
def d78 : bX := .t .h4 .he
def r79 : AO := .t .h4 .hf
def d79 : bX := .t .h4 .hf
def r80 : AO := .t .h5 .h0
def d80 : bX := .t .h5 .h0
def r81 : AO := .t .h5 .h1
def d81 : bX := .t .h5 .h1
def r82 : AO := .t .h5 .h2
def d82 : bX := .t .h5 .h2
def u : AV := .undef
abbrev KF := Cf → Iv → (A2 → Hp → RS) → A2 → Hp → RS
def a0 : AO := .c (.int .i64 (.ofNat 0))
def a1 : AO := .c (.int .i64 (.ofNat 1))
def a2 : AO := .c (.int .i64 (.ofNat 2))
def m (d : bX) (x : AO) : GI := .o d (.op (.mv x))
def y0 (r : A2) : AV := aC .h0 .h0 r
def y1 (r : A2) : AV := aC .h0 .h1 r
def y2 (r : A2) : AV := aC .h0 .h2 r
def y3 (r : A2) : AV := aC .h0 .h3 r
def y4 (r : A2) : AV := aC .h0 .h4 r
def y5 (r : A2) : AV := aC .h0 .h5 r
def y6 (r : A2) : AV := aC .h0 .h6 r
def y7 (r : A2) : AV := aC .h0 .h7 r
def y8 (r : A2) : AV := aC .h0 .h8 r
def y9 (r : A2) : AV := aC .h0 .h9 r
def y10 (r : A2) : AV := aC .h0 .ha r
def y11 (r : A2) : AV := aC .h0 .hb r
def y12 (r : A2) : AV := aC .h0 .hc r
def y13 (r : A2) : AV := aC .h0 .hd r
def y14 (r : A2) : AV := aC .h0 .he r
def y15 (r : A2) : AV := aC .h0 .hf r
def y16 (r : A2) : AV := aC .h1 .h0 r
def y17 (r : A2) : AV := aC .h1 .h1 r
def y18 (r : A2) : AV := aC .h1 .h2 r
def y21 (r : A2) : AV := aC .h1 .h5 r
def y22 (r : A2) : AV := aC .h1 .h6 r
def y23 (r : A2) : AV := aC .h1 .h7 r
def y24 (r : A2) : AV := aC .h1 .h8 r
def y25 (r : A2) : AV := aC .h1 .h9 r
def y26 (r : A2) : AV := aC .h1 .ha r
def y28 (r : A2) : AV := aC .h1 .hc r
def y29 (r : A2) : AV := aC .h1 .hd r
def y30 (r : A2) : AV := aC .h1 .he r
def y31 (r : A2) : AV := aC .h1 .hf r
def y33 (r : A2) : AV := aC .h2 .h1 r
def y34 (r : A2) : AV := aC .h2 .h2 r
def y35 (r : A2) : AV := aC .h2 .h3 r
def y36 (r : A2) : AV := aC .h2 .h4 r
def y37 (r : A2) : AV := aC .h2 .h5 r
def y38 (r : A2) : AV := aC .h2 .h6 r
def y39 (r : A2) : AV := aC .h2 .h7 r
def y40 (r : A2) : AV := aC .h2 .h8 r
def y41 (r : A2) : AV := aC .h2 .h9 r
def y42 (r : A2) : AV := aC .h2 .ha r
def y43 (r : A2) : AV := aC .h2 .hb r
def y44 (r : A2) : AV := aC .h2 .hc r
def y50 (r : A2) : AV := aC .h3 .h2 r
def y51 (r : A2) : AV := aC .h3 .h3 r
def y52 (r : A2) : AV := aC .h3 .h4 r
def y54 (r : A2) : AV := aC .h3 .h6 r
def y55 (r : A2) : AV := aC .h3 .h7 r
def y58 (r : A2) : AV := aC .h3 .ha r
def y59 (r : A2) : AV := aC .h3 .hb r
def y60 (r : A2) : AV := aC .h3 .hc r
def y62 (r : A2) : AV := aC .h3 .he r
def y63 (r : A2) : AV := aC .h3 .hf r
def y64 (r : A2) : AV := aC .h4 .h0 r
def y68 (r : A2) : AV := aC .h4 .h4 r
def y70 (r : A2) : AV := aC .h4 .h6 r
def y73 (r : A2) : AV := aC .h4 .h9 r
def y74 (r : A2) : AV := aC .h4 .ha r
def y75 (r : A2) : AV := aC .h4 .hb r
def y78 (r : A2) : AV := aC .h4 .he r
def y79 (r : A2) : AV := aC .h4 .hf r
def y80 (r : A2) : AV := aC .h5 .h0 r
def y81 (r : A2) : AV := aC .h5 .h1 r
def y82 (r : A2) : AV := aC .h5 .h2 r
def y83 (r : A2) : AV := aC .h5 .h3 r
def N0 (a0 : A1) : A2 := .mk a0 .nil .nil .nil .nil .nil .nil .nil .nil .nil .nil .nil .nil .nil .nil .nil
def N1 (a0 a1 : A1) : A2 := .mk a0 a1 .nil .nil .nil .nil .nil .nil .nil .nil .nil .nil .nil .nil .nil .nil
def N2 (a0 a1 a2 : A1) : A2 := .mk a0 a1 a2 .nil .nil .nil .nil .nil .nil .nil .nil .nil .nil .nil .nil .nil
def N3 (a0 a1 a2 a3 : A1) : A2 := .mk a0 a1 a2 a3 .nil .nil .nil .nil .nil .nil .nil .nil .nil .nil .nil .nil
def N4 (a0 a1 a2 a3 a4 : A1) : A2 := .mk a0 a1 a2 a3 a4 .nil .nil .nil .nil .nil .nil .nil .nil .nil .nil .nil
def N5 (a0 a1 a2 a3 a4 a5 : A1) : A2 := .mk a0 a1 a2 a3 a4 a5 .nil .nil .nil .nil .nil .nil .nil .nil .nil .nil
abbrev pi (n : Nat) : AV := .int .i64 (.ofNat n)
abbrev ni (n : Nat) : AV := .int .i64 (.negSucc n)
def o (d : bX) (x : nV) : GI := .o d (.op x)
def w (g : GI) : DI := .mk .dZ g
def q (n : Nat) (g : GI) : DI := .mk (.rd n) g
def n (g : GI) : DI := .mk .new g
def tR (x : RV) (k : AV → Hp → RS) : RS := RV.rec k (fun n => .err n) x
def tQ (x : RV) (k : AV → RS) : RS := RV.rec (fun v _ => k v) (fun n => .err n) x
def tT (x : RT) (k : AV → Hp → RS) : RS := RT.elim k (fun n => .err n) (fun n ih => .ch n ih) x
def tX (x : RT) (k : AV → Hp → RS) : RS := RT.rec k (fun n => .err n) (fun _ _ _ => .err 213) x
def gd (x : AV) (w : Bool) (a b : RS) : RS := AV.bN (gb w x) (fun t => Bool.rec b a (jW t w)) (.err 210)
def fa (d : Nat) (x : AV) (h : Hp) : RV := rP d (.c x) .nil h
def lD (x : AV) (h : Hp) : RV := AV.gn x (fun i o => Obj.bp (ah i h) (fun _ n _ _ c => Bool.casesOn (FW o n) (.err 13) (.ok (eP o c) h)) (.err 14)) (.err 15)
def pk (m : Nat) (x : AV) (h : Hp) : RV := AV.gn x (fun i o => Obj.bp (ah i h) (fun _ n _ _ c => Bool.casesOn (Nat.ble (Nat.add o m) n) (.err 16) (.ok (.agg (bP m c o)) h)) (.err 17)) (.err 18)
def sT (x y : AV) (h : Hp) : RV := AV.gn x (fun i o => Obj.bp (ah i h) (fun el n ex fl c => Bool.casesOn (wr fl) (.err 19) (Bool.casesOn (Bool.and (FW o n) y.one) (.err 20) (.ok .undef (dY i (.cells el n ex fl (lu o y c)) h)))) (.err 21)) (.err 22)
def Kj (m : Nat) (x y : AV) (h : Hp) : RV := AV.gn x (fun i o => Obj.bp (ah i h) (fun el n ex fl c => Bool.casesOn (wr fl) (.err 23) (Bool.casesOn (Nat.ble (Nat.add o m) n) (.err 24) (AV.qn y (fun l => Bool.casesOn (Nat.beq l.length m) (.err 25) (.ok .undef (dY i (.cells el n ex fl (cH l o c)) h))) (.err 26)))) (.err 27)) (.err 28)
def nC (x : AV) (h : Hp) : RV := OP.casesOn x.kV (qQ x h) (fun i o => .ok (.ptr i o) h)
def fA (d : Nat) (x : AV) (h : Hp) : RV := AV.gn x (fun i o => .ok (.ptr i (Nat.add o d)) h) (.err 51)
def iX (es : Nat) (x y : AV) (h : Hp) : RV := ik y (fun k => AV.oa x (fun i o n _ => DJ es i o n k h) (fun i o n _ => DJ es i o n k h) (.err 54) (.err 55)) (.err 55)
def Ok (n es : Nat) (x y : AV) (h : Hp) : RV := ik y (fun k => AV.gn x (fun i o => DJ es i o n k h) (.err 56)) (.err 56)
def ext (i : Nat) (x : AV) (h : Hp) : RV := AV.Ci x (fun l => List.casesOn (List.drop i l) (.err 59) (fun v _ => .ok v h)) (.err 59)
def fl (d : Nat) (x : AV) (h : Hp) : RV := AV.qn x (fun l => List.casesOn (List.drop d l) (.err 52) (fun v _ => .ok v h)) (.err 52)
def bx (el : Nat) (x : AV) (h : Hp) : RV := OL.casesOn x.asAgg (Bool.casesOn x.one (.err 134) (KA el (.cons x .nil) h)) (fun l => KA el l h)
def Rq (e n : Nat) (c : Cl) (h : Hp) : RV := ij e true .plain n c h um
def bl (z : List AV) (ps : List Part) (h : Hp) : RV := jY z ps .nil h
def bs (e s n : Nat) (z : List AV) (ps : List Part) (h : Hp) : RV := gp e s n z ps .nil h
def Sp (h : Hp) : RV := ri .nil h
def cd (c : Cf) (x : AV) (l : List AV) (h : Hp) : RT := AV.FP x (fun f cs => c f (List.append l cs) h) (.err 202)
def gD (x : AV) (w : Bool) (f : (AV → Hp → RS) → RS) (h : Hp) (k : AV → Hp → RS) : RS := gd x w (f k) (k cM h)
def I (x : AV) (a b : RS) : RS := AV.bN x (fun t => Bool.rec b a t) (.err 213)
def C (c : Cf) (f : Nat) (l : List AV) (h : Hp) (k : AV → Hp → RS) : RS := RT.elim k (fun n => .err n) (fun n ih => .ch n ih) (c f l h)
def A (a : Nat) (b : AV) (h : Hp) (k : AV → Hp → RS) : RS := RV.rec k (fun n => .err n) (fA a b h)
def L (a : AV) (h : Hp) (k : AV → Hp → RS) : RS := RV.rec k (fun n => .err n) (lD a h)
def J (a : AV) (h : Hp) (k : AV → Hp → RS) : RS := RV.rec k (fun n => .err n) (nC a h)
def D (a b : AV) (h : Hp) (k : AV → Hp → RS) : RS := RV.rec k (fun n => .err n) (qu a b h)
def M (a : Nat) (b : AV) (h : Hp) (k : AV → Hp → RS) : RS := RV.rec k (fun n => .err n) (pk a b h)
def E (a : Nat) (b : AV) (h : Hp) (k : AV → Hp → RS) : RS := RV.rec k (fun n => .err n) (ext a b h)
def S (a : Nat) (b d : AV) (h : Hp) (k : AV → Hp → RS) : RS := RV.rec k (fun n => .err n) (Kj a b d h)
def W (a b : AV) (h : Hp) (k : AV → Hp → RS) : RS := RV.rec k (fun n => .err n) (sT a b h)
def O (a b : Nat) (d : Cl) (h : Hp) (k : AV → Hp → RS) : RS := RV.rec k (fun n => .err n) (Rq a b d h)
def Y (a b : AV) (h : Hp) (k : AV → Hp → RS) : RS := RV.rec k (fun n => .err n) (pq a b h)
def G (a : AV) (h : Hp) (k : AV → Hp → RS) : RS := RV.rec k (fun n => .err n) (len a h)
def B (a : Nat) (b : AV) (h : Hp) (k : AV → Hp → RS) : RS := RV.rec k (fun n => .err n) (bx a b h)
def U (a : List AV) (b : List Part) (h : Hp) (k : AV → Hp → RS) : RS := RV.rec k (fun n => .err n) (bl a b h)
def Q (a b : AV) (h : Hp) (k : AV → Hp → RS) : RS := RV.rec k (fun n => .err n) (DH a b h)
def X (a : Nat) (b d : AV) (h : Hp) (k : AV → Hp → RS) : RS := RV.rec k (fun n => .err n) (iX a b d h)
def Z (a b : AV) (h : Hp) (k : AV → Hp → RS) : RS := RV.rec k (fun n => .err n) (kU a b h)
def F (a : Nat) (b : AV) (h : Hp) (k : AV → Hp → RS) : RS := RV.rec k (fun n => .err n) (fl a b h)
abbrev i0 : AV := .int .i64 (.ofNat 0)
abbrev i1 : AV := .int .i64 (.ofNat 1)
def iS : AV := .str []
def of (d : bX) (k : Nat) (x : AO) : GI := .o d (.op (.fP k x))
def ol (d : bX) (x : AO) : GI := .o d (.op (.fQ x))
def oj (d : bX) (x : AO) : GI := .o d (.op (.qQ x))
def os (x y : AO) : GI := .o .no (.op (.Ki x y))
def oc (d : bX) (f : Nat) (l : List AO) : GI := .o d (.call f l)
def qf (n : Nat) (d : bX) (k : Nat) (x : AO) : DI := .mk (.rd n) (.o d (.op (.fP k x)))
def ql (n : Nat) (d : bX) (x : AO) : DI := .mk (.rd n) (.o d (.op (.fQ x)))
def qj (n : Nat) (d : bX) (x : AO) : DI := .mk (.rd n) (.o d (.op (.qQ x)))
def Y1 (a0 : AV) : A1 := .mk a0 u u u u u u u u u u u u u u u
def Y2 (a0 a1 : AV) : A1 := .mk a0 a1 u u u u u u u u u u u u u u
def Y3 (a0 a1 a2 : AV) : A1 := .mk a0 a1 a2 u u u u u u u u u u u u u
def Y4 (a0 a1 a2 a3 : AV) : A1 := .mk a0 a1 a2 a3 u u u u u u u u u u u u
def Y5 (a0 a1 a2 a3 a4 : AV) : A1 := .mk a0 a1 a2 a3 a4 u u u u u u u u u u u
def Y6 (a0 a1 a2 a3 a4 a5 : AV) : A1 := .mk a0 a1 a2 a3 a4 a5 u u u u u u u u u u
def Y7 (a0 a1 a2 a3 a4 a5 a6 : AV) : A1 := .mk a0 a1 a2 a3 a4 a5 a6 u u u u u u u u u
def Y8 (a0 a1 a2 a3 a4 a5 a6 a7 : AV) : A1 := .mk a0 a1 a2 a3 a4 a5 a6 a7 u u u u u u u u
def Y9 (a0 a1 a2 a3 a4 a5 a6 a7 a8 : AV) : A1 := .mk a0 a1 a2 a3 a4 a5 a6 a7 a8 u u u u u u u
def Y10 (a0 a1 a2 a3 a4 a5 a6 a7 a8 a9 : AV) : A1 := .mk a0 a1 a2 a3 a4 a5 a6 a7 a8 a9 u u u u u u
def Y11 (a0 a1 a2 a3 a4 a5 a6 a7 a8 a9 a10 : AV) : A1 := .mk a0 a1 a2 a3 a4 a5 a6 a7 a8 a9 a10 u u u u u
def Y12 (a0 a1 a2 a3 a4 a5 a6 a7 a8 a9 a10 a11 : AV) : A1 := .mk a0 a1 a2 a3 a4 a5 a6 a7 a8 a9 a10 a11 u u u u
def Y13 (a0 a1 a2 a3 a4 a5 a6 a7 a8 a9 a10 a11 a12 : AV) : A1 := .mk a0 a1 a2 a3 a4 a5 a6 a7 a8 a9 a10 a11 a12 u u u
def Y14 (a0 a1 a2 a3 a4 a5 a6 a7 a8 a9 a10 a11 a12 a13 : AV) : A1 := .mk a0 a1 a2 a3 a4 a5 a6 a7 a8 a9 a10 a11 a12 a13 u u
def Y15 (a0 a1 a2 a3 a4 a5 a6 a7 a8 a9 a10 a11 a12 a13 a14 : AV) : A1 := .mk a0 a1 a2 a3 a4 a5 a6 a7 a8 a9 a10 a11 a12 a13 a14 u
def K1 (a0 : A2 → AV) (g : Cf → Iv → (A2 → Hp → RS) → Hp → AV → RS) : KF := fun c i x r h => g c i x h (a0 r)
def K2 (a0 a1 : A2 → AV) (g : Cf → Iv → (A2 → Hp → RS) → Hp → AV → AV → RS) : KF := fun c i x r h => g c i x h (a0 r) (a1 r)
def K3 (a0 a1 a2 : A2 → AV) (g : Cf → Iv → (A2 → Hp → RS) → Hp → AV → AV → AV → RS) : KF := fun c i x r h => g c i x h (a0 r) (a1 r) (a2 r)
def K4 (a0 a1 a2 a3 : A2 → AV) (g : Cf → Iv → (A2 → Hp → RS) → Hp → AV → AV → AV → AV → RS) : KF := fun c i x r h => g c i x h (a0 r) (a1 r) (a2 r) (a3 r)
def K5 (a0 a1 a2 a3 a4 : A2 → AV) (g : Cf → Iv → (A2 → Hp → RS) → Hp → AV → AV → AV → AV → AV → RS) : KF := fun c i x r h => g c i x h (a0 r) (a1 r) (a2 r) (a3 r) (a4 r)
def K6 (a0 a1 a2 a3 a4 a5 : A2 → AV) (g : Cf → Iv → (A2 → Hp → RS) → Hp → AV → AV → AV → AV → AV → AV → RS) : KF := fun c i x r h => g c i x h (a0 r) (a1 r) (a2 r) (a3 r) (a4 r) (a5 r)
def K7 (a0 a1 a2 a3 a4 a5 a6 : A2 → AV) (g : Cf → Iv → (A2 → Hp → RS) → Hp → AV → AV → AV → AV → AV → AV → AV → RS) : KF := fun c i x r h => g c i x h (a0 r) (a1 r) (a2 r) (a3 r) (a4 r) (a5 r) (a6 r)
def K8 (a0 a1 a2 a3 a4 a5 a6 a7 : A2 → AV) (g : Cf → Iv → (A2 → Hp → RS) → Hp → AV → AV → AV → AV → AV → AV → AV → AV → RS) : KF := fun c i x r h => g c i x h (a0 r) (a1 r) (a2 r) (a3 r) (a4 r) (a5 r) (a6 r) (a7 r)
def K9 (a0 a1 a2 a3 a4 a5 a6 a7 a8 : A2 → AV) (g : Cf → Iv → (A2 → Hp → RS) → Hp → AV → AV → AV → AV → AV → AV → AV → AV → AV → RS) : KF := fun c i x r h => g c i x h (a0 r) (a1 r) (a2 r) (a3 r) (a4 r) (a5 r) (a6 r) (a7 r) (a8 r)
end
end Go.Am.Seat
