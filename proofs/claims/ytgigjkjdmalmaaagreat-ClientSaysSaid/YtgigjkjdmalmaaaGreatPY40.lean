/- WHAT IS PROVED: contracts and plain laws of SmC. Conditions: stated with each. -/
import Derived.Test.YtgigjkjdmalmaaaGreatPY05
import Derived.Test.YtgigjkjdmalmaaaGreatPY11
import Derived.Test.YtgigjkjdmalmaaaGreatPY39
set_option maxHeartbeats 4000000
set_option maxRecDepth 100000
namespace Go.Proofs.YtgigjkjdmalmaaaGreat
open Go.RowKit
abbrev kSmC_0 (p0 : Int) (p1 : Int) (p2 : Int) (p3 : Z0) (p4 : Zk) (p5 : Zk) (p6 : Int) (p7 : Int) (p8 : Int) (p9 : Int) (p10 : Int) (p11 : Int) (p12 : Int) (p13 : Int) (p14 : Int) (p15 : Option Addr) (p16 : Nat) (p17 : Nat) (p18 : Option Addr) (p19 : Nat) (p20 : Nat) (p21 : Option Addr) (p22 : Nat) (p23 : Nat) (p24 : Int) (p25 : Int) (p26 : Int) (p27 : Int) (p28 : Int) (p29 : Int) (p30 : Z1e) (p31 : Int) (p32 : Int) (p33 : Int) (p34 : EntD) (p35 : Z2H) (p36 : Value) (p37 : Int) (p38 : Int) (p39 : Int) (p40 : Int) (p41 : Option Addr) (p42 : Nat) (p43 : Nat) (p44 : Option Addr) (p45 : Nat) (p46 : Nat) (p47 : Option Addr) (p48 : Nat) (p49 : Nat) (p50 : Option Addr) (p51 : Nat) (p52 : Nat) (p53 : CeR) (p54 : PrR) (p55 : OpR) : List Value := ([(.int .i64 p0), (.int .i64 p1), (.int .i64 p2), (.int .i64 p3.cl), (.int .i64 p3.seq)] : List Value) ++ hc p3.h ++ ([(.int .i64 p3.len), (.int .i64 p3.sb), (.int .i64 p3.sm), (.int .i64 p4.r), (.int .i64 p4.cl), (.int .i64 p4.seq)] : List Value) ++ hc p4.h ++ ([(.int .u64 p4.t), (.int .i64 p4.sb), (.int .i64 p4.sm), (.int .i64 p53.x.cl), (.int .i64 p53.x.seq)] : List Value) ++ hc p53.x.h ++ ([(.int .i64 p53.x.len), (.int .i64 p53.x.sb), (.int .i64 p53.x.sm), (.slice p53.sa p53.S.length p53.sc), (.int .i64 p5.r), (.int .i64 p5.cl), (.int .i64 p5.seq)] : List Value) ++ hc p5.h ++ ([(.int .u64 p5.t), (.int .i64 p5.sb), (.int .i64 p5.sm), (.int .i64 p6), (.int .i64 p7), (.int .u64 p8), (.int .i64 p54.r), (.int .i64 p54.e), (.int .u64 p54.f), (.slice p54.ca p54.C.length p54.cc), (.int .i64 p54.sb), (.int .i64 p54.sm), (.int .i64 p9), (.int .i64 p10), (.int .i64 p11), (.int .i64 p12), (.int .i64 p13), (.int .u64 p14), (.slice p15 p16 p17), (.slice p18 p19 p20), (.slice p21 p22 p23), (.int .i64 p24), (.int .i64 p25), (.int .i64 p26)] : List Value) ++ ([(.int .i64 p27), (.int .i64 p28), (.int .i64 p29)] : List Value) ++ hc p30 ++ ([(.int .i64 p31), (.int .i64 p32), (.int .i64 p33), (.int .i64 p34.cl), (.int .i64 p34.sq)] : List Value) ++ hc p34.h ++ ([(.int .u64 p34.t), (.int .i64 p55.i), (.slice p55.pa p55.P.length p55.pc)] : List Value) ++ hc p55.h ++ ([(.int .i64 p35.r), (.int .i64 p35.i), (.int .i64 p35.sb), (.int .i64 p35.sm), p36, (.int .i64 p37), (.int .i64 p38), (.int .i64 p39), (.int .u64 p40), (.slice p41 p42 p43), (.slice p44 p45 p46), (.slice p47 p48 p49), (.slice p50 p51 p52)] : List Value)
abbrev kSmC_1 (p0 : Value) : List Value := ([(.int .i64 (0)), (.int .i64 (0)), (.int .i64 (0)), (.int .i64 (0)), (.int .i64 (0))] : List Value) ++ hc Zx ++ ([(.int .i64 (0)), (.int .i64 (0)), (.int .i64 (0)), (.int .i64 (0)), (.int .i64 (0)), (.int .i64 (0))] : List Value) ++ hc Zx ++ ([(.int .u64 (0)), (.int .i64 (0)), (.int .i64 (0)), (.int .i64 (0)), (.int .i64 (0))] : List Value) ++ hc Zx ++ ([(.int .i64 (0)), (.int .i64 (0)), (.int .i64 (0)), (.slice none 0 0), (.int .i64 (0)), (.int .i64 (0)), (.int .i64 (0))] : List Value) ++ hc Zx ++ ([(.int .u64 (0)), (.int .i64 (0)), (.int .i64 (0)), (.int .i64 (0)), (.int .i64 (0)), (.int .u64 (0)), (.int .i64 (0)), (.int .i64 (0)), (.int .u64 (0)), (.slice none 0 0), (.int .i64 (0)), (.int .i64 (0)), (.int .i64 (0)), (.int .i64 (0)), (.int .i64 (0)), (.int .i64 (0)), (.int .i64 (0)), (.int .u64 (0)), (.slice none 0 0), (.slice none 0 0), (.slice none 0 0), (.int .i64 (0)), (.int .i64 (0)), (.int .i64 (0))] : List Value) ++ ([(.int .i64 (0)), (.int .i64 (0)), (.int .i64 (0))] : List Value) ++ hc Zx ++ ([(.int .i64 (0)), (.int .i64 (0)), (.int .i64 (0)), (.int .i64 (0)), (.int .i64 (0))] : List Value) ++ hc Zx ++ ([(.int .u64 (0)), (.int .i64 (0)), (.slice none 0 0)] : List Value) ++ hc Zx ++ ([(.int .i64 (0)), (.int .i64 (0)), (.int .i64 (0)), (.int .i64 (0)), p0, (.int .i64 (0)), (.int .i64 (0)), (.int .i64 (0)), (.int .u64 (0)), (.slice none 0 0), (.slice none 0 0), (.slice none 0 0), (.slice none 0 0)] : List Value)
abbrev kSmC_2 (p0 : CeR) : List Value := ([(.int .i64 p0.x.cl), (.int .i64 p0.x.seq)] : List Value) ++ hc p0.x.h ++ ([(.int .i64 p0.x.len), (.int .i64 p0.x.sb), (.int .i64 p0.x.sm), (.slice p0.sa p0.S.length p0.sc)] : List Value)
abbrev Z6O (p0 : Int) (p1 : Int) (p2 : Int) (p3 : Z0) (p4 : Zk) (p5 : Z0) (p6 : Option Addr) (p7 : Nat) (p8 : Nat) (p9 : Zk) (p10 : Int) (p11 : Int) (p12 : Int) (p13 : Int) (p14 : Int) (p15 : Int) (p16 : Int) (p17 : Int) (p18 : Int) (p19 : Option Addr) (p20 : Nat) (p21 : Nat) (p22 : Option Addr) (p23 : Nat) (p24 : Nat) (p25 : Option Addr) (p26 : Nat) (p27 : Nat) (p28 : Int) (p29 : Int) (p30 : Int) (p31 : Int) (p32 : Int) (p33 : Int) (p34 : Z1e) (p35 : Int) (p36 : Int) (p37 : Int) (p38 : EntD) (p39 : Z2H) (p40 : Value) (p41 : Int) (p42 : Int) (p43 : Int) (p44 : Int) (p45 : Option Addr) (p46 : Nat) (p47 : Nat) (p48 : Option Addr) (p49 : Nat) (p50 : Nat) (p51 : Option Addr) (p52 : Nat) (p53 : Nat) (p54 : Option Addr) (p55 : Nat) (p56 : Nat) (p57 : PrR) (p58 : OpR) : List Value := ([(.int .i64 p0), (.int .i64 p1), (.int .i64 p2), (.int .i64 p3.cl), (.int .i64 p3.seq)] : List Value) ++ hc p3.h ++ ([(.int .i64 p3.len), (.int .i64 p3.sb), (.int .i64 p3.sm), (.int .i64 p4.r), (.int .i64 p4.cl), (.int .i64 p4.seq)] : List Value) ++ hc p4.h ++ ([(.int .u64 p4.t), (.int .i64 p4.sb), (.int .i64 p4.sm), (.int .i64 p5.cl), (.int .i64 p5.seq)] : List Value) ++ hc p5.h ++ ([(.int .i64 p5.len), (.int .i64 p5.sb), (.int .i64 p5.sm), (.slice p6 p7 p8), (.int .i64 p9.r), (.int .i64 p9.cl), (.int .i64 p9.seq)] : List Value) ++ hc p9.h ++ ([(.int .u64 p9.t), (.int .i64 p9.sb), (.int .i64 p9.sm), (.int .i64 p10), (.int .i64 p11), (.int .u64 p12), (.int .i64 p57.r), (.int .i64 p57.e), (.int .u64 p57.f), (.slice p57.ca p57.C.length p57.cc), (.int .i64 p57.sb), (.int .i64 p57.sm), (.int .i64 p13), (.int .i64 p14), (.int .i64 p15), (.int .i64 p16), (.int .i64 p17), (.int .u64 p18), (.slice p19 p20 p21), (.slice p22 p23 p24), (.slice p25 p26 p27), (.int .i64 p28), (.int .i64 p29), (.int .i64 p30)] : List Value) ++ ([(.int .i64 p31), (.int .i64 p32), (.int .i64 p33)] : List Value) ++ hc p34 ++ ([(.int .i64 p35), (.int .i64 p36), (.int .i64 p37), (.int .i64 p38.cl), (.int .i64 p38.sq)] : List Value) ++ hc p38.h ++ ([(.int .u64 p38.t), (.int .i64 p58.i), (.slice p58.pa p58.P.length p58.pc)] : List Value) ++ hc p58.h ++ ([(.int .i64 p39.r), (.int .i64 p39.i), (.int .i64 p39.sb), (.int .i64 p39.sm), p40, (.int .i64 p41), (.int .i64 p42), (.int .i64 p43), (.int .u64 p44), (.slice p45 p46 p47), (.slice p48 p49 p50), (.slice p51 p52 p53), (.slice p54 p55 p56)] : List Value)
abbrev ZbE (p0 : PrR) : List Value := ([(.int .i64 p0.r), (.int .i64 p0.e), (.int .u64 p0.f), (.slice p0.ca p0.C.length p0.cc), (.int .i64 p0.sb), (.int .i64 p0.sm)] : List Value)
abbrev Z85 (p0 : Int) (p1 : Int) (p2 : Option Addr) (p3 : Nat) (p4 : Nat) (p5 : Option Addr) (p6 : Nat) (p7 : Nat) (p8 : Option Addr) (p9 : Nat) (p10 : Nat) : List Value := ([(.int .i64 p0), (.int .u64 p1), (.slice p2 p3 p4), (.slice p5 p6 p7), (.slice p8 p9 p10)] : List Value)
abbrev Z3M (p0 : Int) (p1 : Int) (p2 : Int) (p3 : Z0) (p4 : Zk) (p5 : Z0) (p6 : Option Addr) (p7 : Nat) (p8 : Nat) (p9 : Zk) (p10 : Int) (p11 : Int) (p12 : Int) (p13 : Int) (p14 : Int) (p15 : Int) (p16 : Int) (p17 : Int) (p18 : Int) (p19 : Option Addr) (p20 : Nat) (p21 : Nat) (p22 : Option Addr) (p23 : Nat) (p24 : Nat) (p25 : Option Addr) (p26 : Nat) (p27 : Nat) (p28 : Int) (p29 : Int) (p30 : Int) (p31 : Int) (p32 : Int) (p33 : Int) (p34 : Z1e) (p35 : Int) (p36 : Int) (p37 : Int) (p38 : EntD) (p39 : Int) (p40 : Option Addr) (p41 : Nat) (p42 : Nat) (p43 : Z1e) (p44 : Z2H) (p45 : Value) (p46 : Int) (p47 : Int) (p48 : Int) (p49 : Int) (p50 : Option Addr) (p51 : Nat) (p52 : Nat) (p53 : Option Addr) (p54 : Nat) (p55 : Nat) (p56 : Option Addr) (p57 : Nat) (p58 : Nat) (p59 : Option Addr) (p60 : Nat) (p61 : Nat) (p62 : PrR) : List Value := ([(.int .i64 p0), (.int .i64 p1), (.int .i64 p2), (.int .i64 p3.cl), (.int .i64 p3.seq)] : List Value) ++ hc p3.h ++ ([(.int .i64 p3.len), (.int .i64 p3.sb), (.int .i64 p3.sm), (.int .i64 p4.r), (.int .i64 p4.cl), (.int .i64 p4.seq)] : List Value) ++ hc p4.h ++ ([(.int .u64 p4.t), (.int .i64 p4.sb), (.int .i64 p4.sm), (.int .i64 p5.cl), (.int .i64 p5.seq)] : List Value) ++ hc p5.h ++ ([(.int .i64 p5.len), (.int .i64 p5.sb), (.int .i64 p5.sm), (.slice p6 p7 p8), (.int .i64 p9.r), (.int .i64 p9.cl), (.int .i64 p9.seq)] : List Value) ++ hc p9.h ++ ([(.int .u64 p9.t), (.int .i64 p9.sb), (.int .i64 p9.sm), (.int .i64 p10), (.int .i64 p11), (.int .u64 p12), (.int .i64 p62.r), (.int .i64 p62.e), (.int .u64 p62.f), (.slice p62.ca p62.C.length p62.cc), (.int .i64 p62.sb), (.int .i64 p62.sm), (.int .i64 p13), (.int .i64 p14), (.int .i64 p15), (.int .i64 p16), (.int .i64 p17), (.int .u64 p18), (.slice p19 p20 p21), (.slice p22 p23 p24), (.slice p25 p26 p27), (.int .i64 p28), (.int .i64 p29), (.int .i64 p30)] : List Value) ++ ([(.int .i64 p31), (.int .i64 p32), (.int .i64 p33)] : List Value) ++ hc p34 ++ ([(.int .i64 p35), (.int .i64 p36), (.int .i64 p37), (.int .i64 p38.cl), (.int .i64 p38.sq)] : List Value) ++ hc p38.h ++ ([(.int .u64 p38.t), (.int .i64 p39), (.slice p40 p41 p42)] : List Value) ++ hc p43 ++ ([(.int .i64 p44.r), (.int .i64 p44.i), (.int .i64 p44.sb), (.int .i64 p44.sm), p45, (.int .i64 p46), (.int .i64 p47), (.int .i64 p48), (.int .u64 p49), (.slice p50 p51 p52), (.slice p53 p54 p55), (.slice p56 p57 p58), (.slice p59 p60 p61)] : List Value)
abbrev Z3N (p0 : Int) (p1 : Int) (p2 : Int) (p3 : Z0) (p4 : Zk) (p5 : Z0) (p6 : Option Addr) (p7 : Nat) (p8 : Nat) (p9 : Zk) (p10 : Int) (p11 : Int) (p12 : Int) (p13 : Int) (p14 : Int) (p15 : Int) (p16 : Int) (p17 : Int) (p18 : Option Addr) (p19 : Nat) (p20 : Nat) (p21 : Option Addr) (p22 : Nat) (p23 : Nat) (p24 : Option Addr) (p25 : Nat) (p26 : Nat) (p27 : Int) (p28 : Int) (p29 : Int) (p30 : Int) (p31 : Int) (p32 : Int) (p33 : Z1e) (p34 : Int) (p35 : Int) (p36 : Int) (p37 : EntD) (p38 : Int) (p39 : Option Addr) (p40 : Nat) (p41 : Nat) (p42 : Z1e) (p43 : Z2H) (p44 : Value) (p45 : Int) (p46 : Int) (p47 : Int) (p48 : Int) (p49 : Option Addr) (p50 : Nat) (p51 : Nat) (p52 : Option Addr) (p53 : Nat) (p54 : Nat) (p55 : Option Addr) (p56 : Nat) (p57 : Nat) (p58 : Option Addr) (p59 : Nat) (p60 : Nat) (p61 : PrR) : List Value := ([(.int .i64 p0), (.int .i64 p1), (.int .i64 p2), (.int .i64 p3.cl), (.int .i64 p3.seq)] : List Value) ++ hc p3.h ++ ([(.int .i64 p3.len), (.int .i64 p3.sb), (.int .i64 p3.sm), (.int .i64 p4.r), (.int .i64 p4.cl), (.int .i64 p4.seq)] : List Value) ++ hc p4.h ++ ([(.int .u64 p4.t), (.int .i64 p4.sb), (.int .i64 p4.sm), (.int .i64 p5.cl), (.int .i64 p5.seq)] : List Value) ++ hc p5.h ++ ([(.int .i64 p5.len), (.int .i64 p5.sb), (.int .i64 p5.sm), (.slice p6 p7 p8), (.int .i64 p9.r), (.int .i64 p9.cl), (.int .i64 p9.seq)] : List Value) ++ hc p9.h ++ ([(.int .u64 p9.t), (.int .i64 p9.sb), (.int .i64 p9.sm), (.int .i64 p10), (.int .i64 p11), (.int .u64 p12), (.int .i64 p61.r), (.int .i64 p61.e), (.int .u64 p61.f), (.slice p61.ca p61.C.length p61.cc), (.int .i64 p61.sb), (.int .i64 p61.sm), (.int .i64 p13), (.int .i64 p14), (.int .i64 (-1)), (.int .i64 p15), (.int .i64 p16), (.int .u64 p17), (.slice p18 p19 p20), (.slice p21 p22 p23), (.slice p24 p25 p26), (.int .i64 p27), (.int .i64 p28), (.int .i64 p29)] : List Value) ++ ([(.int .i64 p30), (.int .i64 p31), (.int .i64 p32)] : List Value) ++ hc p33 ++ ([(.int .i64 p34), (.int .i64 p35), (.int .i64 p36), (.int .i64 p37.cl), (.int .i64 p37.sq)] : List Value) ++ hc p37.h ++ ([(.int .u64 p37.t), (.int .i64 p38), (.slice p39 p40 p41)] : List Value) ++ hc p42 ++ ([(.int .i64 p43.r), (.int .i64 p43.i), (.int .i64 p43.sb), (.int .i64 p43.sm), p44, (.int .i64 p45), (.int .i64 p46), (.int .i64 p47), (.int .u64 p48), (.slice p49 p50 p51), (.slice p52 p53 p54), (.slice p55 p56 p57), (.slice p58 p59 p60)] : List Value)
theorem BtIn.now {w0 w : World} {D : Nat → Prop} {G : List Ck} {b : BtR} (h : BtIn w0 b) (H : Sat w0 G w) (i : Nat) (hi : G[i]? = some (Z7 w0 (fun _ => False))) : BtIn w b :=
 ⟨ListAt.now H i hi h.p, fun x hx => ⟨ListAt.now H i hi (h.pi x hx).1, fun c hc => ListAt.now H i hi ((h.pi x hx).2 c hc)⟩, ListAt.now H i hi h.o, fun x hx => ListAt.now H i hi (h.oi x hx), ListAt.now H i hi h.t, fun x hx => ListAt.now H i hi (h.ti x hx)⟩
theorem Z4i (w : World) (m : MsR) (hm : MsIn w m) :
  Calls Tryz.prog 22 #[(.agg ⟨(([(.int .i64 (m.k)), (.int .i64 (m.fr)), (.int .i64 (m.to)), (.int .i64 (m.co.cl)), (.int .i64 (m.co.seq))] : List Value) ++ hc m.co.h ++ ([(.int .i64 (m.co.len)), (.int .i64 (m.co.sb)), (.int .i64 (m.co.sm)), (.int .i64 (m.st.r)), (.int .i64 (m.st.cl)), (.int .i64 (m.st.seq))] : List Value) ++ hc m.st.h ++ ([(.int .u64 (m.st.t)), (.int .i64 (m.st.sb)), (.int .i64 (m.st.sm)), (.int .i64 (m.cx.x.cl)), (.int .i64 (m.cx.x.seq))] : List Value) ++ hc m.cx.x.h ++ ([(.int .i64 (m.cx.x.len)), (.int .i64 (m.cx.x.sb)), (.int .i64 (m.cx.x.sm)), ((.slice m.cx.sa m.cx.S.length m.cx.sc)), (.int .i64 (m.ak.r)), (.int .i64 (m.ak.cl)), (.int .i64 (m.ak.seq))] : List Value) ++ hc m.ak.h ++ ([(.int .u64 (m.ak.t)), (.int .i64 (m.ak.sb)), (.int .i64 (m.ak.sm)), (.int .i64 (m.ep)), (.int .i64 (m.rd)), (.int .u64 (m.tm)), (.int .i64 (m.pr.r)), (.int .i64 (m.pr.e)), (.int .u64 (m.pr.f)), ((.slice m.pr.ca m.pr.C.length m.pr.cc)), (.int .i64 (m.pr.sb)), (.int .i64 (m.pr.sm)), (.int .i64 (m.qe)), (.int .i64 (m.qd)), (.int .i64 (m.qv)), (.int .i64 (m.qr)), (.int .i64 (m.qb.e)), (.int .u64 (m.qb.t)), ((.slice m.qb.pa m.qb.P.length m.qb.pc)), ((.slice m.qb.oa m.qb.O.length m.qb.oc)), ((.slice m.qb.ta m.qb.T.length m.qb.tc)), (.int .i64 (m.qsb)), (.int .i64 (m.qsm)), (.int .i64 (m.vo.k))] : List Value) ++ ([(.int .i64 (m.vo.e)), (.int .i64 (m.vo.d)), (.int .i64 (m.vo.r))] : List Value) ++ hc m.vo.h ++ ([(.int .i64 (m.vo.sb)), (.int .i64 (m.vo.sm)), (.int .i64 (m.ix)), (.int .i64 (m.en.cl)), (.int .i64 (m.en.sq))] : List Value) ++ hc m.en.h ++ ([(.int .u64 (m.en.t)), (.int .i64 (m.op.i)), ((.slice m.op.pa m.op.P.length m.op.pc))] : List Value) ++ hc m.op.h ++ ([(.int .i64 (m.dn.r)), (.int .i64 (m.dn.i)), (.int .i64 (m.dn.sb)), (.int .i64 (m.dn.sm)), (ZD m.re), (.int .i64 (m.de)), (.int .i64 (m.dd)), (.int .i64 (m.db.e)), (.int .u64 (m.db.t)), ((.slice m.db.pa m.db.P.length m.db.pc)), ((.slice m.db.oa m.db.O.length m.db.oc)), ((.slice m.db.ta m.db.T.length m.db.tc)), ((.slice m.va m.V.length m.vc))] : List Value))⟩)] w fun e w' => ∃ n_ : MsR, e = .returned (.agg ⟨Z6E n_⟩) ∧ MsEq m n_ ∧ Upd [] w w' := by
 have H := Sat.start0 w
 refine Zg Tryz.func22 rfl 50 rfl (Nat.le_of_ble_eq_true rfl) ?_
 apply zsl
 refine zwd fun Kq kq => ?_
 refine zdb (kSmC_0 m.k m.fr m.to m.co m.st m.ak m.ep m.rd m.tm m.qe m.qd m.qv m.qr m.qb.e m.qb.t m.qb.pa m.qb.P.length m.qb.pc m.qb.oa m.qb.O.length m.qb.oc m.qb.ta m.qb.T.length m.qb.tc m.qsb m.qsm m.vo.k m.vo.e m.vo.d m.vo.r m.vo.h m.vo.sb m.vo.sm m.ix m.en m.dn (ZD m.re) m.de m.dd m.db.e m.db.t m.db.pa m.db.P.length m.db.pc m.db.oa m.db.O.length m.db.oc m.db.ta m.db.T.length m.db.tc m.va m.V.length m.vc m.cx m.pr m.op) H ?_
 intro b2 w3 H4
 refine kq _ _ ?_
 clear kq Kq
 refine zwd fun Kq kq => ?_
 refine zda (kSmC_1 (ZD ([] : List UInt8))) H4 ?_
 intro b6 w7 H8
 refine kq _ _ ?_
 clear kq Kq
 apply Z0N
 refine wv 3 (pt b2 78) ?_
 refine zwN 4 (kSmC_2 m.cx) (H8.at 1 rfl) ?_
 refine zwd fun Kq kq => ?_
 refine zdc 5 (Z4Y w7 m.cx.x m.cx.sa m.cx.sc m.cx.S (ListAt.now H8 0 rfl hm.cx)) ?_
 rintro _ w10 ⟨a11, c12, rfl, u13⟩
 have H14 := H8.keepU u13
 refine ⟨_, rfl, ?_⟩
 refine kq _ _ ?_
 clear kq Kq
 refine wv 6 (pt b2 78) ?_
 refine zwd fun Kq kq => ?_
 refine zds (([(.int .i64 (m.cx.x.cl)), (.int .i64 (m.cx.x.seq))] : List Value) ++ hc m.cx.x.h ++ ([(.int .i64 (m.cx.x.len)), (.int .i64 (m.cx.x.sb)), (.int .i64 (m.cx.x.sm)), ((.slice a11 (m.cx.S.take 6).length c12))] : List Value)) (Z6O m.k m.fr m.to m.co m.st m.cx.x a11 ((m.cx.S.take 6).length) c12 m.ak m.ep m.rd m.tm m.qe m.qd m.qv m.qr m.qb.e m.qb.t m.qb.pa m.qb.P.length m.qb.pc m.qb.oa m.qb.O.length m.qb.oc m.qb.ta m.qb.T.length m.qb.tc m.qsb m.qsm m.vo.k m.vo.e m.vo.d m.vo.r m.vo.h m.vo.sb m.vo.sm m.ix m.en m.dn (ZD m.re) m.de m.dd m.db.e m.db.t m.db.pa m.db.P.length m.db.pc m.db.oa m.db.O.length m.db.oc m.db.ta m.db.T.length m.db.tc m.va m.V.length m.vc m.pr m.op) H14 1 ?_
 intro w16 H17
 refine kq _ _ ?_
 clear kq Kq
 apply Z0N
 refine wv 7 (pt b2 157) ?_
 refine zwN 8 (ZbE m.pr) (H17.at 1 rfl) ?_
 refine zwd fun Kq kq => ?_
 refine zdc 9 (Z4Z w16 m.pr (ListAt.now H17 0 rfl hm.pr.1) (fun c_ hc_ => ListAt.now H17 0 rfl (hm.pr.2 c_ hc_))) ?_
 rintro _ w20 ⟨p21, rfl, u22⟩
 have H23 := H17.keepU u22
 refine ⟨_, rfl, ?_⟩
 refine kq _ _ ?_
 clear kq Kq
 refine wv 10 (pt b2 157) ?_
 refine zwd fun Kq kq => ?_
 refine zds (ZbE p21) (Z6O m.k m.fr m.to m.co m.st m.cx.x a11 ((m.cx.S.take 6).length) c12 m.ak m.ep m.rd m.tm m.qe m.qd m.qv m.qr m.qb.e m.qb.t m.qb.pa m.qb.P.length m.qb.pc m.qb.oa m.qb.O.length m.qb.oc m.qb.ta m.qb.T.length m.qb.tc m.qsb m.qsm m.vo.k m.vo.e m.vo.d m.vo.r m.vo.h m.vo.sb m.vo.sm m.ix m.en m.dn (ZD m.re) m.de m.dd m.db.e m.db.t m.db.pa m.db.P.length m.db.pc m.db.oa m.db.O.length m.db.oc m.db.ta m.db.T.length m.db.tc m.va m.V.length m.vc p21 m.op) H23 1 ?_
 intro w25 H26
 refine kq _ _ ?_
 clear kq Kq
 apply Z0N
 refine wv 11 (pt b2 163) ?_
 refine wv 12 (pt b2 167) ?_
 refine zwN 13 (Z85 m.qb.e m.qb.t m.qb.pa m.qb.P.length m.qb.pc m.qb.oa m.qb.O.length m.qb.oc m.qb.ta m.qb.T.length m.qb.tc) (H26.at 1 rfl) ?_
 refine zwd fun Kq kq => ?_
 refine zdc 14 (Z4h w25 m.qb (hm.qb.now (D := fun _ => False) H26 0 rfl)) ?_
 rintro _ w29 ⟨b30, rfl, u31⟩
 have H32 := H26.keepU u31
 refine ⟨_, rfl, ?_⟩
 refine kq _ _ ?_
 clear kq Kq
 refine wv 15 (pt b2 163) ?_
 refine wv 16 (pt b2 167) ?_
 refine zwd fun Kq kq => ?_
 refine zds (Z85 b30.e b30.t b30.pa b30.P.length b30.pc b30.oa b30.O.length b30.oc b30.ta b30.T.length b30.tc) (Z6O m.k m.fr m.to m.co m.st m.cx.x a11 ((m.cx.S.take 6).length) c12 m.ak m.ep m.rd m.tm m.qe m.qd m.qv m.qr b30.e b30.t b30.pa b30.P.length b30.pc b30.oa b30.O.length b30.oc b30.ta b30.T.length b30.tc m.qsb m.qsm m.vo.k m.vo.e m.vo.d m.vo.r m.vo.h m.vo.sb m.vo.sm m.ix m.en m.dn (ZD m.re) m.de m.dd m.db.e m.db.t m.db.pa m.db.P.length m.db.pc m.db.oa m.db.O.length m.db.oc m.db.ta m.db.T.length m.db.tc m.va m.V.length m.vc p21 m.op) H32 1 ?_
 intro w34 H35
 refine kq _ _ ?_
 clear kq Kq
 apply Z0N
 refine wv 17 (pt b2 287) ?_
 refine wv 18 (pt b2 289) ?_
 refine zwN 19 (Z85 m.db.e m.db.t m.db.pa m.db.P.length m.db.pc m.db.oa m.db.O.length m.db.oc m.db.ta m.db.T.length m.db.tc) (H35.at 1 rfl) ?_
 refine zwd fun Kq kq => ?_
 refine zdc 20 (Z4h w34 m.db (hm.db.now (D := fun _ => False) H35 0 rfl)) ?_
 rintro _ w38 ⟨b39, rfl, u40⟩
 have H41 := H35.keepU u40
 refine ⟨_, rfl, ?_⟩
 refine kq _ _ ?_
 clear kq Kq
 refine wv 21 (pt b2 287) ?_
 refine wv 22 (pt b2 289) ?_
 refine zwd fun Kq kq => ?_
 refine zds (Z85 b39.e b39.t b39.pa b39.P.length b39.pc b39.oa b39.O.length b39.oc b39.ta b39.T.length b39.tc) (Z6O m.k m.fr m.to m.co m.st m.cx.x a11 ((m.cx.S.take 6).length) c12 m.ak m.ep m.rd m.tm m.qe m.qd m.qv m.qr b30.e b30.t b30.pa b30.P.length b30.pc b30.oa b30.O.length b30.oc b30.ta b30.T.length b30.tc m.qsb m.qsm m.vo.k m.vo.e m.vo.d m.vo.r m.vo.h m.vo.sb m.vo.sm m.ix m.en m.dn (ZD m.re) m.de m.dd b39.e b39.t b39.pa b39.P.length b39.pc b39.oa b39.O.length b39.oc b39.ta b39.T.length b39.tc m.va m.V.length m.vc p21 m.op) H41 1 ?_
 intro w43 H44
 refine kq _ _ ?_
 clear kq Kq
 apply Z0N
 refine wv 23 (pt b2 287) ?_
 refine wv 24 (pt b2 294) ?_
 refine zw1 25 ((.slice m.va m.V.length m.vc)) (H44.cell 1 rfl (by kernel_rfl)) ?_
 refine zwd fun Kq kq => ?_
 refine zdc 26 (Z3n (ZbT w43 m.va m.vc m.V (ListAt.now H44 0 rfl hm.v) 6 (by decide))) ?_
 rintro _ w47 ⟨a48, c49, rfl, u50⟩
 have H51 := H44.keepU u50
 refine ⟨_, rfl, ?_⟩
 refine kq _ _ ?_
 clear kq Kq
 refine wv 27 (pt b2 287) ?_
 refine wv 28 (pt b2 294) ?_
 refine zwd fun Kq kq => ?_
 refine zds ([((.slice a48 (m.V.take 6).length c49))] : List Value) (Z6O m.k m.fr m.to m.co m.st m.cx.x a11 ((m.cx.S.take 6).length) c12 m.ak m.ep m.rd m.tm m.qe m.qd m.qv m.qr b30.e b30.t b30.pa b30.P.length b30.pc b30.oa b30.O.length b30.oc b30.ta b30.T.length b30.tc m.qsb m.qsm m.vo.k m.vo.e m.vo.d m.vo.r m.vo.h m.vo.sb m.vo.sm m.ix m.en m.dn (ZD m.re) m.de m.dd b39.e b39.t b39.pa b39.P.length b39.pc b39.oa b39.O.length b39.oc b39.ta b39.T.length b39.tc a48 ((m.V.take 6).length) c49 p21 m.op) H51 1 ?_
 intro w53 H54
 refine kq _ _ ?_
 clear kq Kq
 apply Z0N
 refine wv 29 (pt b2 248) ?_
 refine wv 30 (pt b2 249) ?_
 refine zw1 31 ((.slice m.op.pa m.op.P.length m.op.pc)) (H54.cell 1 rfl (by kernel_rfl)) ?_
 refine zwd fun Kq kq => ?_
 refine zdc 32 (Z3n (Z5K w53 m.op.pa m.op.pc m.op.P (ListAt.now H54 0 rfl hm.op) 100 (by decide))) ?_
 rintro _ w57 ⟨a58, c59, rfl, u60⟩
 have H61 := H54.keepU u60
 refine ⟨_, rfl, ?_⟩
 refine kq _ _ ?_
 clear kq Kq
 refine wv 33 (pt b2 248) ?_
 refine wv 34 (pt b2 249) ?_
 refine zwd fun Kq kq => ?_
 refine zds ([((.slice a58 (m.op.P.take 100).length c59))] : List Value) (Z3M m.k m.fr m.to m.co m.st m.cx.x a11 ((m.cx.S.take 6).length) c12 m.ak m.ep m.rd m.tm m.qe m.qd m.qv m.qr b30.e b30.t b30.pa b30.P.length b30.pc b30.oa b30.O.length b30.oc b30.ta b30.T.length b30.tc m.qsb m.qsm m.vo.k m.vo.e m.vo.d m.vo.r m.vo.h m.vo.sb m.vo.sm m.ix m.en m.op.i a58 ((m.op.P.take 100).length) c59 m.op.h m.dn (ZD m.re) m.de m.dd b39.e b39.t b39.pa b39.P.length b39.pc b39.oa b39.O.length b39.oc b39.ta b39.T.length b39.tc a48 ((m.V.take 6).length) c49 p21) H61 1 ?_
 intro w63 H64
 refine kq _ _ ?_
 clear kq Kq
 apply znt
 apply Zf
 apply zsl
 refine wv 35 (pt b2 286) ?_
 refine zw1 36 (ZD m.re) (H64.cell 1 rfl (by kernel_rfl)) ?_
 refine wv 37 (.int .i64 ((m.re.length : Int))) ?_ (hr := Zaw (by kernel_rfl) rfl)
 refine wv 38 (.bool (decide ((m.re.length : Int) > 100))) ?_
 apply znt
 refine (ZC (decide ((m.re.length : Int) > 100))).elim (fun b66 => ?_) (fun b66 => ?_)
 ·have g67 := of_decide_eq_true b66
  refine Z1q _ b66 ?_
  apply Zt
  refine wv 39 (pt b2 286) ?_
  refine zw1 40 (ZD m.re) (H64.cell 1 rfl (by kernel_rfl)) ?_
  refine wv 41 (ZD (m.re.take 100)) ?_ (hr := Z6D (q := 100) (by kernel_rfl) rfl rfl (by omega) (by omega))
  refine wv 42 (pt b2 286) ?_
  refine zwd fun Kq kq => ?_
  refine zds ([(ZD (m.re.take 100))] : List Value) (Z3M m.k m.fr m.to m.co m.st m.cx.x a11 ((m.cx.S.take 6).length) c12 m.ak m.ep m.rd m.tm m.qe m.qd m.qv m.qr b30.e b30.t b30.pa b30.P.length b30.pc b30.oa b30.O.length b30.oc b30.ta b30.T.length b30.tc m.qsb m.qsm m.vo.k m.vo.e m.vo.d m.vo.r m.vo.h m.vo.sb m.vo.sm m.ix m.en m.op.i a58 ((m.op.P.take 100).length) c59 m.op.h m.dn (ZD (m.re.take 100)) m.de m.dd b39.e b39.t b39.pa b39.P.length b39.pc b39.oa b39.O.length b39.oc b39.ta b39.T.length b39.tc a48 ((m.V.take 6).length) c49 p21) H64 1 ?_
  intro w70 H71
  refine kq _ _ ?_
  clear kq Kq
  apply znt
  apply Zf
  apply zsl
  refine wv 43 (pt b2 163) ?_
  refine wv 44 (pt b2 165) ?_
  refine zw1 45 (.int .i64 (m.qv)) (H71.cell 1 rfl (by kernel_rfl)) ?_
  refine wv 46 (.bool (decide (m.qv = 9223372036854775807))) ?_
  apply znt
  refine (ZC (decide (m.qv = 9223372036854775807))).elim (fun b73 => ?_) (fun b73 => ?_)
  ·have g74 := of_decide_eq_true b73
   refine Z1q _ b73 ?_
   apply Zt
   refine wv 47 (pt b2 163) ?_
   refine wv 48 (pt b2 165) ?_
   refine zwd fun Kq kq => ?_
   refine zds ([(.int .i64 (-1))] : List Value) (Z3N m.k m.fr m.to m.co m.st m.cx.x a11 ((m.cx.S.take 6).length) c12 m.ak m.ep m.rd m.tm m.qe m.qd m.qr b30.e b30.t b30.pa b30.P.length b30.pc b30.oa b30.O.length b30.oc b30.ta b30.T.length b30.tc m.qsb m.qsm m.vo.k m.vo.e m.vo.d m.vo.r m.vo.h m.vo.sb m.vo.sm m.ix m.en m.op.i a58 ((m.op.P.take 100).length) c59 m.op.h m.dn (ZD (m.re.take 100)) m.de m.dd b39.e b39.t b39.pa b39.P.length b39.pc b39.oa b39.O.length b39.oc b39.ta b39.T.length b39.tc a48 ((m.V.take 6).length) c49 p21) H71 1 ?_
   intro w77 H78
   refine kq _ _ ?_
   clear kq Kq
   apply Z0N
   refine zwN 49 (Z3N m.k m.fr m.to m.co m.st m.cx.x a11 ((m.cx.S.take 6).length) c12 m.ak m.ep m.rd m.tm m.qe m.qd m.qr b30.e b30.t b30.pa b30.P.length b30.pc b30.oa b30.O.length b30.oc b30.ta b30.T.length b30.tc m.qsb m.qsm m.vo.k m.vo.e m.vo.d m.vo.r m.vo.h m.vo.sb m.vo.sm m.ix m.en m.op.i a58 ((m.op.P.take 100).length) c59 m.op.h m.dn (ZD (m.re.take 100)) m.de m.dd b39.e b39.t b39.pa b39.P.length b39.pc b39.oa b39.O.length b39.oc b39.ta b39.T.length b39.tc a48 ((m.V.take 6).length) c49 p21) (H78.at 1 rfl) ?_
   refine zwd fun Kq kq => ?_
   refine Z21 (Z3N m.k m.fr m.to m.co m.st m.cx.x a11 ((m.cx.S.take 6).length) c12 m.ak m.ep m.rd m.tm m.qe m.qd m.qr b30.e b30.t b30.pa b30.P.length b30.pc b30.oa b30.O.length b30.oc b30.ta b30.T.length b30.tc m.qsb m.qsm m.vo.k m.vo.e m.vo.d m.vo.r m.vo.h m.vo.sb m.vo.sm m.ix m.en m.op.i a58 ((m.op.P.take 100).length) c59 m.op.h m.dn (ZD (m.re.take 100)) m.de m.dd b39.e b39.t b39.pa b39.P.length b39.pc b39.oa b39.O.length b39.oc b39.ta b39.T.length b39.tc a48 ((m.V.take 6).length) c49 p21) H78 2 ?_
   intro w81 H82
   refine kq _ _ ?_
   clear kq Kq
   apply znt
   apply Zz
   refine Z1x rfl (Z02 (vs := (Z3N m.k m.fr m.to m.co m.st m.cx.x a11 ((m.cx.S.take 6).length) c12 m.ak m.ep m.rd m.tm m.qe m.qd m.qr b30.e b30.t b30.pa b30.P.length b30.pc b30.oa b30.O.length b30.oc b30.ta b30.T.length b30.tc m.qsb m.qsm m.vo.k m.vo.e m.vo.d m.vo.r m.vo.h m.vo.sb m.vo.sm m.ix m.en m.op.i a58 ((m.op.P.take 100).length) c59 m.op.h m.dn (ZD (m.re.take 100)) m.de m.dd b39.e b39.t b39.pa b39.P.length b39.pc b39.oa b39.O.length b39.oc b39.ta b39.T.length b39.tc a48 ((m.V.take 6).length) c49 p21)) rfl (by kernel_rfl) (by kernel_rfl) (by exact Nat.le_of_ble_eq_true (by kernel_rfl)) (H82.at 2 rfl) (by kernel_rfl)) ?_
   exact ⟨⟨m.k, m.fr, m.to, m.co, m.st, ⟨m.cx.x, a11, c12, (m.cx.S.take 6)⟩, m.ak, m.ep, m.rd, m.tm, p21, m.qe, m.qd, -1, m.qr, b30, m.qsb, m.qsm, m.vo, m.ix, m.en, ⟨m.op.i, a58, c59, (m.op.P.take 100), m.op.h⟩, m.dn, (m.re.take 100), m.de, m.dd, b39, a48, c49, (m.V.take 6)⟩, (by kernel_rfl), ⟨rfl, rfl, rfl, rfl, rfl, rfl⟩, H82.upd 0 rfl [] (fun _ h => h.elim)⟩
  have g84 := of_decide_eq_false b73
  refine Z1a _ b73 ?_
  apply ZF
  apply ztn
  apply zsl
  refine zwN 49 (Z3M m.k m.fr m.to m.co m.st m.cx.x a11 ((m.cx.S.take 6).length) c12 m.ak m.ep m.rd m.tm m.qe m.qd m.qv m.qr b30.e b30.t b30.pa b30.P.length b30.pc b30.oa b30.O.length b30.oc b30.ta b30.T.length b30.tc m.qsb m.qsm m.vo.k m.vo.e m.vo.d m.vo.r m.vo.h m.vo.sb m.vo.sm m.ix m.en m.op.i a58 ((m.op.P.take 100).length) c59 m.op.h m.dn (ZD (m.re.take 100)) m.de m.dd b39.e b39.t b39.pa b39.P.length b39.pc b39.oa b39.O.length b39.oc b39.ta b39.T.length b39.tc a48 ((m.V.take 6).length) c49 p21) (H71.at 1 rfl) ?_
  refine zwd fun Kq kq => ?_
  refine Z21 (Z3M m.k m.fr m.to m.co m.st m.cx.x a11 ((m.cx.S.take 6).length) c12 m.ak m.ep m.rd m.tm m.qe m.qd m.qv m.qr b30.e b30.t b30.pa b30.P.length b30.pc b30.oa b30.O.length b30.oc b30.ta b30.T.length b30.tc m.qsb m.qsm m.vo.k m.vo.e m.vo.d m.vo.r m.vo.h m.vo.sb m.vo.sm m.ix m.en m.op.i a58 ((m.op.P.take 100).length) c59 m.op.h m.dn (ZD (m.re.take 100)) m.de m.dd b39.e b39.t b39.pa b39.P.length b39.pc b39.oa b39.O.length b39.oc b39.ta b39.T.length b39.tc a48 ((m.V.take 6).length) c49 p21) H71 2 ?_
  intro w87 H88
  refine kq _ _ ?_
  clear kq Kq
  apply znt
  apply Zz
  refine Z1x rfl (Z02 (vs := (Z3M m.k m.fr m.to m.co m.st m.cx.x a11 ((m.cx.S.take 6).length) c12 m.ak m.ep m.rd m.tm m.qe m.qd m.qv m.qr b30.e b30.t b30.pa b30.P.length b30.pc b30.oa b30.O.length b30.oc b30.ta b30.T.length b30.tc m.qsb m.qsm m.vo.k m.vo.e m.vo.d m.vo.r m.vo.h m.vo.sb m.vo.sm m.ix m.en m.op.i a58 ((m.op.P.take 100).length) c59 m.op.h m.dn (ZD (m.re.take 100)) m.de m.dd b39.e b39.t b39.pa b39.P.length b39.pc b39.oa b39.O.length b39.oc b39.ta b39.T.length b39.tc a48 ((m.V.take 6).length) c49 p21)) rfl (by kernel_rfl) (by kernel_rfl) (by exact Nat.le_of_ble_eq_true (by kernel_rfl)) (H88.at 2 rfl) (by kernel_rfl)) ?_
  exact ⟨⟨m.k, m.fr, m.to, m.co, m.st, ⟨m.cx.x, a11, c12, (m.cx.S.take 6)⟩, m.ak, m.ep, m.rd, m.tm, p21, m.qe, m.qd, m.qv, m.qr, b30, m.qsb, m.qsm, m.vo, m.ix, m.en, ⟨m.op.i, a58, c59, (m.op.P.take 100), m.op.h⟩, m.dn, (m.re.take 100), m.de, m.dd, b39, a48, c49, (m.V.take 6)⟩, (by kernel_rfl), ⟨rfl, rfl, rfl, rfl, rfl, rfl⟩, H88.upd 0 rfl [] (fun _ h => h.elim)⟩
 have g90 := of_decide_eq_false b66
 refine Z1a _ b66 ?_
 apply ZF
 apply ztn
 apply Zf
 apply zsl
 refine wv 43 (pt b2 163) ?_
 refine wv 44 (pt b2 165) ?_
 refine zw1 45 (.int .i64 (m.qv)) (H64.cell 1 rfl (by kernel_rfl)) ?_
 refine wv 46 (.bool (decide (m.qv = 9223372036854775807))) ?_
 apply znt
 refine (ZC (decide (m.qv = 9223372036854775807))).elim (fun b92 => ?_) (fun b92 => ?_)
 ·have g93 := of_decide_eq_true b92
  refine Z1q _ b92 ?_
  apply Zt
  refine wv 47 (pt b2 163) ?_
  refine wv 48 (pt b2 165) ?_
  refine zwd fun Kq kq => ?_
  refine zds ([(.int .i64 (-1))] : List Value) (Z3N m.k m.fr m.to m.co m.st m.cx.x a11 ((m.cx.S.take 6).length) c12 m.ak m.ep m.rd m.tm m.qe m.qd m.qr b30.e b30.t b30.pa b30.P.length b30.pc b30.oa b30.O.length b30.oc b30.ta b30.T.length b30.tc m.qsb m.qsm m.vo.k m.vo.e m.vo.d m.vo.r m.vo.h m.vo.sb m.vo.sm m.ix m.en m.op.i a58 ((m.op.P.take 100).length) c59 m.op.h m.dn (ZD m.re) m.de m.dd b39.e b39.t b39.pa b39.P.length b39.pc b39.oa b39.O.length b39.oc b39.ta b39.T.length b39.tc a48 ((m.V.take 6).length) c49 p21) H64 1 ?_
  intro w96 H97
  refine kq _ _ ?_
  clear kq Kq
  apply Z0N
  refine zwN 49 (Z3N m.k m.fr m.to m.co m.st m.cx.x a11 ((m.cx.S.take 6).length) c12 m.ak m.ep m.rd m.tm m.qe m.qd m.qr b30.e b30.t b30.pa b30.P.length b30.pc b30.oa b30.O.length b30.oc b30.ta b30.T.length b30.tc m.qsb m.qsm m.vo.k m.vo.e m.vo.d m.vo.r m.vo.h m.vo.sb m.vo.sm m.ix m.en m.op.i a58 ((m.op.P.take 100).length) c59 m.op.h m.dn (ZD m.re) m.de m.dd b39.e b39.t b39.pa b39.P.length b39.pc b39.oa b39.O.length b39.oc b39.ta b39.T.length b39.tc a48 ((m.V.take 6).length) c49 p21) (H97.at 1 rfl) ?_
  refine zwd fun Kq kq => ?_
  refine Z21 (Z3N m.k m.fr m.to m.co m.st m.cx.x a11 ((m.cx.S.take 6).length) c12 m.ak m.ep m.rd m.tm m.qe m.qd m.qr b30.e b30.t b30.pa b30.P.length b30.pc b30.oa b30.O.length b30.oc b30.ta b30.T.length b30.tc m.qsb m.qsm m.vo.k m.vo.e m.vo.d m.vo.r m.vo.h m.vo.sb m.vo.sm m.ix m.en m.op.i a58 ((m.op.P.take 100).length) c59 m.op.h m.dn (ZD m.re) m.de m.dd b39.e b39.t b39.pa b39.P.length b39.pc b39.oa b39.O.length b39.oc b39.ta b39.T.length b39.tc a48 ((m.V.take 6).length) c49 p21) H97 2 ?_
  intro w100 H101
  refine kq _ _ ?_
  clear kq Kq
  apply znt
  apply Zz
  refine Z1x rfl (Z02 (vs := (Z3N m.k m.fr m.to m.co m.st m.cx.x a11 ((m.cx.S.take 6).length) c12 m.ak m.ep m.rd m.tm m.qe m.qd m.qr b30.e b30.t b30.pa b30.P.length b30.pc b30.oa b30.O.length b30.oc b30.ta b30.T.length b30.tc m.qsb m.qsm m.vo.k m.vo.e m.vo.d m.vo.r m.vo.h m.vo.sb m.vo.sm m.ix m.en m.op.i a58 ((m.op.P.take 100).length) c59 m.op.h m.dn (ZD m.re) m.de m.dd b39.e b39.t b39.pa b39.P.length b39.pc b39.oa b39.O.length b39.oc b39.ta b39.T.length b39.tc a48 ((m.V.take 6).length) c49 p21)) rfl (by kernel_rfl) (by kernel_rfl) (by exact Nat.le_of_ble_eq_true (by kernel_rfl)) (H101.at 2 rfl) (by kernel_rfl)) ?_
  exact ⟨⟨m.k, m.fr, m.to, m.co, m.st, ⟨m.cx.x, a11, c12, (m.cx.S.take 6)⟩, m.ak, m.ep, m.rd, m.tm, p21, m.qe, m.qd, -1, m.qr, b30, m.qsb, m.qsm, m.vo, m.ix, m.en, ⟨m.op.i, a58, c59, (m.op.P.take 100), m.op.h⟩, m.dn, m.re, m.de, m.dd, b39, a48, c49, (m.V.take 6)⟩, (by kernel_rfl), ⟨rfl, rfl, rfl, rfl, rfl, rfl⟩, H101.upd 0 rfl [] (fun _ h => h.elim)⟩
 have g103 := of_decide_eq_false b92
 refine Z1a _ b92 ?_
 apply ZF
 apply ztn
 apply zsl
 refine zwN 49 (Z3M m.k m.fr m.to m.co m.st m.cx.x a11 ((m.cx.S.take 6).length) c12 m.ak m.ep m.rd m.tm m.qe m.qd m.qv m.qr b30.e b30.t b30.pa b30.P.length b30.pc b30.oa b30.O.length b30.oc b30.ta b30.T.length b30.tc m.qsb m.qsm m.vo.k m.vo.e m.vo.d m.vo.r m.vo.h m.vo.sb m.vo.sm m.ix m.en m.op.i a58 ((m.op.P.take 100).length) c59 m.op.h m.dn (ZD m.re) m.de m.dd b39.e b39.t b39.pa b39.P.length b39.pc b39.oa b39.O.length b39.oc b39.ta b39.T.length b39.tc a48 ((m.V.take 6).length) c49 p21) (H64.at 1 rfl) ?_
 refine zwd fun Kq kq => ?_
 refine Z21 (Z3M m.k m.fr m.to m.co m.st m.cx.x a11 ((m.cx.S.take 6).length) c12 m.ak m.ep m.rd m.tm m.qe m.qd m.qv m.qr b30.e b30.t b30.pa b30.P.length b30.pc b30.oa b30.O.length b30.oc b30.ta b30.T.length b30.tc m.qsb m.qsm m.vo.k m.vo.e m.vo.d m.vo.r m.vo.h m.vo.sb m.vo.sm m.ix m.en m.op.i a58 ((m.op.P.take 100).length) c59 m.op.h m.dn (ZD m.re) m.de m.dd b39.e b39.t b39.pa b39.P.length b39.pc b39.oa b39.O.length b39.oc b39.ta b39.T.length b39.tc a48 ((m.V.take 6).length) c49 p21) H64 2 ?_
 intro w106 H107
 refine kq _ _ ?_
 clear kq Kq
 apply znt
 apply Zz
 refine Z1x rfl (Z02 (vs := (Z3M m.k m.fr m.to m.co m.st m.cx.x a11 ((m.cx.S.take 6).length) c12 m.ak m.ep m.rd m.tm m.qe m.qd m.qv m.qr b30.e b30.t b30.pa b30.P.length b30.pc b30.oa b30.O.length b30.oc b30.ta b30.T.length b30.tc m.qsb m.qsm m.vo.k m.vo.e m.vo.d m.vo.r m.vo.h m.vo.sb m.vo.sm m.ix m.en m.op.i a58 ((m.op.P.take 100).length) c59 m.op.h m.dn (ZD m.re) m.de m.dd b39.e b39.t b39.pa b39.P.length b39.pc b39.oa b39.O.length b39.oc b39.ta b39.T.length b39.tc a48 ((m.V.take 6).length) c49 p21)) rfl (by kernel_rfl) (by kernel_rfl) (by exact Nat.le_of_ble_eq_true (by kernel_rfl)) (H107.at 2 rfl) (by kernel_rfl)) ?_
 exact ⟨⟨m.k, m.fr, m.to, m.co, m.st, ⟨m.cx.x, a11, c12, (m.cx.S.take 6)⟩, m.ak, m.ep, m.rd, m.tm, p21, m.qe, m.qd, m.qv, m.qr, b30, m.qsb, m.qsm, m.vo, m.ix, m.en, ⟨m.op.i, a58, c59, (m.op.P.take 100), m.op.h⟩, m.dn, m.re, m.de, m.dd, b39, a48, c49, (m.V.take 6)⟩, (by kernel_rfl), ⟨rfl, rfl, rfl, rfl, rfl, rfl⟩, H107.upd 0 rfl [] (fun _ h => h.elim)⟩
end Go.Proofs.YtgigjkjdmalmaaaGreat
