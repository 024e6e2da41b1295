import Derived.Test.YtmfgmgifbkjaoaaGreatAc
set_option linter.unusedVariables false
set_option linter.unusedSimpArgs false
set_option linter.unusedSectionVars false

namespace Go.Sim.Le
structure Span where
  lo : Int
  hi : Int
  deriving DecidableEq
structure Sl (α : Type) where
  nl : Bool
  len : Nat
  el : Nat → α
structure Slc where
  vol : Span
  opn : Int
  fall : Int
  rate : Span
  most : Int
structure Cav where
  slices : Sl Slc
  hold : Int
  oil : Int
structure Stg where
  water : Int
  into : Int
  out : Int
  blanket : Int
  deriving DecidableEq
structure Truth where
  vols : Sl Int
  rates : Sl (Sl Int)
structure Mea where
  weights : Sl Int
  sump : Int
abbrev i64 (n : Int) : V := .int .i64 n
abbrev eInt (n : Int) : List V := [.int .i64 n]
abbrev eSpan (s : Span) : List V := [.int .i64 s.lo, .int .i64 s.hi]
abbrev eSlc (c : Slc) : List V := [.int .i64 c.vol.lo, .int .i64 c.vol.hi, .int .i64 c.opn, .int .i64 c.fall, .int .i64 c.rate.lo, .int .i64 c.rate.hi, .int .i64 c.most]
abbrev eStg (s : Stg) : List V := [.int .i64 s.water, .int .i64 s.into, .int .i64 s.out, .int .i64 s.blanket]
abbrev sl {α : Type} (e : α → List V) (wd : Nat) (s : Sl α) : V := .row s.nl s.len wd fun i => e (s.el i)
abbrev eIL (s : Sl Int) : List V := [sl eInt 1 s]
abbrev eCav (c : Cav) : List V := [sl eSlc 7 c.slices, .int .i64 c.hold, .int .i64 c.oil]
abbrev eTruth (t : Truth) : List V := [sl eInt 1 t.vols, sl eIL 1 t.rates]
abbrev eMea (m : Mea) : List V := [sl eInt 1 m.weights, .int .i64 m.sump]
abbrev eGas (g : Gs.Gas) : List V := [.int .i64 g.vol.lo, .int .i64 g.vol.hi, .int .i64 g.least, .int .i64 g.most, .int .i64 g.f0, .int .i64 g.f1, .int .i64 g.h0, .int .i64 g.h1, .int .i64 g.rock, .int .i64 g.pur.lo, .int .i64 g.pur.hi]
abbrev eGst (s : Gs.Gst) : List V := [.int .i64 s.gas.lo, .int .i64 s.gas.hi, .int .i64 s.hyd.lo, .int .i64 s.hyd.hi, .int .i64 s.heat.lo, .int .i64 s.heat.hi, .int .i64 s.water.lo, .int .i64 s.water.hi]
abbrev eGpt (p : Gs.Gpt) : List V := [.int .i64 p.gas, .int .i64 p.hyd, .int .i64 p.heat, .int .i64 p.water]
end Go.Sim.Le


namespace Go.Sim.Cr
open Go.Sim.Le (cfg E E_pf E_hv)
structure Span where
  lo : Int
  hi : Int
structure Sl (α : Type) where
  nl : Bool
  len : Nat
  el : Nat → α
structure Cav where
  x : Int
  y : Int
  rad : Span
  vol : Span
  rock : Int
  floor : Int
  gate : Span
  change : Int
structure Row where
  deficit : Int
  rate : Span
  spall : Span
structure Heat where
  warmth : Int
  factor : Span
structure Ring where
  away : Int
  share : Span
structure House where
  x : Int
  y : Int
  most : Int
structure Site where
  cavs : Sl Cav
  rows : Sl Row
  heats : Sl Heat
  wall : Int
  rings : Sl Ring
  houses : Sl House
structure Stt where
  rad : Span
  vol : Span
  lost : Span
structure Day where
  press : Sl Span
  warm : Sl Span
structure Fault where
  day : Int
  rule : Int
  of : Int
  wth : Int
structure Truth where
  rad : Int
  vol : Int
  lost : Int
structure Mark where
  at_ : Int
  wth : Int
  possible : Bool
  certain : Bool
abbrev i64 (n : Int) : V := .int .i64 n
abbrev eInt (n : Int) : List V := [.int .i64 n]
abbrev eSpan (s : Span) : List V := [.int .i64 s.lo, .int .i64 s.hi]
abbrev eCav (c : Cav) : List V := [.int .i64 c.x, .int .i64 c.y, .int .i64 c.rad.lo, .int .i64 c.rad.hi, .int .i64 c.vol.lo, .int .i64 c.vol.hi, .int .i64 c.rock, .int .i64 c.floor, .int .i64 c.gate.lo, .int .i64 c.gate.hi, .int .i64 c.change]
abbrev eRow (r : Row) : List V := [.int .i64 r.deficit, .int .i64 r.rate.lo, .int .i64 r.rate.hi, .int .i64 r.spall.lo, .int .i64 r.spall.hi]
abbrev eHeat (h : Heat) : List V := [.int .i64 h.warmth, .int .i64 h.factor.lo, .int .i64 h.factor.hi]
abbrev eRing (r : Ring) : List V := [.int .i64 r.away, .int .i64 r.share.lo, .int .i64 r.share.hi]
abbrev eHouse (h : House) : List V := [.int .i64 h.x, .int .i64 h.y, .int .i64 h.most]
abbrev eStt (s : Stt) : List V := [.int .i64 s.rad.lo, .int .i64 s.rad.hi, .int .i64 s.vol.lo, .int .i64 s.vol.hi, .int .i64 s.lost.lo, .int .i64 s.lost.hi]
abbrev eFault (f : Fault) : List V := [.int .i64 f.day, .int .i64 f.rule, .int .i64 f.of, .int .i64 f.wth]
abbrev eTruth (t : Truth) : List V := [.int .i64 t.rad, .int .i64 t.vol, .int .i64 t.lost]
abbrev eMark (m : Mark) : List V := [.int .i64 m.at_, .int .i64 m.wth, .bool m.possible, .bool m.certain]
abbrev sl {α : Type} (e : α → List V) (wd : Nat) (s : Sl α) : V := .row s.nl s.len wd fun i => e (s.el i)
abbrev eIL (s : Sl Int) : List V := [sl eInt 1 s]
abbrev eSite (s : Site) : List V := [sl eCav 11 s.cavs, sl eRow 5 s.rows, sl eHeat 3 s.heats, .int .i64 s.wall, sl eRing 3 s.rings, sl eHouse 3 s.houses]
abbrev eDay (d : Day) : List V := [sl eSpan 2 d.press, sl eSpan 2 d.warm]
abbrev pSite (s : Site) : V := .rptr 1 6 (fun _ => eSite s) 0 0
structure Today where
  s : Site
  d : Day
  before : Sl Span
  behind : Sl Stt
abbrev eToday (t : Today) : List V := [pSite t.s, sl eSpan 2 t.d.press, sl eSpan 2 t.d.warm, sl eSpan 2 t.before, sl eStt 6 t.behind]
abbrev pToday (t : Today) : V := .rptr 1 5 (fun _ => eToday t) 0 0
abbrev cMap (g : Nat) (s : Site) : V := .fn (.func g) [] [.rptr 1 1 (fun _ => [pSite s]) 0 0]
end Go.Sim.Cr
