import Derived.Test.YtbhhggkblkfmnaaAc
set_option linter.unusedVariables false
set_option linter.unusedSimpArgs false
set_option linter.unusedSectionVars false

namespace Go.Sim.Le
structure Span where
  lo : Int
  hi : Int
  deriving DecidableEq
structure Sl (α : Type) where
  nl : Bool
  len : Nat
  el : Nat → α
structure Slc where
  vol : Span
  opn : Int
  fall : Int
  rate : Span
  most : Int
structure Cav where
  slices : Sl Slc
  hold : Int
  oil : Int
structure Stg where
  water : Int
  into : Int
  out : Int
  blanket : Int
  deriving DecidableEq
structure Truth where
  vols : Sl Int
  rates : Sl (Sl Int)
structure Mea where
  weights : Sl Int
  sump : Int
abbrev i64 (n : Int) : V := .int .i64 n
abbrev eInt (n : Int) : List V := [.int .i64 n]
abbrev eSpan (s : Span) : List V := [.int .i64 s.lo, .int .i64 s.hi]
abbrev eSlc (c : Slc) : List V := [.int .i64 c.vol.lo, .int .i64 c.vol.hi, .int .i64 c.opn, .int .i64 c.fall, .int .i64 c.rate.lo, .int .i64 c.rate.hi, .int .i64 c.most]
abbrev eStg (s : Stg) : List V := [.int .i64 s.water, .int .i64 s.into, .int .i64 s.out, .int .i64 s.blanket]
abbrev sl {α : Type} (e : α → List V) (wd : Nat) (s : Sl α) : V := .row s.nl s.len wd fun i => e (s.el i)
abbrev eIL (s : Sl Int) : List V := [sl eInt 1 s]
abbrev eCav (c : Cav) : List V := [sl eSlc 7 c.slices, .int .i64 c.hold, .int .i64 c.oil]
abbrev eTruth (t : Truth) : List V := [sl eInt 1 t.vols, sl eIL 1 t.rates]
abbrev eMea (m : Mea) : List V := [sl eInt 1 m.weights, .int .i64 m.sump]
abbrev eGas (g : Gs.Gas) : List V := [.int .i64 g.vol.lo, .int .i64 g.vol.hi, .int .i64 g.least, .int .i64 g.most, .int .i64 g.f0, .int .i64 g.f1, .int .i64 g.h0, .int .i64 g.h1, .int .i64 g.rock, .int .i64 g.pur.lo, .int .i64 g.pur.hi]
abbrev eGst (s : Gs.Gst) : List V := [.int .i64 s.gas.lo, .int .i64 s.gas.hi, .int .i64 s.hyd.lo, .int .i64 s.hyd.hi, .int .i64 s.heat.lo, .int .i64 s.heat.hi, .int .i64 s.water.lo, .int .i64 s.water.hi]
abbrev eGpt (p : Gs.Gpt) : List V := [.int .i64 p.gas, .int .i64 p.hyd, .int .i64 p.heat, .int .i64 p.water]
end Go.Sim.Le
