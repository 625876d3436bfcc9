/- Plain words on consoles: their log, seen as three values. -/
import Derived.Test.YtocpdkhahmbaiaaUb
namespace Go.Proofs.Ytocpdkhahmbaiaa
open Go Go.RowKit Fw
@[ext] structure Log where
  Durable : List UInt8
  Pending : List UInt8
  Count : Int
  deriving DecidableEq, Inhabited
@[reducible] def encLog (x : Log) : List Value := [str x.Durable, str x.Pending, .int .i64 x.Count]
@[ext] structure Console where
  Library : Library
  Log : Log
  deriving DecidableEq, Inhabited
end Go.Proofs.Ytocpdkhahmbaiaa
