/-
  The Go structs, as Lean structures, and their cells.
-/
import Derived.Test.YtpbgdeojcefnmaaAux
namespace Go.Proofs.Ytpbgdeojcefnmaa
@[ext] structure SpanV where
  Lo : Int
  Hi : Int
  deriving DecidableEq

def SpanV.cells (s : SpanV) : List Value := Value.int .i64 s.Lo :: ([Value.int .i64 s.Hi])
theorem SpanV.cells_length (s : SpanV) : s.cells.length = 2 := rfl
@[ext] structure SledV where
  Class : Int
  Start : SpanV
  Rub : SpanV
  Drag : SpanV
  Weight : SpanV
  Steer : SpanV
  deriving DecidableEq

def SledV.cells (s : SledV) : List Value := Value.int .u8 s.Class :: (SpanV.cells s.Start ++ (SpanV.cells s.Rub ++ (SpanV.cells s.Drag ++ (SpanV.cells s.Weight ++ (SpanV.cells s.Steer)))))
theorem SledV.cells_length (s : SledV) : s.cells.length = 11 := rfl
@[ext] structure TrackV where
  Stretches : Slc
  deriving DecidableEq

def TrackV.cells (s : TrackV) : List Value := [Value.slice s.Stretches.a s.Stretches.n s.Stretches.c]
theorem TrackV.cells_length (s : TrackV) : s.cells.length = 1 := rfl
@[ext] structure RiderV where
  Sled : SledV
  track : TrackV
  best : Bool
  deriving DecidableEq

def RiderV.cells (s : RiderV) : List Value := SledV.cells s.Sled ++ (TrackV.cells s.track ++ ([Value.bool s.best]))
theorem RiderV.cells_length (s : RiderV) : s.cells.length = 13 := rfl
@[ext] structure StretchV where
  Id : Int
  Long : SpanV
  Fall : SpanV
  Radius : SpanV
  Side : Int
  Wall : Int
  deriving DecidableEq

def StretchV.cells (s : StretchV) : List Value := Value.int .i64 s.Id :: (SpanV.cells s.Long ++ (SpanV.cells s.Fall ++ (SpanV.cells s.Radius ++ (Value.int .u8 s.Side :: ([Value.int .i64 s.Wall])))))
theorem StretchV.cells_length (s : StretchV) : s.cells.length = 9 := rfl
@[ext] structure MeasureV where
  Kind : Int
  From : Int
  To : Int
  Value_ : SpanV
  deriving DecidableEq

def MeasureV.cells (s : MeasureV) : List Value := Value.int .u8 s.Kind :: (Value.int .i64 s.From :: (Value.int .i64 s.To :: (SpanV.cells s.Value_)))
theorem MeasureV.cells_length (s : MeasureV) : s.cells.length = 5 := rfl
structure T151V where
  of_ : Value

def T151V.cells (s : T151V) : List Value := [s.of_]
theorem T151V.cells_length (s : T151V) : s.cells.length = 1 := rfl
@[ext] structure SurveyV where
  Track : TrackV
  deriving DecidableEq

def SurveyV.cells (s : SurveyV) : List Value := TrackV.cells s.Track
theorem SurveyV.cells_length (s : SurveyV) : s.cells.length = 1 := rfl
end Go.Proofs.Ytpbgdeojcefnmaa
