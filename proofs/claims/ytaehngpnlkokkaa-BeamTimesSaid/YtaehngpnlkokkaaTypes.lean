/-
  The Go structs, as Lean structures, and their cells.
-/
import Derived.Test.YtaehngpnlkokkaaAux
namespace Go.Proofs.Ytaehngpnlkokkaa
@[ext] structure SpanV where
  Lo : Int
  Hi : Int
  deriving DecidableEq

def SpanV.cells (s : SpanV) : List Value := Value.int .i64 s.Lo :: ([Value.int .i64 s.Hi])
theorem SpanV.cells_length (s : SpanV) : s.cells.length = 2 := rfl
@[ext] structure StretchV where
  Id : Int
  Long : SpanV
  Fall : SpanV
  Radius : SpanV
  Side : Int
  Wall : Int
  deriving DecidableEq

def StretchV.cells (s : StretchV) : List Value := Value.int .i64 s.Id :: (SpanV.cells s.Long ++ (SpanV.cells s.Fall ++ (SpanV.cells s.Radius ++ (Value.int .u8 s.Side :: ([Value.int .i64 s.Wall])))))
theorem StretchV.cells_length (s : StretchV) : s.cells.length = 9 := rfl
@[ext] structure TrackV where
  Stretches : Slc
  deriving DecidableEq

def TrackV.cells (s : TrackV) : List Value := [Value.slice s.Stretches.a s.Stretches.n s.Stretches.c]
theorem TrackV.cells_length (s : TrackV) : s.cells.length = 1 := rfl
@[ext] structure SurveyV where
  Track : TrackV
  deriving DecidableEq

def SurveyV.cells (s : SurveyV) : List Value := TrackV.cells s.Track
theorem SurveyV.cells_length (s : SurveyV) : s.cells.length = 1 := rfl
@[ext] structure LineV where
  Track : TrackV
  Fast : Int
  Clocks : Slc
  Beams : Slc
  Finish : Int
  Fakes : Int
  Misses : Int
  deriving DecidableEq

def LineV.cells (s : LineV) : List Value := TrackV.cells s.Track ++ (Value.int .i64 s.Fast :: (Value.slice s.Clocks.a s.Clocks.n s.Clocks.c :: (Value.slice s.Beams.a s.Beams.n s.Beams.c :: (Value.int .i64 s.Finish :: (Value.int .i64 s.Fakes :: ([Value.int .i64 s.Misses]))))))
theorem LineV.cells_length (s : LineV) : s.cells.length = 7 := rfl
@[ext] structure RideV where
  Start : Int
  Now : Int
  Signals : Slc
  deriving DecidableEq

def RideV.cells (s : RideV) : List Value := Value.int .i64 s.Start :: (Value.int .i64 s.Now :: ([Value.slice s.Signals.a s.Signals.n s.Signals.c]))
theorem RideV.cells_length (s : RideV) : s.cells.length = 3 := rfl
@[ext] structure SpotV where
  Stretch : Int
  Off : SpanV
  deriving DecidableEq

def SpotV.cells (s : SpotV) : List Value := Value.int .i64 s.Stretch :: (SpanV.cells s.Off)
theorem SpotV.cells_length (s : SpotV) : s.cells.length = 3 := rfl
@[ext] structure BeamV where
  Spot : SpotV
  Clock : Int
  deriving DecidableEq

def BeamV.cells (s : BeamV) : List Value := SpotV.cells s.Spot ++ ([Value.int .i64 s.Clock])
theorem BeamV.cells_length (s : BeamV) : s.cells.length = 4 := rfl
@[ext] structure ClockV where
  Drift : Int
  Syncs : Slc
  deriving DecidableEq

def ClockV.cells (s : ClockV) : List Value := Value.int .i64 s.Drift :: ([Value.slice s.Syncs.a s.Syncs.n s.Syncs.c])
theorem ClockV.cells_length (s : ClockV) : s.cells.length = 2 := rfl
@[ext] structure SyncV where
  At : Int
  Ahead : SpanV
  deriving DecidableEq

def SyncV.cells (s : SyncV) : List Value := Value.int .i64 s.At :: (SpanV.cells s.Ahead)
theorem SyncV.cells_length (s : SyncV) : s.cells.length = 3 := rfl
@[ext] structure SignalV where
  Beam : Int
  Read : Int
  deriving DecidableEq

def SignalV.cells (s : SignalV) : List Value := Value.int .i64 s.Beam :: ([Value.int .i64 s.Read])
theorem SignalV.cells_length (s : SignalV) : s.cells.length = 2 := rfl
structure T103V where
  so : Value

def T103V.cells (s : T103V) : List Value := [s.so]
theorem T103V.cells_length (s : T103V) : s.cells.length = 1 := rfl
structure ClockM where
  Drift : Int
  Syncs : List SyncV
  deriving DecidableEq
def ClockM.cells (m : ClockM) (a : Option Addr × Nat) : List Value := ClockV.cells ⟨m.Drift, ⟨a.1, m.Syncs.length, a.2⟩⟩
def ClockM.rds (m : ClockM) (a : Option Addr × Nat) : List Assn := [rd a.1 m.Syncs.length 3 (m.Syncs.map SyncV.cells)]
def ClockM.owns (m : ClockM) (a : Option Addr × Nat) : List Assn := [own a.1 a.2 61 3 (m.Syncs.map SyncV.cells)]
structure LineM where
  Track : List StretchV
  Fast : Int
  Clocks : List ClockM
  Beams : List BeamV
  Finish : Int
  Fakes : Int
  Misses : Int
  deriving DecidableEq
structure RideM where
  Start : Int
  Now : Int
  Signals : List SignalV
  deriving DecidableEq

end Go.Proofs.Ytaehngpnlkokkaa
