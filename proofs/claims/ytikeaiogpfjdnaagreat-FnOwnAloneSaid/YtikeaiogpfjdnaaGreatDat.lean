/- The data that the program works on, as plain structures; how they lie in cells. Printed by gendat.py. -/
import Derived.Test.YtikeaiogpfjdnaaGreatOwn
namespace Go.Kx
open Go Go.RowKit
set_option linter.unusedVariables false
set_option linter.unusedSimpArgs false
instance:iw Int where
  ty:=3
  sz:=1
  zero:=0
  zc:=[.int .i64 0]
  pos:=by omega
  rd _ _ cs x:=cs=[.int .i64 x]
  own _ cs F x:=cs=[.int .i64 x]∧F=[]
  lh:=by rintro _ _ _ _ rfl;rfl
  jo:=by rintro _ _ _ _ ⟨rfl,_⟩;rfl
  kE h _:=h
  kF h _:=h
  j8 h _:=h
  k9 h _:=h.1
  kr:=by rintro _ _ _ _ ⟨rfl,_⟩;simp [Value.oneCell']
  jP _:=⟨rfl,rfl⟩
instance:Flat Int:=⟨fun h=>⟨h,rfl⟩⟩
instance:iw Bool where
  ty:=4
  sz:=1
  zero:=false
  zc:=[.bool false]
  pos:=by omega
  rd _ _ cs x:=cs=[.bool x]
  own _ cs F x:=cs=[.bool x]∧F=[]
  lh:=by rintro _ _ _ _ rfl;rfl
  jo:=by rintro _ _ _ _ ⟨rfl,_⟩;rfl
  kE h _:=h
  kF h _:=h
  j8 h _:=h
  k9 h _:=h.1
  kr:=by rintro _ _ _ _ ⟨rfl,_⟩;simp [Value.oneCell']
  jP _:=⟨rfl,rfl⟩
instance:Flat Bool:=⟨fun h=>⟨h,rfl⟩⟩
abbrev H3:=ByteArray
instance:iw H3 where
  ty:=9
  sz:=1
  zero:=⟨#[]⟩
  zc:=[.string ⟨#[]⟩]
  pos:=by omega
  rd _ _ cs x:=cs=[.string x]
  own _ cs F x:=cs=[.string x]∧F=[]
  lh:=by rintro _ _ _ _ rfl;rfl
  jo:=by rintro _ _ _ _ ⟨rfl,_⟩;rfl
  kE h _:=h
  kF h _:=h
  j8 h _:=h
  k9 h _:=h.1
  kr:=by rintro _ _ _ _ ⟨rfl,_⟩;simp [Value.oneCell']
  jP _:=⟨rfl,rfl⟩
instance:Flat H3:=⟨fun h=>⟨h,rfl⟩⟩
structure U8 where
  v:Int
  deriving DecidableEq
instance:iw U8 where
  ty:=5
  sz:=1
  zero:=⟨0⟩
  zc:=[.int .u8 0]
  pos:=by omega
  rd _ _ cs x:=cs=[.int .u8 x.v]
  own _ cs F x:=cs=[.int .u8 x.v]∧F=[]
  lh:=by rintro _ _ _ _ rfl;rfl
  jo:=by rintro _ _ _ _ ⟨rfl,_⟩;rfl
  kE h _:=h
  kF h _:=h
  j8 h _:=h
  k9 h _:=h.1
  kr:=by rintro _ _ _ _ ⟨rfl,_⟩;simp [Value.oneCell']
  jP _:=⟨rfl,rfl⟩
instance:Flat U8:=⟨fun h=>⟨h,rfl⟩⟩
def vz (a b:Int):Int:=IntKind.i64.wrap ((BitVec.ofInt IntKind.i64.bits a &&& BitVec.ofInt IntKind.i64.bits b).toNat:Int)
def GH (a b:Int):Int:=IntKind.i64.wrap ((BitVec.ofInt IntKind.i64.bits a ^^^ BitVec.ofInt IntKind.i64.bits b).toNat:Int)
def CS (a b:Int):Int:=a.fdiv (2 ^ (min b.toNat IntKind.i64.bits))
structure Hd where
  a:Option Addr
  n:Nat
  c:Nat
structure iB where
  cd:Int
  ij:Int
  iD:Int
  deriving DecidableEq
instance:iw iB where
  ty:=35
  sz:=3
  zero:=⟨0,0,0⟩
  zc:=[.int .i64 0,.int .i64 0,.int .i64 0]
  pos:=by omega
  rd _ _ cs x:=cs=[.int .i64 x.cd,.int .i64 x.ij,.int .i64 x.iD]
  own _ cs F x:=cs=[.int .i64 x.cd,.int .i64 x.ij,.int .i64 x.iD]∧F=[]
  lh:=by rintro _ _ _ _ rfl;rfl
  jo:=by rintro _ _ _ _ ⟨rfl,_⟩;rfl
  kE h _:=h
  kF h _:=h
  j8 h _:=h
  k9 h _:=h.1
  kr:=by rintro _ _ _ _ ⟨rfl,_⟩;simp [Value.oneCell']
  jP _:=⟨rfl,rfl⟩
instance:Flat iB:=⟨fun h=>⟨h,rfl⟩⟩
structure iS where
  kind:Int
  a:Int
  b:Int
  c:Int
  d:Int
  e:Int
  deriving DecidableEq
instance:iw iS where
  ty:=59
  sz:=6
  zero:=⟨0,0,0,0,0,0⟩
  zc:=[.int .i64 0,.int .i64 0,.int .i64 0,.int .i64 0,.int .i64 0,.int .i64 0]
  pos:=by omega
  rd _ _ cs x:=cs=[.int .i64 x.kind,.int .i64 x.a,.int .i64 x.b,.int .i64 x.c,.int .i64 x.d,.int .i64 x.e]
  own _ cs F x:=cs=[.int .i64 x.kind,.int .i64 x.a,.int .i64 x.b,.int .i64 x.c,.int .i64 x.d,.int .i64 x.e]∧F=[]
  lh:=by rintro _ _ _ _ rfl;rfl
  jo:=by rintro _ _ _ _ ⟨rfl,_⟩;rfl
  kE h _:=h
  kF h _:=h
  j8 h _:=h
  k9 h _:=h.1
  kr:=by rintro _ _ _ _ ⟨rfl,_⟩;simp [Value.oneCell']
  jP _:=⟨rfl,rfl⟩
instance:Flat iS:=⟨fun h=>⟨h,rfl⟩⟩
structure iR where
  code:Int
  val:Int
  deriving DecidableEq
instance:iw iR where
  ty:=87
  sz:=2
  zero:=⟨0,0⟩
  zc:=[.int .i64 0,.int .i64 0]
  pos:=by omega
  rd _ _ cs x:=cs=[.int .i64 x.code,.int .i64 x.val]
  own _ cs F x:=cs=[.int .i64 x.code,.int .i64 x.val]∧F=[]
  lh:=by rintro _ _ _ _ rfl;rfl
  jo:=by rintro _ _ _ _ ⟨rfl,_⟩;rfl
  kE h _:=h
  kF h _:=h
  j8 h _:=h
  k9 h _:=h.1
  kr:=by rintro _ _ _ _ ⟨rfl,_⟩;simp [Value.oneCell']
  jP _:=⟨rfl,rfl⟩
instance:Flat iR:=⟨fun h=>⟨h,rfl⟩⟩
structure iy where
  live:Bool
  parent:Int
  iU:iB
  deriving DecidableEq
instance:iw iy where
  ty:=46
  sz:=5
  zero:=⟨false,0,⟨0,0,0⟩⟩
  zc:=[.bool false,.int .i64 0,.int .i64 0,.int .i64 0,.int .i64 0]
  pos:=by omega
  rd _ _ cs x:=cs=[.bool x.live,.int .i64 x.parent,.int .i64 x.iU.cd,.int .i64 x.iU.ij,.int .i64 x.iU.iD]
  own _ cs F x:=cs=[.bool x.live,.int .i64 x.parent,.int .i64 x.iU.cd,.int .i64 x.iU.ij,.int .i64 x.iU.iD]∧F=[]
  lh:=by rintro _ _ _ _ rfl;rfl
  jo:=by rintro _ _ _ _ ⟨rfl,_⟩;rfl
  kE h _:=h
  kF h _:=h
  j8 h _:=h
  k9 h _:=h.1
  kr:=by rintro _ _ _ _ ⟨rfl,_⟩;simp [Value.oneCell']
  jP _:=⟨rfl,rfl⟩
instance:Flat iy:=⟨fun h=>⟨h,rfl⟩⟩
structure jy where
  res:Int
  lq:Int
  mD:Int
  mz:Int
  kind:Int
  mS:Int
  deriving DecidableEq
instance:iw jy where
  ty:=126
  sz:=6
  zero:=⟨0,0,0,0,0,0⟩
  zc:=[.int .i64 0,.int .i64 0,.int .i64 0,.int .i64 0,.int .i64 0,.int .i64 0]
  pos:=by omega
  rd _ _ cs x:=cs=[.int .i64 x.res,.int .i64 x.lq,.int .i64 x.mD,.int .i64 x.mz,.int .i64 x.kind,.int .i64 x.mS]
  own _ cs F x:=cs=[.int .i64 x.res,.int .i64 x.lq,.int .i64 x.mD,.int .i64 x.mz,.int .i64 x.kind,.int .i64 x.mS]∧F=[]
  lh:=by rintro _ _ _ _ rfl;rfl
  jo:=by rintro _ _ _ _ ⟨rfl,_⟩;rfl
  kE h _:=h
  kF h _:=h
  j8 h _:=h
  k9 h _:=h.1
  kr:=by rintro _ _ _ _ ⟨rfl,_⟩;simp [Value.oneCell']
  jP _:=⟨rfl,rfl⟩
instance:Flat jy:=⟨fun h=>⟨h,rfl⟩⟩
structure ji where
  src:Int
  n:Int
  deriving DecidableEq
instance:iw ji where
  ty:=189
  sz:=2
  zero:=⟨0,0⟩
  zc:=[.int .i64 0,.int .i64 0]
  pos:=by omega
  rd _ _ cs x:=cs=[.int .i64 x.src,.int .i64 x.n]
  own _ cs F x:=cs=[.int .i64 x.src,.int .i64 x.n]∧F=[]
  lh:=by rintro _ _ _ _ rfl;rfl
  jo:=by rintro _ _ _ _ ⟨rfl,_⟩;rfl
  kE h _:=h
  kF h _:=h
  j8 h _:=h
  k9 h _:=h.1
  kr:=by rintro _ _ _ _ ⟨rfl,_⟩;simp [Value.oneCell']
  jP _:=⟨rfl,rfl⟩
instance:Flat ji:=⟨fun h=>⟨h,rfl⟩⟩
structure jC where
  levels:List Int
  deriving DecidableEq
instance:iw jC where
  ty:=26
  sz:=1
  zero:=⟨[]⟩
  zc:=[.slice none 0 0]
  pos:=by omega
  rd S w cs x:=∃ (a0:Option Addr) (c0:Nat),cs=[.slice a0 x.levels.length c0]∧iO S w a0 c0 x.levels
  own w cs F x:=∃ (a0:Option Addr) (c0:Nat),cs=[.slice a0 x.levels.length c0]∧i9 [sl a0 c0 x.levels] w F
  lh:=by rintro _ _ _ _ ⟨a0,c0,rfl,_⟩;rfl
  jo:=by rintro _ _ _ _ ⟨a0,c0,rfl,_⟩;rfl
  kE:=by rintro _ _ _ _ _ ⟨a0,c0,rfl,h0⟩ hk;exact ⟨a0,c0,rfl,h0.lJ hk⟩
  kF:=by rintro _ _ _ _ _ ⟨a0,c0,rfl,h0⟩ hk;exact ⟨a0,c0,rfl,h0.mono hk⟩
  j8:=by rintro _ _ _ _ _ ⟨a0,c0,rfl,h⟩ hk;exact ⟨a0,c0,rfl,h.frame hk⟩
  k9:=by rintro _ _ _ _ _ ⟨a0,c0,rfl,h⟩ hk;exact ⟨a0,c0,rfl,i9.lO h 0 rfl hk⟩
  kr:=by rintro _ _ _ _ ⟨a0,c0,rfl,_⟩;simp [Value.oneCell']
  jP _:=⟨none,0,rfl,⟨[],[],rfl,.inl ⟨rfl,rfl,rfl,rfl⟩,rfl⟩⟩
structure jY where
  label:jC
  own:List Int
  jT:iB
  deriving DecidableEq
instance:iw jY where
  ty:=131
  sz:=5
  zero:=⟨⟨[]⟩,[],⟨0,0,0⟩⟩
  zc:=[.slice none 0 0,.slice none 0 0,.int .i64 0,.int .i64 0,.int .i64 0]
  pos:=by omega
  rd S w cs x:=∃ (a0:Option Addr) (c0:Nat) (a1:Option Addr) (c1:Nat),cs=[.slice a0 x.label.levels.length c0,.slice a1 x.own.length c1,.int .i64 x.jT.cd,.int .i64 x.jT.ij,.int .i64 x.jT.iD]∧iO S w a0 c0 x.label.levels∧iO S w a1 c1 x.own
  own w cs F x:=∃ (a0:Option Addr) (c0:Nat) (a1:Option Addr) (c1:Nat),cs=[.slice a0 x.label.levels.length c0,.slice a1 x.own.length c1,.int .i64 x.jT.cd,.int .i64 x.jT.ij,.int .i64 x.jT.iD]∧i9 [sl a0 c0 x.label.levels,sl a1 c1 x.own] w F
  lh:=by rintro _ _ _ _ ⟨a0,c0,a1,c1,rfl,_⟩;rfl
  jo:=by rintro _ _ _ _ ⟨a0,c0,a1,c1,rfl,_⟩;rfl
  kE:=by rintro _ _ _ _ _ ⟨a0,c0,a1,c1,rfl,h0,h1⟩ hk;exact ⟨a0,c0,a1,c1,rfl,h0.lJ hk,h1.lJ hk⟩
  kF:=by rintro _ _ _ _ _ ⟨a0,c0,a1,c1,rfl,h0,h1⟩ hk;exact ⟨a0,c0,a1,c1,rfl,h0.mono hk,h1.mono hk⟩
  j8:=by rintro _ _ _ _ _ ⟨a0,c0,a1,c1,rfl,h⟩ hk;exact ⟨a0,c0,a1,c1,rfl,h.frame hk⟩
  k9:=by rintro _ _ _ _ _ ⟨a0,c0,a1,c1,rfl,h⟩ hk;exact ⟨a0,c0,a1,c1,rfl,i9.lO h 0 rfl hk,i9.lO h 1 rfl hk⟩
  kr:=by rintro _ _ _ _ ⟨a0,c0,a1,c1,rfl,_⟩;simp [Value.oneCell']
  jP _:=⟨none,0,none,0,rfl,⟨[],[],rfl,.inl ⟨rfl,rfl,rfl,rfl⟩,⟨[],[],rfl,.inl ⟨rfl,rfl,rfl,rfl⟩,rfl⟩⟩⟩
structure bh where
  gen:Int
  kind:Int
  box:Int
  res:Int
  iL:Int
  cd:Int
  wait:Int
  iK:Int
  iM:Int
  mark:Bool
  ig:List Int
  data:List Int
  queue:List ji
  deriving DecidableEq
instance:iw bh where
  ty:=44
  sz:=13
  zero:=⟨0,0,0,0,0,0,0,0,0,false,[],[],[]⟩
  zc:=[.int .i64 0,.int .i64 0,.int .i64 0,.int .i64 0,.int .i64 0,.int .i64 0,.int .i64 0,.int .i64 0,.int .i64 0,.bool false,.slice none 0 0,.slice none 0 0,.slice none 0 0]
  pos:=by omega
  rd S w cs x:=∃ (a10:Option Addr) (c10:Nat) (a11:Option Addr) (c11:Nat) (a12:Option Addr) (c12:Nat),cs=[.int .i64 x.gen,.int .i64 x.kind,.int .i64 x.box,.int .i64 x.res,.int .i64 x.iL,.int .i64 x.cd,.int .i64 x.wait,.int .i64 x.iK,.int .i64 x.iM,.bool x.mark,.slice a10 x.ig.length c10,.slice a11 x.data.length c11,.slice a12 x.queue.length c12]∧iO S w a10 c10 x.ig∧iO S w a11 c11 x.data∧iO S w a12 c12 x.queue
  own w cs F x:=∃ (a10:Option Addr) (c10:Nat) (a11:Option Addr) (c11:Nat) (a12:Option Addr) (c12:Nat),cs=[.int .i64 x.gen,.int .i64 x.kind,.int .i64 x.box,.int .i64 x.res,.int .i64 x.iL,.int .i64 x.cd,.int .i64 x.wait,.int .i64 x.iK,.int .i64 x.iM,.bool x.mark,.slice a10 x.ig.length c10,.slice a11 x.data.length c11,.slice a12 x.queue.length c12]∧i9 [sl a10 c10 x.ig,sl a11 c11 x.data,sl a12 c12 x.queue] w F
  lh:=by rintro _ _ _ _ ⟨a10,c10,a11,c11,a12,c12,rfl,_⟩;rfl
  jo:=by rintro _ _ _ _ ⟨a10,c10,a11,c11,a12,c12,rfl,_⟩;rfl
  kE:=by rintro _ _ _ _ _ ⟨a10,c10,a11,c11,a12,c12,rfl,h10,h11,h12⟩ hk;exact ⟨a10,c10,a11,c11,a12,c12,rfl,h10.lJ hk,h11.lJ hk,h12.lJ hk⟩
  kF:=by rintro _ _ _ _ _ ⟨a10,c10,a11,c11,a12,c12,rfl,h10,h11,h12⟩ hk;exact ⟨a10,c10,a11,c11,a12,c12,rfl,h10.mono hk,h11.mono hk,h12.mono hk⟩
  j8:=by rintro _ _ _ _ _ ⟨a10,c10,a11,c11,a12,c12,rfl,h⟩ hk;exact ⟨a10,c10,a11,c11,a12,c12,rfl,h.frame hk⟩
  k9:=by rintro _ _ _ _ _ ⟨a10,c10,a11,c11,a12,c12,rfl,h⟩ hk;exact ⟨a10,c10,a11,c11,a12,c12,rfl,i9.lO h 0 rfl hk,i9.lO h 1 rfl hk,i9.lO h 2 rfl hk⟩
  kr:=by rintro _ _ _ _ ⟨a10,c10,a11,c11,a12,c12,rfl,_⟩;simp [Value.oneCell']
  jP _:=⟨none,0,none,0,none,0,rfl,⟨[],[],rfl,.inl ⟨rfl,rfl,rfl,rfl⟩,⟨[],[],rfl,.inl ⟨rfl,rfl,rfl,rfl⟩,⟨[],[],rfl,.inl ⟨rfl,rfl,rfl,rfl⟩,rfl⟩⟩⟩⟩
structure jz where
  phase:Int
  pos:Int
  round:Int
  ia:List Int
  deriving DecidableEq
instance:iw jz where
  ty:=30
  sz:=4
  zero:=⟨0,0,0,[]⟩
  zc:=[.int .i64 0,.int .i64 0,.int .i64 0,.slice none 0 0]
  pos:=by omega
  rd S w cs x:=∃ (a3:Option Addr) (c3:Nat),cs=[.int .i64 x.phase,.int .i64 x.pos,.int .i64 x.round,.slice a3 x.ia.length c3]∧iO S w a3 c3 x.ia
  own w cs F x:=∃ (a3:Option Addr) (c3:Nat),cs=[.int .i64 x.phase,.int .i64 x.pos,.int .i64 x.round,.slice a3 x.ia.length c3]∧i9 [sl a3 c3 x.ia] w F
  lh:=by rintro _ _ _ _ ⟨a3,c3,rfl,_⟩;rfl
  jo:=by rintro _ _ _ _ ⟨a3,c3,rfl,_⟩;rfl
  kE:=by rintro _ _ _ _ _ ⟨a3,c3,rfl,h3⟩ hk;exact ⟨a3,c3,rfl,h3.lJ hk⟩
  kF:=by rintro _ _ _ _ _ ⟨a3,c3,rfl,h3⟩ hk;exact ⟨a3,c3,rfl,h3.mono hk⟩
  j8:=by rintro _ _ _ _ _ ⟨a3,c3,rfl,h⟩ hk;exact ⟨a3,c3,rfl,h.frame hk⟩
  k9:=by rintro _ _ _ _ _ ⟨a3,c3,rfl,h⟩ hk;exact ⟨a3,c3,rfl,i9.lO h 0 rfl hk⟩
  kr:=by rintro _ _ _ _ ⟨a3,c3,rfl,_⟩;simp [Value.oneCell']
  jP _:=⟨none,0,rfl,⟨[],[],rfl,.inl ⟨rfl,rfl,rfl,rfl⟩,rfl⟩⟩
structure iv where
  ag:List bh
  gc:jz
  deriving DecidableEq
instance:iw iv where
  ty:=32
  sz:=5
  zero:=⟨[],⟨0,0,0,[]⟩⟩
  zc:=[.slice none 0 0,.int .i64 0,.int .i64 0,.int .i64 0,.slice none 0 0]
  pos:=by omega
  rd S w cs x:=∃ (a0:Option Addr) (c0:Nat) (a4:Option Addr) (c4:Nat),cs=[.slice a0 x.ag.length c0,.int .i64 x.gc.phase,.int .i64 x.gc.pos,.int .i64 x.gc.round,.slice a4 x.gc.ia.length c4]∧iO S w a0 c0 x.ag∧iO S w a4 c4 x.gc.ia
  own w cs F x:=∃ (a0:Option Addr) (c0:Nat) (a4:Option Addr) (c4:Nat),cs=[.slice a0 x.ag.length c0,.int .i64 x.gc.phase,.int .i64 x.gc.pos,.int .i64 x.gc.round,.slice a4 x.gc.ia.length c4]∧i9 [sl a0 c0 x.ag,sl a4 c4 x.gc.ia] w F
  lh:=by rintro _ _ _ _ ⟨a0,c0,a4,c4,rfl,_⟩;rfl
  jo:=by rintro _ _ _ _ ⟨a0,c0,a4,c4,rfl,_⟩;rfl
  kE:=by rintro _ _ _ _ _ ⟨a0,c0,a4,c4,rfl,h0,h4⟩ hk;exact ⟨a0,c0,a4,c4,rfl,h0.lJ hk,h4.lJ hk⟩
  kF:=by rintro _ _ _ _ _ ⟨a0,c0,a4,c4,rfl,h0,h4⟩ hk;exact ⟨a0,c0,a4,c4,rfl,h0.mono hk,h4.mono hk⟩
  j8:=by rintro _ _ _ _ _ ⟨a0,c0,a4,c4,rfl,h⟩ hk;exact ⟨a0,c0,a4,c4,rfl,h.frame hk⟩
  k9:=by rintro _ _ _ _ _ ⟨a0,c0,a4,c4,rfl,h⟩ hk;exact ⟨a0,c0,a4,c4,rfl,i9.lO h 0 rfl hk,i9.lO h 1 rfl hk⟩
  kr:=by rintro _ _ _ _ ⟨a0,c0,a4,c4,rfl,_⟩;simp [Value.oneCell']
  jP _:=⟨none,0,none,0,rfl,⟨[],[],rfl,.inl ⟨rfl,rfl,rfl,rfl⟩,⟨[],[],rfl,.inl ⟨rfl,rfl,rfl,rfl⟩,rfl⟩⟩⟩
structure gE where
  label:jC
  own:List Int
  tree:List iy
  heap:iv
  ic:List jy
  next:Int
  want:Int
  dW:iB
  iz:Int
  lost:Int
  deriving DecidableEq
instance:iw gE where
  ty:=37
  sz:=16
  zero:=⟨⟨[]⟩,[],[],⟨[],⟨0,0,0,[]⟩⟩,[],0,0,⟨0,0,0⟩,0,0⟩
  zc:=[.slice none 0 0,.slice none 0 0,.slice none 0 0,.slice none 0 0,.int .i64 0,.int .i64 0,.int .i64 0,.slice none 0 0,.slice none 0 0,.int .i64 0,.int .i64 0,.int .i64 0,.int .i64 0,.int .i64 0,.int .i64 0,.int .i64 0]
  pos:=by omega
  rd S w cs x:=∃ (a0:Option Addr) (c0:Nat) (a1:Option Addr) (c1:Nat) (a2:Option Addr) (c2:Nat) (a3:Option Addr) (c3:Nat) (a7:Option Addr) (c7:Nat) (a8:Option Addr) (c8:Nat),cs=[.slice a0 x.label.levels.length c0,.slice a1 x.own.length c1,.slice a2 x.tree.length c2,.slice a3 x.heap.ag.length c3,.int .i64 x.heap.gc.phase,.int .i64 x.heap.gc.pos,.int .i64 x.heap.gc.round,.slice a7 x.heap.gc.ia.length c7,.slice a8 x.ic.length c8,.int .i64 x.next,.int .i64 x.want,.int .i64 x.dW.cd,.int .i64 x.dW.ij,.int .i64 x.dW.iD,.int .i64 x.iz,.int .i64 x.lost]∧iO S w a0 c0 x.label.levels∧iO S w a1 c1 x.own∧iO S w a2 c2 x.tree∧iO S w a3 c3 x.heap.ag∧iO S w a7 c7 x.heap.gc.ia∧iO S w a8 c8 x.ic
  own w cs F x:=∃ (a0:Option Addr) (c0:Nat) (a1:Option Addr) (c1:Nat) (a2:Option Addr) (c2:Nat) (a3:Option Addr) (c3:Nat) (a7:Option Addr) (c7:Nat) (a8:Option Addr) (c8:Nat),cs=[.slice a0 x.label.levels.length c0,.slice a1 x.own.length c1,.slice a2 x.tree.length c2,.slice a3 x.heap.ag.length c3,.int .i64 x.heap.gc.phase,.int .i64 x.heap.gc.pos,.int .i64 x.heap.gc.round,.slice a7 x.heap.gc.ia.length c7,.slice a8 x.ic.length c8,.int .i64 x.next,.int .i64 x.want,.int .i64 x.dW.cd,.int .i64 x.dW.ij,.int .i64 x.dW.iD,.int .i64 x.iz,.int .i64 x.lost]∧i9 [sl a0 c0 x.label.levels,sl a1 c1 x.own,sl a2 c2 x.tree,sl a3 c3 x.heap.ag,sl a7 c7 x.heap.gc.ia,sl a8 c8 x.ic] w F
  lh:=by rintro _ _ _ _ ⟨a0,c0,a1,c1,a2,c2,a3,c3,a7,c7,a8,c8,rfl,_⟩;rfl
  jo:=by rintro _ _ _ _ ⟨a0,c0,a1,c1,a2,c2,a3,c3,a7,c7,a8,c8,rfl,_⟩;rfl
  kE:=by rintro _ _ _ _ _ ⟨a0,c0,a1,c1,a2,c2,a3,c3,a7,c7,a8,c8,rfl,h0,h1,h2,h3,h7,h8⟩ hk;exact ⟨a0,c0,a1,c1,a2,c2,a3,c3,a7,c7,a8,c8,rfl,h0.lJ hk,h1.lJ hk,h2.lJ hk,h3.lJ hk,h7.lJ hk,h8.lJ hk⟩
  kF:=by rintro _ _ _ _ _ ⟨a0,c0,a1,c1,a2,c2,a3,c3,a7,c7,a8,c8,rfl,h0,h1,h2,h3,h7,h8⟩ hk;exact ⟨a0,c0,a1,c1,a2,c2,a3,c3,a7,c7,a8,c8,rfl,h0.mono hk,h1.mono hk,h2.mono hk,h3.mono hk,h7.mono hk,h8.mono hk⟩
  j8:=by rintro _ _ _ _ _ ⟨a0,c0,a1,c1,a2,c2,a3,c3,a7,c7,a8,c8,rfl,h⟩ hk;exact ⟨a0,c0,a1,c1,a2,c2,a3,c3,a7,c7,a8,c8,rfl,h.frame hk⟩
  k9:=by rintro _ _ _ _ _ ⟨a0,c0,a1,c1,a2,c2,a3,c3,a7,c7,a8,c8,rfl,h⟩ hk;exact ⟨a0,c0,a1,c1,a2,c2,a3,c3,a7,c7,a8,c8,rfl,i9.lO h 0 rfl hk,i9.lO h 1 rfl hk,i9.lO h 2 rfl hk,i9.lO h 3 rfl hk,i9.lO h 4 rfl hk,i9.lO h 5 rfl hk⟩
  kr:=by rintro _ _ _ _ ⟨a0,c0,a1,c1,a2,c2,a3,c3,a7,c7,a8,c8,rfl,_⟩;simp [Value.oneCell']
  jP _:=⟨none,0,none,0,none,0,none,0,none,0,none,0,rfl,⟨[],[],rfl,.inl ⟨rfl,rfl,rfl,rfl⟩,⟨[],[],rfl,.inl ⟨rfl,rfl,rfl,rfl⟩,⟨[],[],rfl,.inl ⟨rfl,rfl,rfl,rfl⟩,⟨[],[],rfl,.inl ⟨rfl,rfl,rfl,rfl⟩,⟨[],[],rfl,.inl ⟨rfl,rfl,rfl,rfl⟩,⟨[],[],rfl,.inl ⟨rfl,rfl,rfl,rfl⟩,rfl⟩⟩⟩⟩⟩⟩⟩
structure jw where
  now:Int
  parts:List gE
  deriving DecidableEq
instance:iw jw where
  ty:=77
  sz:=2
  zero:=⟨0,[]⟩
  zc:=[.int .i64 0,.slice none 0 0]
  pos:=by omega
  rd S w cs x:=∃ (a1:Option Addr) (c1:Nat),cs=[.int .i64 x.now,.slice a1 x.parts.length c1]∧iO S w a1 c1 x.parts
  own w cs F x:=∃ (a1:Option Addr) (c1:Nat),cs=[.int .i64 x.now,.slice a1 x.parts.length c1]∧i9 [sl a1 c1 x.parts] w F
  lh:=by rintro _ _ _ _ ⟨a1,c1,rfl,_⟩;rfl
  jo:=by rintro _ _ _ _ ⟨a1,c1,rfl,_⟩;rfl
  kE:=by rintro _ _ _ _ _ ⟨a1,c1,rfl,h1⟩ hk;exact ⟨a1,c1,rfl,h1.lJ hk⟩
  kF:=by rintro _ _ _ _ _ ⟨a1,c1,rfl,h1⟩ hk;exact ⟨a1,c1,rfl,h1.mono hk⟩
  j8:=by rintro _ _ _ _ _ ⟨a1,c1,rfl,h⟩ hk;exact ⟨a1,c1,rfl,h.frame hk⟩
  k9:=by rintro _ _ _ _ _ ⟨a1,c1,rfl,h⟩ hk;exact ⟨a1,c1,rfl,i9.lO h 0 rfl hk⟩
  kr:=by rintro _ _ _ _ ⟨a1,c1,rfl,_⟩;simp [Value.oneCell']
  jP _:=⟨none,0,rfl,⟨[],[],rfl,.inl ⟨rfl,rfl,rfl,rfl⟩,rfl⟩⟩
structure iI where
  part:gE
  me:Int
  now:Int
  iV:Int
  deriving DecidableEq
structure iq where
  b:List U8
  i:Int
  h:Int
  deriving DecidableEq
structure qS where
  label:jC
  own:List Int
  tree:Hd
  heap:iv
  ic:List jy
  next:Int
  want:Int
  dW:iB
  iz:Int
  lost:Int
instance:iw qS where
  ty:=37
  sz:=16
  zero:=⟨⟨[]⟩,[],⟨none,0,0⟩,⟨[],⟨0,0,0,[]⟩⟩,[],0,0,⟨0,0,0⟩,0,0⟩
  zc:=[.slice none 0 0,.slice none 0 0,.slice none 0 0,.slice none 0 0,.int .i64 0,.int .i64 0,.int .i64 0,.slice none 0 0,.slice none 0 0,.int .i64 0,.int .i64 0,.int .i64 0,.int .i64 0,.int .i64 0,.int .i64 0,.int .i64 0]
  pos:=by omega
  rd S w cs x:=∃ (a0:Option Addr) (c0:Nat) (a1:Option Addr) (c1:Nat) (a3:Option Addr) (c3:Nat) (a7:Option Addr) (c7:Nat) (a8:Option Addr) (c8:Nat),cs=[.slice a0 x.label.levels.length c0,.slice a1 x.own.length c1,.slice x.tree.a x.tree.n x.tree.c,.slice a3 x.heap.ag.length c3,.int .i64 x.heap.gc.phase,.int .i64 x.heap.gc.pos,.int .i64 x.heap.gc.round,.slice a7 x.heap.gc.ia.length c7,.slice a8 x.ic.length c8,.int .i64 x.next,.int .i64 x.want,.int .i64 x.dW.cd,.int .i64 x.dW.ij,.int .i64 x.dW.iD,.int .i64 x.iz,.int .i64 x.lost]∧iO S w a0 c0 x.label.levels∧iO S w a1 c1 x.own∧iO S w a3 c3 x.heap.ag∧iO S w a7 c7 x.heap.gc.ia∧iO S w a8 c8 x.ic
  own w cs F x:=∃ (a0:Option Addr) (c0:Nat) (a1:Option Addr) (c1:Nat) (a3:Option Addr) (c3:Nat) (a7:Option Addr) (c7:Nat) (a8:Option Addr) (c8:Nat),cs=[.slice a0 x.label.levels.length c0,.slice a1 x.own.length c1,.slice x.tree.a x.tree.n x.tree.c,.slice a3 x.heap.ag.length c3,.int .i64 x.heap.gc.phase,.int .i64 x.heap.gc.pos,.int .i64 x.heap.gc.round,.slice a7 x.heap.gc.ia.length c7,.slice a8 x.ic.length c8,.int .i64 x.next,.int .i64 x.want,.int .i64 x.dW.cd,.int .i64 x.dW.ij,.int .i64 x.dW.iD,.int .i64 x.iz,.int .i64 x.lost]∧i9 [sl a0 c0 x.label.levels,sl a1 c1 x.own,sl a3 c3 x.heap.ag,sl a7 c7 x.heap.gc.ia,sl a8 c8 x.ic] w F
  lh:=by rintro _ _ _ _ ⟨a0,c0,a1,c1,a3,c3,a7,c7,a8,c8,rfl,_⟩;rfl
  jo:=by rintro _ _ _ _ ⟨a0,c0,a1,c1,a3,c3,a7,c7,a8,c8,rfl,_⟩;rfl
  kE:=by rintro _ _ _ _ _ ⟨a0,c0,a1,c1,a3,c3,a7,c7,a8,c8,rfl,h0,h1,h3,h7,h8⟩ hk;exact ⟨a0,c0,a1,c1,a3,c3,a7,c7,a8,c8,rfl,h0.lJ hk,h1.lJ hk,h3.lJ hk,h7.lJ hk,h8.lJ hk⟩
  kF:=by rintro _ _ _ _ _ ⟨a0,c0,a1,c1,a3,c3,a7,c7,a8,c8,rfl,h0,h1,h3,h7,h8⟩ hk;exact ⟨a0,c0,a1,c1,a3,c3,a7,c7,a8,c8,rfl,h0.mono hk,h1.mono hk,h3.mono hk,h7.mono hk,h8.mono hk⟩
  j8:=by rintro _ _ _ _ _ ⟨a0,c0,a1,c1,a3,c3,a7,c7,a8,c8,rfl,h⟩ hk;exact ⟨a0,c0,a1,c1,a3,c3,a7,c7,a8,c8,rfl,h.frame hk⟩
  k9:=by rintro _ _ _ _ _ ⟨a0,c0,a1,c1,a3,c3,a7,c7,a8,c8,rfl,h⟩ hk;exact ⟨a0,c0,a1,c1,a3,c3,a7,c7,a8,c8,rfl,i9.lO h 0 rfl hk,i9.lO h 1 rfl hk,i9.lO h 2 rfl hk,i9.lO h 3 rfl hk,i9.lO h 4 rfl hk⟩
  kr:=by rintro _ _ _ _ ⟨a0,c0,a1,c1,a3,c3,a7,c7,a8,c8,rfl,_⟩;simp [Value.oneCell']
  jP _:=⟨none,0,none,0,none,0,none,0,none,0,rfl,⟨[],[],rfl,.inl ⟨rfl,rfl,rfl,rfl⟩,⟨[],[],rfl,.inl ⟨rfl,rfl,rfl,rfl⟩,⟨[],[],rfl,.inl ⟨rfl,rfl,rfl,rfl⟩,⟨[],[],rfl,.inl ⟨rfl,rfl,rfl,rfl⟩,⟨[],[],rfl,.inl ⟨rfl,rfl,rfl,rfl⟩,rfl⟩⟩⟩⟩⟩⟩
structure nP where
  gen:Int
  kind:Int
  box:Int
  res:Int
  iL:Int
  cd:Int
  wait:Int
  iK:Int
  iM:Int
  mark:Bool
  deriving DecidableEq
instance:iw nP where
  ty:=44
  sz:=13
  zero:=⟨0,0,0,0,0,0,0,0,0,false⟩
  zc:=[.int .i64 0,.int .i64 0,.int .i64 0,.int .i64 0,.int .i64 0,.int .i64 0,.int .i64 0,.int .i64 0,.int .i64 0,.bool false,.slice none 0 0,.slice none 0 0,.slice none 0 0]
  pos:=by omega
  rd _ _ cs x:=∃ (a0:Option Addr) (n0 c0:Nat) (a1:Option Addr) (n1 c1:Nat) (a2:Option Addr) (n2 c2:Nat),cs=[.int .i64 x.gen,.int .i64 x.kind,.int .i64 x.box,.int .i64 x.res,.int .i64 x.iL,.int .i64 x.cd,.int .i64 x.wait,.int .i64 x.iK,.int .i64 x.iM,.bool x.mark,.slice a0 n0 c0,.slice a1 n1 c1,.slice a2 n2 c2]
  own _ cs F x:=(∃ (a0:Option Addr) (n0 c0:Nat) (a1:Option Addr) (n1 c1:Nat) (a2:Option Addr) (n2 c2:Nat),cs=[.int .i64 x.gen,.int .i64 x.kind,.int .i64 x.box,.int .i64 x.res,.int .i64 x.iL,.int .i64 x.cd,.int .i64 x.wait,.int .i64 x.iK,.int .i64 x.iM,.bool x.mark,.slice a0 n0 c0,.slice a1 n1 c1,.slice a2 n2 c2])∧F=[]
  lh:=by rintro _ _ _ _ ⟨a0,n0,c0,a1,n1,c1,a2,n2,c2,rfl⟩;rfl
  jo:=by rintro _ _ _ _ ⟨⟨a0,n0,c0,a1,n1,c1,a2,n2,c2,rfl⟩,_⟩;rfl
  kE h _:=h
  kF h _:=h
  j8 h _:=h
  k9 h _:=h.1
  kr:=by rintro _ _ _ _ ⟨⟨a0,n0,c0,a1,n1,c1,a2,n2,c2,rfl⟩,_⟩;simp [Value.oneCell']
  jP _:=⟨⟨_,_,_,_,_,_,_,_,_,rfl⟩,rfl⟩
def yK (p:gE) (t:List iy):gE:=gE.mk p.label p.own t p.heap p.ic p.next p.want p.dW p.iz p.lost
def xw (l:List gE) (ts:List (List iy)):List gE:=List.zipWith yK l ts
def gd (b:Bool):Option Unit:=bif b then some () else none
class Fit (α:Type) where
  fit:α→Prop
instance:Fit Int:=⟨fun x=>-9223372036854775808≤x∧x≤9223372036854775807⟩
instance:Fit Bool:=⟨fun _=>True⟩
instance:Fit U8:=⟨fun x=>0≤x.v∧x.v≤255⟩
instance {α:Type} [Fit α]:Fit (List α):=⟨fun l=>l.length≤maxLen∧∀ y,y ∈ l→Fit.fit y⟩
instance:Fit iB:=⟨fun x=>Fit.fit x.cd∧Fit.fit x.ij∧Fit.fit x.iD⟩
instance:Fit iS:=⟨fun x=>Fit.fit x.kind∧Fit.fit x.a∧Fit.fit x.b∧Fit.fit x.c∧Fit.fit x.d∧Fit.fit x.e⟩
instance:Fit iR:=⟨fun x=>Fit.fit x.code∧Fit.fit x.val⟩
instance:Fit iy:=⟨fun x=>Fit.fit x.live∧Fit.fit x.parent∧Fit.fit x.iU⟩
instance:Fit jy:=⟨fun x=>Fit.fit x.res∧Fit.fit x.lq∧Fit.fit x.mD∧Fit.fit x.mz∧Fit.fit x.kind∧Fit.fit x.mS⟩
instance:Fit ji:=⟨fun x=>Fit.fit x.src∧Fit.fit x.n⟩
instance:Fit jC:=⟨fun x=>Fit.fit x.levels⟩
instance:Fit jY:=⟨fun x=>Fit.fit x.label∧Fit.fit x.own∧Fit.fit x.jT⟩
instance:Fit bh:=⟨fun x=>Fit.fit x.gen∧Fit.fit x.kind∧Fit.fit x.box∧Fit.fit x.res∧Fit.fit x.iL∧Fit.fit x.cd∧Fit.fit x.wait∧Fit.fit x.iK∧Fit.fit x.iM∧Fit.fit x.mark∧Fit.fit x.ig∧Fit.fit x.data∧Fit.fit x.queue⟩
instance:Fit jz:=⟨fun x=>Fit.fit x.phase∧Fit.fit x.pos∧Fit.fit x.round∧Fit.fit x.ia⟩
instance:Fit iv:=⟨fun x=>Fit.fit x.ag∧Fit.fit x.gc⟩
instance:Fit gE:=⟨fun x=>Fit.fit x.label∧Fit.fit x.own∧Fit.fit x.tree∧Fit.fit x.heap∧Fit.fit x.ic∧Fit.fit x.next∧Fit.fit x.want∧Fit.fit x.dW∧Fit.fit x.iz∧Fit.fit x.lost⟩
instance:Fit jw:=⟨fun x=>Fit.fit x.now∧Fit.fit x.parts⟩
instance:Fit iI:=⟨fun x=>Fit.fit x.part∧Fit.fit x.me∧Fit.fit x.now∧Fit.fit x.iV⟩
instance:Fit iq:=⟨fun x=>Fit.fit x.b∧Fit.fit x.i∧Fit.fit x.h⟩
end Go.Kx
