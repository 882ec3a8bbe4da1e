/- The data that the program works on, as plain structures; how they lie in cells. Printed by gendat.py. -/
import Derived.Test.YtikeaiogpfjdnaaGreatOwn
namespace Go.Kx
open Go Go.RowKit
set_option linter.unusedVariables false
set_option linter.unusedSimpArgs false
instance:iB Int where
  ty:=3
  sz:=1
  zero:=0
  zc:=[.int .i64 0]
  pos:=by omega
  rd _ _ cs x:=cs=[.int .i64 x]
  own _ cs F x:=cs=[.int .i64 x]∧F=[]
  lq:=by rintro _ _ _ _ rfl;rfl
  jj:=by rintro _ _ _ _ ⟨rfl,_⟩;rfl
  kH h _:=h
  kJ h _:=h
  jY h _:=h
  lr h _:=h.1
  kG:=by rintro _ _ _ _ ⟨rfl,_⟩;simp [Value.oneCell']
  jQ _:=⟨rfl,rfl⟩
instance:Flat Int:=⟨fun h=>⟨h,rfl⟩⟩
instance:iB Bool where
  ty:=4
  sz:=1
  zero:=false
  zc:=[.bool false]
  pos:=by omega
  rd _ _ cs x:=cs=[.bool x]
  own _ cs F x:=cs=[.bool x]∧F=[]
  lq:=by rintro _ _ _ _ rfl;rfl
  jj:=by rintro _ _ _ _ ⟨rfl,_⟩;rfl
  kH h _:=h
  kJ h _:=h
  jY h _:=h
  lr h _:=h.1
  kG:=by rintro _ _ _ _ ⟨rfl,_⟩;simp [Value.oneCell']
  jQ _:=⟨rfl,rfl⟩
instance:Flat Bool:=⟨fun h=>⟨h,rfl⟩⟩
abbrev Gd:=ByteArray
instance:iB Gd where
  ty:=9
  sz:=1
  zero:=⟨#[]⟩
  zc:=[.string ⟨#[]⟩]
  pos:=by omega
  rd _ _ cs x:=cs=[.string x]
  own _ cs F x:=cs=[.string x]∧F=[]
  lq:=by rintro _ _ _ _ rfl;rfl
  jj:=by rintro _ _ _ _ ⟨rfl,_⟩;rfl
  kH h _:=h
  kJ h _:=h
  jY h _:=h
  lr h _:=h.1
  kG:=by rintro _ _ _ _ ⟨rfl,_⟩;simp [Value.oneCell']
  jQ _:=⟨rfl,rfl⟩
instance:Flat Gd:=⟨fun h=>⟨h,rfl⟩⟩
structure U8 where
  v:Int
  deriving DecidableEq
instance:iB U8 where
  ty:=5
  sz:=1
  zero:=⟨0⟩
  zc:=[.int .u8 0]
  pos:=by omega
  rd _ _ cs x:=cs=[.int .u8 x.v]
  own _ cs F x:=cs=[.int .u8 x.v]∧F=[]
  lq:=by rintro _ _ _ _ rfl;rfl
  jj:=by rintro _ _ _ _ ⟨rfl,_⟩;rfl
  kH h _:=h
  kJ h _:=h
  jY h _:=h
  lr h _:=h.1
  kG:=by rintro _ _ _ _ ⟨rfl,_⟩;simp [Value.oneCell']
  jQ _:=⟨rfl,rfl⟩
instance:Flat U8:=⟨fun h=>⟨h,rfl⟩⟩
def va (a b:Int):Int:=IntKind.i64.wrap ((BitVec.ofInt IntKind.i64.bits a &&& BitVec.ofInt IntKind.i64.bits b).toNat:Int)
def Fo (a b:Int):Int:=IntKind.i64.wrap ((BitVec.ofInt IntKind.i64.bits a ^^^ BitVec.ofInt IntKind.i64.bits b).toNat:Int)
def BR (a b:Int):Int:=a.fdiv (2 ^ (min b.toNat IntKind.i64.bits))
structure Hd where
  a:Option Addr
  n:Nat
  c:Nat
structure iw where
  cd:Int
  im:Int
  iC:Int
  deriving DecidableEq
instance:iB iw where
  ty:=35
  sz:=3
  zero:=⟨0,0,0⟩
  zc:=[.int .i64 0,.int .i64 0,.int .i64 0]
  pos:=by omega
  rd _ _ cs x:=cs=[.int .i64 x.cd,.int .i64 x.im,.int .i64 x.iC]
  own _ cs F x:=cs=[.int .i64 x.cd,.int .i64 x.im,.int .i64 x.iC]∧F=[]
  lq:=by rintro _ _ _ _ rfl;rfl
  jj:=by rintro _ _ _ _ ⟨rfl,_⟩;rfl
  kH h _:=h
  kJ h _:=h
  jY h _:=h
  lr h _:=h.1
  kG:=by rintro _ _ _ _ ⟨rfl,_⟩;simp [Value.oneCell']
  jQ _:=⟨rfl,rfl⟩
instance:Flat iw:=⟨fun h=>⟨h,rfl⟩⟩
structure jh where
  kind:Int
  a:Int
  b:Int
  c:Int
  d:Int
  e:Int
  deriving DecidableEq
instance:iB jh where
  ty:=59
  sz:=6
  zero:=⟨0,0,0,0,0,0⟩
  zc:=[.int .i64 0,.int .i64 0,.int .i64 0,.int .i64 0,.int .i64 0,.int .i64 0]
  pos:=by omega
  rd _ _ cs x:=cs=[.int .i64 x.kind,.int .i64 x.a,.int .i64 x.b,.int .i64 x.c,.int .i64 x.d,.int .i64 x.e]
  own _ cs F x:=cs=[.int .i64 x.kind,.int .i64 x.a,.int .i64 x.b,.int .i64 x.c,.int .i64 x.d,.int .i64 x.e]∧F=[]
  lq:=by rintro _ _ _ _ rfl;rfl
  jj:=by rintro _ _ _ _ ⟨rfl,_⟩;rfl
  kH h _:=h
  kJ h _:=h
  jY h _:=h
  lr h _:=h.1
  kG:=by rintro _ _ _ _ ⟨rfl,_⟩;simp [Value.oneCell']
  jQ _:=⟨rfl,rfl⟩
instance:Flat jh:=⟨fun h=>⟨h,rfl⟩⟩
structure iS where
  code:Int
  val:Int
  deriving DecidableEq
instance:iB iS where
  ty:=87
  sz:=2
  zero:=⟨0,0⟩
  zc:=[.int .i64 0,.int .i64 0]
  pos:=by omega
  rd _ _ cs x:=cs=[.int .i64 x.code,.int .i64 x.val]
  own _ cs F x:=cs=[.int .i64 x.code,.int .i64 x.val]∧F=[]
  lq:=by rintro _ _ _ _ rfl;rfl
  jj:=by rintro _ _ _ _ ⟨rfl,_⟩;rfl
  kH h _:=h
  kJ h _:=h
  jY h _:=h
  lr h _:=h.1
  kG:=by rintro _ _ _ _ ⟨rfl,_⟩;simp [Value.oneCell']
  jQ _:=⟨rfl,rfl⟩
instance:Flat iS:=⟨fun h=>⟨h,rfl⟩⟩
structure iq where
  live:Bool
  parent:Int
  iL:iw
  deriving DecidableEq
instance:iB iq where
  ty:=46
  sz:=5
  zero:=⟨false,0,⟨0,0,0⟩⟩
  zc:=[.bool false,.int .i64 0,.int .i64 0,.int .i64 0,.int .i64 0]
  pos:=by omega
  rd _ _ cs x:=cs=[.bool x.live,.int .i64 x.parent,.int .i64 x.iL.cd,.int .i64 x.iL.im,.int .i64 x.iL.iC]
  own _ cs F x:=cs=[.bool x.live,.int .i64 x.parent,.int .i64 x.iL.cd,.int .i64 x.iL.im,.int .i64 x.iL.iC]∧F=[]
  lq:=by rintro _ _ _ _ rfl;rfl
  jj:=by rintro _ _ _ _ ⟨rfl,_⟩;rfl
  kH h _:=h
  kJ h _:=h
  jY h _:=h
  lr h _:=h.1
  kG:=by rintro _ _ _ _ ⟨rfl,_⟩;simp [Value.oneCell']
  jQ _:=⟨rfl,rfl⟩
instance:Flat iq:=⟨fun h=>⟨h,rfl⟩⟩
structure jE where
  res:Int
  k5:Int
  lR:Int
  lV:Int
  kind:Int
  mq:Int
  deriving DecidableEq
instance:iB jE where
  ty:=126
  sz:=6
  zero:=⟨0,0,0,0,0,0⟩
  zc:=[.int .i64 0,.int .i64 0,.int .i64 0,.int .i64 0,.int .i64 0,.int .i64 0]
  pos:=by omega
  rd _ _ cs x:=cs=[.int .i64 x.res,.int .i64 x.k5,.int .i64 x.lR,.int .i64 x.lV,.int .i64 x.kind,.int .i64 x.mq]
  own _ cs F x:=cs=[.int .i64 x.res,.int .i64 x.k5,.int .i64 x.lR,.int .i64 x.lV,.int .i64 x.kind,.int .i64 x.mq]∧F=[]
  lq:=by rintro _ _ _ _ rfl;rfl
  jj:=by rintro _ _ _ _ ⟨rfl,_⟩;rfl
  kH h _:=h
  kJ h _:=h
  jY h _:=h
  lr h _:=h.1
  kG:=by rintro _ _ _ _ ⟨rfl,_⟩;simp [Value.oneCell']
  jQ _:=⟨rfl,rfl⟩
instance:Flat jE:=⟨fun h=>⟨h,rfl⟩⟩
structure jq where
  src:Int
  n:Int
  deriving DecidableEq
instance:iB jq where
  ty:=189
  sz:=2
  zero:=⟨0,0⟩
  zc:=[.int .i64 0,.int .i64 0]
  pos:=by omega
  rd _ _ cs x:=cs=[.int .i64 x.src,.int .i64 x.n]
  own _ cs F x:=cs=[.int .i64 x.src,.int .i64 x.n]∧F=[]
  lq:=by rintro _ _ _ _ rfl;rfl
  jj:=by rintro _ _ _ _ ⟨rfl,_⟩;rfl
  kH h _:=h
  kJ h _:=h
  jY h _:=h
  lr h _:=h.1
  kG:=by rintro _ _ _ _ ⟨rfl,_⟩;simp [Value.oneCell']
  jQ _:=⟨rfl,rfl⟩
instance:Flat jq:=⟨fun h=>⟨h,rfl⟩⟩
structure jJ where
  levels:List Int
  deriving DecidableEq
instance:iB jJ where
  ty:=26
  sz:=1
  zero:=⟨[]⟩
  zc:=[.slice none 0 0]
  pos:=by omega
  rd S w cs x:=∃ (a0:Option Addr) (c0:Nat),cs=[.slice a0 x.levels.length c0]∧i5 S w a0 c0 x.levels
  own w cs F x:=∃ (a0:Option Addr) (c0:Nat),cs=[.slice a0 x.levels.length c0]∧iZ [sl a0 c0 x.levels] w F
  lq:=by rintro _ _ _ _ ⟨a0,c0,rfl,_⟩;rfl
  jj:=by rintro _ _ _ _ ⟨a0,c0,rfl,_⟩;rfl
  kH:=by rintro _ _ _ _ _ ⟨a0,c0,rfl,h0⟩ hk;exact ⟨a0,c0,rfl,h0.kW hk⟩
  kJ:=by rintro _ _ _ _ _ ⟨a0,c0,rfl,h0⟩ hk;exact ⟨a0,c0,rfl,h0.mono hk⟩
  jY:=by rintro _ _ _ _ _ ⟨a0,c0,rfl,h⟩ hk;exact ⟨a0,c0,rfl,h.frame hk⟩
  lr:=by rintro _ _ _ _ _ ⟨a0,c0,rfl,h⟩ hk;exact ⟨a0,c0,rfl,iZ.lL h 0 rfl hk⟩
  kG:=by rintro _ _ _ _ ⟨a0,c0,rfl,_⟩;simp [Value.oneCell']
  jQ _:=⟨none,0,rfl,⟨[],[],rfl,.inl ⟨rfl,rfl,rfl,rfl⟩,rfl⟩⟩
structure pN where
  label:jJ
  own:List Int
  nm:iw
  deriving DecidableEq
instance:iB pN where
  ty:=131
  sz:=5
  zero:=⟨⟨[]⟩,[],⟨0,0,0⟩⟩
  zc:=[.slice none 0 0,.slice none 0 0,.int .i64 0,.int .i64 0,.int .i64 0]
  pos:=by omega
  rd S w cs x:=∃ (a0:Option Addr) (c0:Nat) (a1:Option Addr) (c1:Nat),cs=[.slice a0 x.label.levels.length c0,.slice a1 x.own.length c1,.int .i64 x.nm.cd,.int .i64 x.nm.im,.int .i64 x.nm.iC]∧i5 S w a0 c0 x.label.levels∧i5 S w a1 c1 x.own
  own w cs F x:=∃ (a0:Option Addr) (c0:Nat) (a1:Option Addr) (c1:Nat),cs=[.slice a0 x.label.levels.length c0,.slice a1 x.own.length c1,.int .i64 x.nm.cd,.int .i64 x.nm.im,.int .i64 x.nm.iC]∧iZ [sl a0 c0 x.label.levels,sl a1 c1 x.own] w F
  lq:=by rintro _ _ _ _ ⟨a0,c0,a1,c1,rfl,_⟩;rfl
  jj:=by rintro _ _ _ _ ⟨a0,c0,a1,c1,rfl,_⟩;rfl
  kH:=by rintro _ _ _ _ _ ⟨a0,c0,a1,c1,rfl,h0,h1⟩ hk;exact ⟨a0,c0,a1,c1,rfl,h0.kW hk,h1.kW hk⟩
  kJ:=by rintro _ _ _ _ _ ⟨a0,c0,a1,c1,rfl,h0,h1⟩ hk;exact ⟨a0,c0,a1,c1,rfl,h0.mono hk,h1.mono hk⟩
  jY:=by rintro _ _ _ _ _ ⟨a0,c0,a1,c1,rfl,h⟩ hk;exact ⟨a0,c0,a1,c1,rfl,h.frame hk⟩
  lr:=by rintro _ _ _ _ _ ⟨a0,c0,a1,c1,rfl,h⟩ hk;exact ⟨a0,c0,a1,c1,rfl,iZ.lL h 0 rfl hk,iZ.lL h 1 rfl hk⟩
  kG:=by rintro _ _ _ _ ⟨a0,c0,a1,c1,rfl,_⟩;simp [Value.oneCell']
  jQ _:=⟨none,0,none,0,rfl,⟨[],[],rfl,.inl ⟨rfl,rfl,rfl,rfl⟩,⟨[],[],rfl,.inl ⟨rfl,rfl,rfl,rfl⟩,rfl⟩⟩⟩
structure bh where
  gen:Int
  kind:Int
  box:Int
  res:Int
  iN:Int
  cd:Int
  wait:Int
  iO:Int
  iP:Int
  mark:Bool
  ib:List Int
  data:List Int
  queue:List jq
  deriving DecidableEq
instance:iB bh where
  ty:=44
  sz:=13
  zero:=⟨0,0,0,0,0,0,0,0,0,false,[],[],[]⟩
  zc:=[.int .i64 0,.int .i64 0,.int .i64 0,.int .i64 0,.int .i64 0,.int .i64 0,.int .i64 0,.int .i64 0,.int .i64 0,.bool false,.slice none 0 0,.slice none 0 0,.slice none 0 0]
  pos:=by omega
  rd S w cs x:=∃ (a10:Option Addr) (c10:Nat) (a11:Option Addr) (c11:Nat) (a12:Option Addr) (c12:Nat),cs=[.int .i64 x.gen,.int .i64 x.kind,.int .i64 x.box,.int .i64 x.res,.int .i64 x.iN,.int .i64 x.cd,.int .i64 x.wait,.int .i64 x.iO,.int .i64 x.iP,.bool x.mark,.slice a10 x.ib.length c10,.slice a11 x.data.length c11,.slice a12 x.queue.length c12]∧i5 S w a10 c10 x.ib∧i5 S w a11 c11 x.data∧i5 S w a12 c12 x.queue
  own w cs F x:=∃ (a10:Option Addr) (c10:Nat) (a11:Option Addr) (c11:Nat) (a12:Option Addr) (c12:Nat),cs=[.int .i64 x.gen,.int .i64 x.kind,.int .i64 x.box,.int .i64 x.res,.int .i64 x.iN,.int .i64 x.cd,.int .i64 x.wait,.int .i64 x.iO,.int .i64 x.iP,.bool x.mark,.slice a10 x.ib.length c10,.slice a11 x.data.length c11,.slice a12 x.queue.length c12]∧iZ [sl a10 c10 x.ib,sl a11 c11 x.data,sl a12 c12 x.queue] w F
  lq:=by rintro _ _ _ _ ⟨a10,c10,a11,c11,a12,c12,rfl,_⟩;rfl
  jj:=by rintro _ _ _ _ ⟨a10,c10,a11,c11,a12,c12,rfl,_⟩;rfl
  kH:=by rintro _ _ _ _ _ ⟨a10,c10,a11,c11,a12,c12,rfl,h10,h11,h12⟩ hk;exact ⟨a10,c10,a11,c11,a12,c12,rfl,h10.kW hk,h11.kW hk,h12.kW hk⟩
  kJ:=by rintro _ _ _ _ _ ⟨a10,c10,a11,c11,a12,c12,rfl,h10,h11,h12⟩ hk;exact ⟨a10,c10,a11,c11,a12,c12,rfl,h10.mono hk,h11.mono hk,h12.mono hk⟩
  jY:=by rintro _ _ _ _ _ ⟨a10,c10,a11,c11,a12,c12,rfl,h⟩ hk;exact ⟨a10,c10,a11,c11,a12,c12,rfl,h.frame hk⟩
  lr:=by rintro _ _ _ _ _ ⟨a10,c10,a11,c11,a12,c12,rfl,h⟩ hk;exact ⟨a10,c10,a11,c11,a12,c12,rfl,iZ.lL h 0 rfl hk,iZ.lL h 1 rfl hk,iZ.lL h 2 rfl hk⟩
  kG:=by rintro _ _ _ _ ⟨a10,c10,a11,c11,a12,c12,rfl,_⟩;simp [Value.oneCell']
  jQ _:=⟨none,0,none,0,none,0,rfl,⟨[],[],rfl,.inl ⟨rfl,rfl,rfl,rfl⟩,⟨[],[],rfl,.inl ⟨rfl,rfl,rfl,rfl⟩,⟨[],[],rfl,.inl ⟨rfl,rfl,rfl,rfl⟩,rfl⟩⟩⟩⟩
structure jH where
  phase:Int
  pos:Int
  round:Int
  gE:List Int
  deriving DecidableEq
instance:iB jH where
  ty:=30
  sz:=4
  zero:=⟨0,0,0,[]⟩
  zc:=[.int .i64 0,.int .i64 0,.int .i64 0,.slice none 0 0]
  pos:=by omega
  rd S w cs x:=∃ (a3:Option Addr) (c3:Nat),cs=[.int .i64 x.phase,.int .i64 x.pos,.int .i64 x.round,.slice a3 x.gE.length c3]∧i5 S w a3 c3 x.gE
  own w cs F x:=∃ (a3:Option Addr) (c3:Nat),cs=[.int .i64 x.phase,.int .i64 x.pos,.int .i64 x.round,.slice a3 x.gE.length c3]∧iZ [sl a3 c3 x.gE] w F
  lq:=by rintro _ _ _ _ ⟨a3,c3,rfl,_⟩;rfl
  jj:=by rintro _ _ _ _ ⟨a3,c3,rfl,_⟩;rfl
  kH:=by rintro _ _ _ _ _ ⟨a3,c3,rfl,h3⟩ hk;exact ⟨a3,c3,rfl,h3.kW hk⟩
  kJ:=by rintro _ _ _ _ _ ⟨a3,c3,rfl,h3⟩ hk;exact ⟨a3,c3,rfl,h3.mono hk⟩
  jY:=by rintro _ _ _ _ _ ⟨a3,c3,rfl,h⟩ hk;exact ⟨a3,c3,rfl,h.frame hk⟩
  lr:=by rintro _ _ _ _ _ ⟨a3,c3,rfl,h⟩ hk;exact ⟨a3,c3,rfl,iZ.lL h 0 rfl hk⟩
  kG:=by rintro _ _ _ _ ⟨a3,c3,rfl,_⟩;simp [Value.oneCell']
  jQ _:=⟨none,0,rfl,⟨[],[],rfl,.inl ⟨rfl,rfl,rfl,rfl⟩,rfl⟩⟩
structure ic where
  ag:List bh
  gc:jH
  deriving DecidableEq
instance:iB ic where
  ty:=32
  sz:=5
  zero:=⟨[],⟨0,0,0,[]⟩⟩
  zc:=[.slice none 0 0,.int .i64 0,.int .i64 0,.int .i64 0,.slice none 0 0]
  pos:=by omega
  rd S w cs x:=∃ (a0:Option Addr) (c0:Nat) (a4:Option Addr) (c4:Nat),cs=[.slice a0 x.ag.length c0,.int .i64 x.gc.phase,.int .i64 x.gc.pos,.int .i64 x.gc.round,.slice a4 x.gc.gE.length c4]∧i5 S w a0 c0 x.ag∧i5 S w a4 c4 x.gc.gE
  own w cs F x:=∃ (a0:Option Addr) (c0:Nat) (a4:Option Addr) (c4:Nat),cs=[.slice a0 x.ag.length c0,.int .i64 x.gc.phase,.int .i64 x.gc.pos,.int .i64 x.gc.round,.slice a4 x.gc.gE.length c4]∧iZ [sl a0 c0 x.ag,sl a4 c4 x.gc.gE] w F
  lq:=by rintro _ _ _ _ ⟨a0,c0,a4,c4,rfl,_⟩;rfl
  jj:=by rintro _ _ _ _ ⟨a0,c0,a4,c4,rfl,_⟩;rfl
  kH:=by rintro _ _ _ _ _ ⟨a0,c0,a4,c4,rfl,h0,h4⟩ hk;exact ⟨a0,c0,a4,c4,rfl,h0.kW hk,h4.kW hk⟩
  kJ:=by rintro _ _ _ _ _ ⟨a0,c0,a4,c4,rfl,h0,h4⟩ hk;exact ⟨a0,c0,a4,c4,rfl,h0.mono hk,h4.mono hk⟩
  jY:=by rintro _ _ _ _ _ ⟨a0,c0,a4,c4,rfl,h⟩ hk;exact ⟨a0,c0,a4,c4,rfl,h.frame hk⟩
  lr:=by rintro _ _ _ _ _ ⟨a0,c0,a4,c4,rfl,h⟩ hk;exact ⟨a0,c0,a4,c4,rfl,iZ.lL h 0 rfl hk,iZ.lL h 1 rfl hk⟩
  kG:=by rintro _ _ _ _ ⟨a0,c0,a4,c4,rfl,_⟩;simp [Value.oneCell']
  jQ _:=⟨none,0,none,0,rfl,⟨[],[],rfl,.inl ⟨rfl,rfl,rfl,rfl⟩,⟨[],[],rfl,.inl ⟨rfl,rfl,rfl,rfl⟩,rfl⟩⟩⟩
structure ia where
  label:jJ
  own:List Int
  tree:List iq
  heap:ic
  iz:List jE
  next:Int
  want:Int
  hZ:iw
  iH:Int
  lost:Int
  deriving DecidableEq
instance:iB ia where
  ty:=37
  sz:=16
  zero:=⟨⟨[]⟩,[],[],⟨[],⟨0,0,0,[]⟩⟩,[],0,0,⟨0,0,0⟩,0,0⟩
  zc:=[.slice none 0 0,.slice none 0 0,.slice none 0 0,.slice none 0 0,.int .i64 0,.int .i64 0,.int .i64 0,.slice none 0 0,.slice none 0 0,.int .i64 0,.int .i64 0,.int .i64 0,.int .i64 0,.int .i64 0,.int .i64 0,.int .i64 0]
  pos:=by omega
  rd S w cs x:=∃ (a0:Option Addr) (c0:Nat) (a1:Option Addr) (c1:Nat) (a2:Option Addr) (c2:Nat) (a3:Option Addr) (c3:Nat) (a7:Option Addr) (c7:Nat) (a8:Option Addr) (c8:Nat),cs=[.slice a0 x.label.levels.length c0,.slice a1 x.own.length c1,.slice a2 x.tree.length c2,.slice a3 x.heap.ag.length c3,.int .i64 x.heap.gc.phase,.int .i64 x.heap.gc.pos,.int .i64 x.heap.gc.round,.slice a7 x.heap.gc.gE.length c7,.slice a8 x.iz.length c8,.int .i64 x.next,.int .i64 x.want,.int .i64 x.hZ.cd,.int .i64 x.hZ.im,.int .i64 x.hZ.iC,.int .i64 x.iH,.int .i64 x.lost]∧i5 S w a0 c0 x.label.levels∧i5 S w a1 c1 x.own∧i5 S w a2 c2 x.tree∧i5 S w a3 c3 x.heap.ag∧i5 S w a7 c7 x.heap.gc.gE∧i5 S w a8 c8 x.iz
  own w cs F x:=∃ (a0:Option Addr) (c0:Nat) (a1:Option Addr) (c1:Nat) (a2:Option Addr) (c2:Nat) (a3:Option Addr) (c3:Nat) (a7:Option Addr) (c7:Nat) (a8:Option Addr) (c8:Nat),cs=[.slice a0 x.label.levels.length c0,.slice a1 x.own.length c1,.slice a2 x.tree.length c2,.slice a3 x.heap.ag.length c3,.int .i64 x.heap.gc.phase,.int .i64 x.heap.gc.pos,.int .i64 x.heap.gc.round,.slice a7 x.heap.gc.gE.length c7,.slice a8 x.iz.length c8,.int .i64 x.next,.int .i64 x.want,.int .i64 x.hZ.cd,.int .i64 x.hZ.im,.int .i64 x.hZ.iC,.int .i64 x.iH,.int .i64 x.lost]∧iZ [sl a0 c0 x.label.levels,sl a1 c1 x.own,sl a2 c2 x.tree,sl a3 c3 x.heap.ag,sl a7 c7 x.heap.gc.gE,sl a8 c8 x.iz] w F
  lq:=by rintro _ _ _ _ ⟨a0,c0,a1,c1,a2,c2,a3,c3,a7,c7,a8,c8,rfl,_⟩;rfl
  jj:=by rintro _ _ _ _ ⟨a0,c0,a1,c1,a2,c2,a3,c3,a7,c7,a8,c8,rfl,_⟩;rfl
  kH:=by rintro _ _ _ _ _ ⟨a0,c0,a1,c1,a2,c2,a3,c3,a7,c7,a8,c8,rfl,h0,h1,h2,h3,h7,h8⟩ hk;exact ⟨a0,c0,a1,c1,a2,c2,a3,c3,a7,c7,a8,c8,rfl,h0.kW hk,h1.kW hk,h2.kW hk,h3.kW hk,h7.kW hk,h8.kW hk⟩
  kJ:=by rintro _ _ _ _ _ ⟨a0,c0,a1,c1,a2,c2,a3,c3,a7,c7,a8,c8,rfl,h0,h1,h2,h3,h7,h8⟩ hk;exact ⟨a0,c0,a1,c1,a2,c2,a3,c3,a7,c7,a8,c8,rfl,h0.mono hk,h1.mono hk,h2.mono hk,h3.mono hk,h7.mono hk,h8.mono hk⟩
  jY:=by rintro _ _ _ _ _ ⟨a0,c0,a1,c1,a2,c2,a3,c3,a7,c7,a8,c8,rfl,h⟩ hk;exact ⟨a0,c0,a1,c1,a2,c2,a3,c3,a7,c7,a8,c8,rfl,h.frame hk⟩
  lr:=by rintro _ _ _ _ _ ⟨a0,c0,a1,c1,a2,c2,a3,c3,a7,c7,a8,c8,rfl,h⟩ hk;exact ⟨a0,c0,a1,c1,a2,c2,a3,c3,a7,c7,a8,c8,rfl,iZ.lL h 0 rfl hk,iZ.lL h 1 rfl hk,iZ.lL h 2 rfl hk,iZ.lL h 3 rfl hk,iZ.lL h 4 rfl hk,iZ.lL h 5 rfl hk⟩
  kG:=by rintro _ _ _ _ ⟨a0,c0,a1,c1,a2,c2,a3,c3,a7,c7,a8,c8,rfl,_⟩;simp [Value.oneCell']
  jQ _:=⟨none,0,none,0,none,0,none,0,none,0,none,0,rfl,⟨[],[],rfl,.inl ⟨rfl,rfl,rfl,rfl⟩,⟨[],[],rfl,.inl ⟨rfl,rfl,rfl,rfl⟩,⟨[],[],rfl,.inl ⟨rfl,rfl,rfl,rfl⟩,⟨[],[],rfl,.inl ⟨rfl,rfl,rfl,rfl⟩,⟨[],[],rfl,.inl ⟨rfl,rfl,rfl,rfl⟩,⟨[],[],rfl,.inl ⟨rfl,rfl,rfl,rfl⟩,rfl⟩⟩⟩⟩⟩⟩⟩
structure ik where
  b:List U8
  i:Int
  h:Int
  deriving DecidableEq
structure oY where
  label:jJ
  own:List Int
  tree:Hd
  heap:ic
  iz:List jE
  next:Int
  want:Int
  hZ:iw
  iH:Int
  lost:Int
instance:iB oY where
  ty:=37
  sz:=16
  zero:=⟨⟨[]⟩,[],⟨none,0,0⟩,⟨[],⟨0,0,0,[]⟩⟩,[],0,0,⟨0,0,0⟩,0,0⟩
  zc:=[.slice none 0 0,.slice none 0 0,.slice none 0 0,.slice none 0 0,.int .i64 0,.int .i64 0,.int .i64 0,.slice none 0 0,.slice none 0 0,.int .i64 0,.int .i64 0,.int .i64 0,.int .i64 0,.int .i64 0,.int .i64 0,.int .i64 0]
  pos:=by omega
  rd S w cs x:=∃ (a0:Option Addr) (c0:Nat) (a1:Option Addr) (c1:Nat) (a3:Option Addr) (c3:Nat) (a7:Option Addr) (c7:Nat) (a8:Option Addr) (c8:Nat),cs=[.slice a0 x.label.levels.length c0,.slice a1 x.own.length c1,.slice x.tree.a x.tree.n x.tree.c,.slice a3 x.heap.ag.length c3,.int .i64 x.heap.gc.phase,.int .i64 x.heap.gc.pos,.int .i64 x.heap.gc.round,.slice a7 x.heap.gc.gE.length c7,.slice a8 x.iz.length c8,.int .i64 x.next,.int .i64 x.want,.int .i64 x.hZ.cd,.int .i64 x.hZ.im,.int .i64 x.hZ.iC,.int .i64 x.iH,.int .i64 x.lost]∧i5 S w a0 c0 x.label.levels∧i5 S w a1 c1 x.own∧i5 S w a3 c3 x.heap.ag∧i5 S w a7 c7 x.heap.gc.gE∧i5 S w a8 c8 x.iz
  own w cs F x:=∃ (a0:Option Addr) (c0:Nat) (a1:Option Addr) (c1:Nat) (a3:Option Addr) (c3:Nat) (a7:Option Addr) (c7:Nat) (a8:Option Addr) (c8:Nat),cs=[.slice a0 x.label.levels.length c0,.slice a1 x.own.length c1,.slice x.tree.a x.tree.n x.tree.c,.slice a3 x.heap.ag.length c3,.int .i64 x.heap.gc.phase,.int .i64 x.heap.gc.pos,.int .i64 x.heap.gc.round,.slice a7 x.heap.gc.gE.length c7,.slice a8 x.iz.length c8,.int .i64 x.next,.int .i64 x.want,.int .i64 x.hZ.cd,.int .i64 x.hZ.im,.int .i64 x.hZ.iC,.int .i64 x.iH,.int .i64 x.lost]∧iZ [sl a0 c0 x.label.levels,sl a1 c1 x.own,sl a3 c3 x.heap.ag,sl a7 c7 x.heap.gc.gE,sl a8 c8 x.iz] w F
  lq:=by rintro _ _ _ _ ⟨a0,c0,a1,c1,a3,c3,a7,c7,a8,c8,rfl,_⟩;rfl
  jj:=by rintro _ _ _ _ ⟨a0,c0,a1,c1,a3,c3,a7,c7,a8,c8,rfl,_⟩;rfl
  kH:=by rintro _ _ _ _ _ ⟨a0,c0,a1,c1,a3,c3,a7,c7,a8,c8,rfl,h0,h1,h3,h7,h8⟩ hk;exact ⟨a0,c0,a1,c1,a3,c3,a7,c7,a8,c8,rfl,h0.kW hk,h1.kW hk,h3.kW hk,h7.kW hk,h8.kW hk⟩
  kJ:=by rintro _ _ _ _ _ ⟨a0,c0,a1,c1,a3,c3,a7,c7,a8,c8,rfl,h0,h1,h3,h7,h8⟩ hk;exact ⟨a0,c0,a1,c1,a3,c3,a7,c7,a8,c8,rfl,h0.mono hk,h1.mono hk,h3.mono hk,h7.mono hk,h8.mono hk⟩
  jY:=by rintro _ _ _ _ _ ⟨a0,c0,a1,c1,a3,c3,a7,c7,a8,c8,rfl,h⟩ hk;exact ⟨a0,c0,a1,c1,a3,c3,a7,c7,a8,c8,rfl,h.frame hk⟩
  lr:=by rintro _ _ _ _ _ ⟨a0,c0,a1,c1,a3,c3,a7,c7,a8,c8,rfl,h⟩ hk;exact ⟨a0,c0,a1,c1,a3,c3,a7,c7,a8,c8,rfl,iZ.lL h 0 rfl hk,iZ.lL h 1 rfl hk,iZ.lL h 2 rfl hk,iZ.lL h 3 rfl hk,iZ.lL h 4 rfl hk⟩
  kG:=by rintro _ _ _ _ ⟨a0,c0,a1,c1,a3,c3,a7,c7,a8,c8,rfl,_⟩;simp [Value.oneCell']
  jQ _:=⟨none,0,none,0,none,0,none,0,none,0,rfl,⟨[],[],rfl,.inl ⟨rfl,rfl,rfl,rfl⟩,⟨[],[],rfl,.inl ⟨rfl,rfl,rfl,rfl⟩,⟨[],[],rfl,.inl ⟨rfl,rfl,rfl,rfl⟩,⟨[],[],rfl,.inl ⟨rfl,rfl,rfl,rfl⟩,⟨[],[],rfl,.inl ⟨rfl,rfl,rfl,rfl⟩,rfl⟩⟩⟩⟩⟩⟩
def xn (p:ia) (t:List iq):ia:=ia.mk p.label p.own t p.heap p.iz p.next p.want p.hZ p.iH p.lost
def wg (l:List ia) (ts:List (List iq)):List ia:=List.zipWith xn l ts
def gd (b:Bool):Option Unit:=bif b then some () else none
class Fit (α:Type) where
  fit:α→Prop
instance:Fit Int:=⟨fun x=>-9223372036854775808≤x∧x≤9223372036854775807⟩
instance:Fit Bool:=⟨fun _=>True⟩
instance:Fit U8:=⟨fun x=>0≤x.v∧x.v≤255⟩
instance {α:Type} [Fit α]:Fit (List α):=⟨fun l=>l.length≤maxLen∧∀ y,y ∈ l→Fit.fit y⟩
instance:Fit iw:=⟨fun x=>Fit.fit x.cd∧Fit.fit x.im∧Fit.fit x.iC⟩
instance:Fit jh:=⟨fun x=>Fit.fit x.kind∧Fit.fit x.a∧Fit.fit x.b∧Fit.fit x.c∧Fit.fit x.d∧Fit.fit x.e⟩
instance:Fit iS:=⟨fun x=>Fit.fit x.code∧Fit.fit x.val⟩
instance:Fit iq:=⟨fun x=>Fit.fit x.live∧Fit.fit x.parent∧Fit.fit x.iL⟩
instance:Fit jE:=⟨fun x=>Fit.fit x.res∧Fit.fit x.k5∧Fit.fit x.lR∧Fit.fit x.lV∧Fit.fit x.kind∧Fit.fit x.mq⟩
instance:Fit jq:=⟨fun x=>Fit.fit x.src∧Fit.fit x.n⟩
instance:Fit jJ:=⟨fun x=>Fit.fit x.levels⟩
instance:Fit pN:=⟨fun x=>Fit.fit x.label∧Fit.fit x.own∧Fit.fit x.nm⟩
instance:Fit bh:=⟨fun x=>Fit.fit x.gen∧Fit.fit x.kind∧Fit.fit x.box∧Fit.fit x.res∧Fit.fit x.iN∧Fit.fit x.cd∧Fit.fit x.wait∧Fit.fit x.iO∧Fit.fit x.iP∧Fit.fit x.mark∧Fit.fit x.ib∧Fit.fit x.data∧Fit.fit x.queue⟩
instance:Fit jH:=⟨fun x=>Fit.fit x.phase∧Fit.fit x.pos∧Fit.fit x.round∧Fit.fit x.gE⟩
instance:Fit ic:=⟨fun x=>Fit.fit x.ag∧Fit.fit x.gc⟩
instance:Fit ia:=⟨fun x=>Fit.fit x.label∧Fit.fit x.own∧Fit.fit x.tree∧Fit.fit x.heap∧Fit.fit x.iz∧Fit.fit x.next∧Fit.fit x.want∧Fit.fit x.hZ∧Fit.fit x.iH∧Fit.fit x.lost⟩
instance:Fit ik:=⟨fun x=>Fit.fit x.b∧Fit.fit x.i∧Fit.fit x.h⟩
end Go.Kx
