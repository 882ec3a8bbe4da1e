/- The data that the program works on, as plain structures; how they lie in cells. Printed by gendat.py. -/
import Derived.Test.YtdlodpchnaojhaaGreatOwn
namespace Go.Kx
open Go Go.RowKit
set_option linter.unusedVariables false
set_option linter.unusedSimpArgs false
instance:iB Int where
  ty:=3
  sz:=1
  zero:=0
  zc:=[.int .i64 0]
  pos:=by omega
  rd _ _ cs x:=cs=[.int .i64 x]
  own _ cs F x:=cs=[.int .i64 x]∧F=[]
  lI:=by rintro _ _ _ _ rfl;rfl
  jA:=by rintro _ _ _ _ ⟨rfl,_⟩;rfl
  kS h _:=h
  kU h _:=h
  ka h _:=h
  lF h _:=h.1
  kH:=by rintro _ _ _ _ ⟨rfl,_⟩;simp [Value.oneCell']
  jR _:=⟨rfl,rfl⟩
instance:Flat Int:=⟨fun h=>⟨h,rfl⟩⟩
instance:iB Bool where
  ty:=4
  sz:=1
  zero:=false
  zc:=[.bool false]
  pos:=by omega
  rd _ _ cs x:=cs=[.bool x]
  own _ cs F x:=cs=[.bool x]∧F=[]
  lI:=by rintro _ _ _ _ rfl;rfl
  jA:=by rintro _ _ _ _ ⟨rfl,_⟩;rfl
  kS h _:=h
  kU h _:=h
  ka h _:=h
  lF h _:=h.1
  kH:=by rintro _ _ _ _ ⟨rfl,_⟩;simp [Value.oneCell']
  jR _:=⟨rfl,rfl⟩
instance:Flat Bool:=⟨fun h=>⟨h,rfl⟩⟩
abbrev Li:=ByteArray
instance:iB Li where
  ty:=9
  sz:=1
  zero:=⟨#[]⟩
  zc:=[.string ⟨#[]⟩]
  pos:=by omega
  rd _ _ cs x:=cs=[.string x]
  own _ cs F x:=cs=[.string x]∧F=[]
  lI:=by rintro _ _ _ _ rfl;rfl
  jA:=by rintro _ _ _ _ ⟨rfl,_⟩;rfl
  kS h _:=h
  kU h _:=h
  ka h _:=h
  lF h _:=h.1
  kH:=by rintro _ _ _ _ ⟨rfl,_⟩;simp [Value.oneCell']
  jR _:=⟨rfl,rfl⟩
instance:Flat Li:=⟨fun h=>⟨h,rfl⟩⟩
structure U8 where
  v:Int
  deriving DecidableEq
instance:iB U8 where
  ty:=5
  sz:=1
  zero:=⟨0⟩
  zc:=[.int .u8 0]
  pos:=by omega
  rd _ _ cs x:=cs=[.int .u8 x.v]
  own _ cs F x:=cs=[.int .u8 x.v]∧F=[]
  lI:=by rintro _ _ _ _ rfl;rfl
  jA:=by rintro _ _ _ _ ⟨rfl,_⟩;rfl
  kS h _:=h
  kU h _:=h
  ka h _:=h
  lF h _:=h.1
  kH:=by rintro _ _ _ _ ⟨rfl,_⟩;simp [Value.oneCell']
  jR _:=⟨rfl,rfl⟩
instance:Flat U8:=⟨fun h=>⟨h,rfl⟩⟩
def w9 (a b:Int):Int:=IntKind.i64.wrap ((BitVec.ofInt IntKind.i64.bits a &&& BitVec.ofInt IntKind.i64.bits b).toNat:Int)
def JT (a b:Int):Int:=IntKind.i64.wrap ((BitVec.ofInt IntKind.i64.bits a ^^^ BitVec.ofInt IntKind.i64.bits b).toNat:Int)
def Fs (a b:Int):Int:=a.fdiv (2 ^ (min b.toNat IntKind.i64.bits))
structure Hd where
  a:Option Addr
  n:Nat
  c:Nat
structure ig where
  bh:Int
  ib:Int
  ik:Int
  deriving DecidableEq
instance:iB ig where
  ty:=43
  sz:=3
  zero:=⟨0,0,0⟩
  zc:=[.int .i64 0,.int .i64 0,.int .i64 0]
  pos:=by omega
  rd _ _ cs x:=cs=[.int .i64 x.bh,.int .i64 x.ib,.int .i64 x.ik]
  own _ cs F x:=cs=[.int .i64 x.bh,.int .i64 x.ib,.int .i64 x.ik]∧F=[]
  lI:=by rintro _ _ _ _ rfl;rfl
  jA:=by rintro _ _ _ _ ⟨rfl,_⟩;rfl
  kS h _:=h
  kU h _:=h
  ka h _:=h
  lF h _:=h.1
  kH:=by rintro _ _ _ _ ⟨rfl,_⟩;simp [Value.oneCell']
  jR _:=⟨rfl,rfl⟩
instance:Flat ig:=⟨fun h=>⟨h,rfl⟩⟩
structure jF where
  kind:Int
  a:Int
  b:Int
  c:Int
  d:Int
  e:Int
  deriving DecidableEq
instance:iB jF where
  ty:=49
  sz:=6
  zero:=⟨0,0,0,0,0,0⟩
  zc:=[.int .i64 0,.int .i64 0,.int .i64 0,.int .i64 0,.int .i64 0,.int .i64 0]
  pos:=by omega
  rd _ _ cs x:=cs=[.int .i64 x.kind,.int .i64 x.a,.int .i64 x.b,.int .i64 x.c,.int .i64 x.d,.int .i64 x.e]
  own _ cs F x:=cs=[.int .i64 x.kind,.int .i64 x.a,.int .i64 x.b,.int .i64 x.c,.int .i64 x.d,.int .i64 x.e]∧F=[]
  lI:=by rintro _ _ _ _ rfl;rfl
  jA:=by rintro _ _ _ _ ⟨rfl,_⟩;rfl
  kS h _:=h
  kU h _:=h
  ka h _:=h
  lF h _:=h.1
  kH:=by rintro _ _ _ _ ⟨rfl,_⟩;simp [Value.oneCell']
  jR _:=⟨rfl,rfl⟩
instance:Flat jF:=⟨fun h=>⟨h,rfl⟩⟩
structure ja where
  code:Int
  val:Int
  deriving DecidableEq
instance:iB ja where
  ty:=53
  sz:=2
  zero:=⟨0,0⟩
  zc:=[.int .i64 0,.int .i64 0]
  pos:=by omega
  rd _ _ cs x:=cs=[.int .i64 x.code,.int .i64 x.val]
  own _ cs F x:=cs=[.int .i64 x.code,.int .i64 x.val]∧F=[]
  lI:=by rintro _ _ _ _ rfl;rfl
  jA:=by rintro _ _ _ _ ⟨rfl,_⟩;rfl
  kS h _:=h
  kU h _:=h
  ka h _:=h
  lF h _:=h.1
  kH:=by rintro _ _ _ _ ⟨rfl,_⟩;simp [Value.oneCell']
  jR _:=⟨rfl,rfl⟩
instance:Flat ja:=⟨fun h=>⟨h,rfl⟩⟩
structure ir where
  live:Bool
  parent:Int
  iL:ig
  deriving DecidableEq
instance:iB ir where
  ty:=176
  sz:=5
  zero:=⟨false,0,⟨0,0,0⟩⟩
  zc:=[.bool false,.int .i64 0,.int .i64 0,.int .i64 0,.int .i64 0]
  pos:=by omega
  rd _ _ cs x:=cs=[.bool x.live,.int .i64 x.parent,.int .i64 x.iL.bh,.int .i64 x.iL.ib,.int .i64 x.iL.ik]
  own _ cs F x:=cs=[.bool x.live,.int .i64 x.parent,.int .i64 x.iL.bh,.int .i64 x.iL.ib,.int .i64 x.iL.ik]∧F=[]
  lI:=by rintro _ _ _ _ rfl;rfl
  jA:=by rintro _ _ _ _ ⟨rfl,_⟩;rfl
  kS h _:=h
  kU h _:=h
  ka h _:=h
  lF h _:=h.1
  kH:=by rintro _ _ _ _ ⟨rfl,_⟩;simp [Value.oneCell']
  jR _:=⟨rfl,rfl⟩
instance:Flat ir:=⟨fun h=>⟨h,rfl⟩⟩
structure jw where
  res:Int
  jJ:Int
  mf:Int
  kp:Int
  kind:Int
  lk:Int
  deriving DecidableEq
instance:iB jw where
  ty:=155
  sz:=6
  zero:=⟨0,0,0,0,0,0⟩
  zc:=[.int .i64 0,.int .i64 0,.int .i64 0,.int .i64 0,.int .i64 0,.int .i64 0]
  pos:=by omega
  rd _ _ cs x:=cs=[.int .i64 x.res,.int .i64 x.jJ,.int .i64 x.mf,.int .i64 x.kp,.int .i64 x.kind,.int .i64 x.lk]
  own _ cs F x:=cs=[.int .i64 x.res,.int .i64 x.jJ,.int .i64 x.mf,.int .i64 x.kp,.int .i64 x.kind,.int .i64 x.lk]∧F=[]
  lI:=by rintro _ _ _ _ rfl;rfl
  jA:=by rintro _ _ _ _ ⟨rfl,_⟩;rfl
  kS h _:=h
  kU h _:=h
  ka h _:=h
  lF h _:=h.1
  kH:=by rintro _ _ _ _ ⟨rfl,_⟩;simp [Value.oneCell']
  jR _:=⟨rfl,rfl⟩
instance:Flat jw:=⟨fun h=>⟨h,rfl⟩⟩
structure jI where
  src:Int
  n:Int
  deriving DecidableEq
instance:iB jI where
  ty:=193
  sz:=2
  zero:=⟨0,0⟩
  zc:=[.int .i64 0,.int .i64 0]
  pos:=by omega
  rd _ _ cs x:=cs=[.int .i64 x.src,.int .i64 x.n]
  own _ cs F x:=cs=[.int .i64 x.src,.int .i64 x.n]∧F=[]
  lI:=by rintro _ _ _ _ rfl;rfl
  jA:=by rintro _ _ _ _ ⟨rfl,_⟩;rfl
  kS h _:=h
  kU h _:=h
  ka h _:=h
  lF h _:=h.1
  kH:=by rintro _ _ _ _ ⟨rfl,_⟩;simp [Value.oneCell']
  jR _:=⟨rfl,rfl⟩
instance:Flat jI:=⟨fun h=>⟨h,rfl⟩⟩
structure j7 where
  levels:List Int
  deriving DecidableEq
instance:iB j7 where
  ty:=34
  sz:=1
  zero:=⟨[]⟩
  zc:=[.slice none 0 0]
  pos:=by omega
  rd S w cs x:=∃ (a0:Option Addr) (c0:Nat),cs=[.slice a0 x.levels.length c0]∧jf S w a0 c0 x.levels
  own w cs F x:=∃ (a0:Option Addr) (c0:Nat),cs=[.slice a0 x.levels.length c0]∧jb [sl a0 c0 x.levels] w F
  lI:=by rintro _ _ _ _ ⟨a0,c0,rfl,_⟩;rfl
  jA:=by rintro _ _ _ _ ⟨a0,c0,rfl,_⟩;rfl
  kS:=by rintro _ _ _ _ _ ⟨a0,c0,rfl,h0⟩ hk;exact ⟨a0,c0,rfl,h0.ly hk⟩
  kU:=by rintro _ _ _ _ _ ⟨a0,c0,rfl,h0⟩ hk;exact ⟨a0,c0,rfl,h0.mono hk⟩
  ka:=by rintro _ _ _ _ _ ⟨a0,c0,rfl,h⟩ hk;exact ⟨a0,c0,rfl,h.frame hk⟩
  lF:=by rintro _ _ _ _ _ ⟨a0,c0,rfl,h⟩ hk;exact ⟨a0,c0,rfl,jb.mz h 0 rfl hk⟩
  kH:=by rintro _ _ _ _ ⟨a0,c0,rfl,_⟩;simp [Value.oneCell']
  jR _:=⟨none,0,rfl,⟨[],[],rfl,.inl ⟨rfl,rfl,rfl,rfl⟩,rfl⟩⟩
structure km where
  label:j7
  own:List Int
  j9:ig
  deriving DecidableEq
instance:iB km where
  ty:=134
  sz:=5
  zero:=⟨⟨[]⟩,[],⟨0,0,0⟩⟩
  zc:=[.slice none 0 0,.slice none 0 0,.int .i64 0,.int .i64 0,.int .i64 0]
  pos:=by omega
  rd S w cs x:=∃ (a0:Option Addr) (c0:Nat) (a1:Option Addr) (c1:Nat),cs=[.slice a0 x.label.levels.length c0,.slice a1 x.own.length c1,.int .i64 x.j9.bh,.int .i64 x.j9.ib,.int .i64 x.j9.ik]∧jf S w a0 c0 x.label.levels∧jf S w a1 c1 x.own
  own w cs F x:=∃ (a0:Option Addr) (c0:Nat) (a1:Option Addr) (c1:Nat),cs=[.slice a0 x.label.levels.length c0,.slice a1 x.own.length c1,.int .i64 x.j9.bh,.int .i64 x.j9.ib,.int .i64 x.j9.ik]∧jb [sl a0 c0 x.label.levels,sl a1 c1 x.own] w F
  lI:=by rintro _ _ _ _ ⟨a0,c0,a1,c1,rfl,_⟩;rfl
  jA:=by rintro _ _ _ _ ⟨a0,c0,a1,c1,rfl,_⟩;rfl
  kS:=by rintro _ _ _ _ _ ⟨a0,c0,a1,c1,rfl,h0,h1⟩ hk;exact ⟨a0,c0,a1,c1,rfl,h0.ly hk,h1.ly hk⟩
  kU:=by rintro _ _ _ _ _ ⟨a0,c0,a1,c1,rfl,h0,h1⟩ hk;exact ⟨a0,c0,a1,c1,rfl,h0.mono hk,h1.mono hk⟩
  ka:=by rintro _ _ _ _ _ ⟨a0,c0,a1,c1,rfl,h⟩ hk;exact ⟨a0,c0,a1,c1,rfl,h.frame hk⟩
  lF:=by rintro _ _ _ _ _ ⟨a0,c0,a1,c1,rfl,h⟩ hk;exact ⟨a0,c0,a1,c1,rfl,jb.mz h 0 rfl hk,jb.mz h 1 rfl hk⟩
  kH:=by rintro _ _ _ _ ⟨a0,c0,a1,c1,rfl,_⟩;simp [Value.oneCell']
  jR _:=⟨none,0,none,0,rfl,⟨[],[],rfl,.inl ⟨rfl,rfl,rfl,rfl⟩,⟨[],[],rfl,.inl ⟨rfl,rfl,rfl,rfl⟩,rfl⟩⟩⟩
structure iZ where
  list:List ir
  deriving DecidableEq
instance:iB iZ where
  ty:=153
  sz:=1
  zero:=⟨[]⟩
  zc:=[.slice none 0 0]
  pos:=by omega
  rd S w cs x:=∃ (a0:Option Addr) (c0:Nat),cs=[.slice a0 x.list.length c0]∧jf S w a0 c0 x.list
  own w cs F x:=∃ (a0:Option Addr) (c0:Nat),cs=[.slice a0 x.list.length c0]∧jb [sl a0 c0 x.list] w F
  lI:=by rintro _ _ _ _ ⟨a0,c0,rfl,_⟩;rfl
  jA:=by rintro _ _ _ _ ⟨a0,c0,rfl,_⟩;rfl
  kS:=by rintro _ _ _ _ _ ⟨a0,c0,rfl,h0⟩ hk;exact ⟨a0,c0,rfl,h0.ly hk⟩
  kU:=by rintro _ _ _ _ _ ⟨a0,c0,rfl,h0⟩ hk;exact ⟨a0,c0,rfl,h0.mono hk⟩
  ka:=by rintro _ _ _ _ _ ⟨a0,c0,rfl,h⟩ hk;exact ⟨a0,c0,rfl,h.frame hk⟩
  lF:=by rintro _ _ _ _ _ ⟨a0,c0,rfl,h⟩ hk;exact ⟨a0,c0,rfl,jb.mz h 0 rfl hk⟩
  kH:=by rintro _ _ _ _ ⟨a0,c0,rfl,_⟩;simp [Value.oneCell']
  jR _:=⟨none,0,rfl,⟨[],[],rfl,.inl ⟨rfl,rfl,rfl,rfl⟩,rfl⟩⟩
structure cd where
  gen:Int
  kind:Int
  box:Int
  res:Int
  iU:Int
  bh:Int
  wait:Int
  iW:Int
  iR:Int
  mark:Bool
  il:List Int
  data:List Int
  queue:List jI
  deriving DecidableEq
instance:iB cd where
  ty:=160
  sz:=13
  zero:=⟨0,0,0,0,0,0,0,0,0,false,[],[],[]⟩
  zc:=[.int .i64 0,.int .i64 0,.int .i64 0,.int .i64 0,.int .i64 0,.int .i64 0,.int .i64 0,.int .i64 0,.int .i64 0,.bool false,.slice none 0 0,.slice none 0 0,.slice none 0 0]
  pos:=by omega
  rd S w cs x:=∃ (a10:Option Addr) (c10:Nat) (a11:Option Addr) (c11:Nat) (a12:Option Addr) (c12:Nat),cs=[.int .i64 x.gen,.int .i64 x.kind,.int .i64 x.box,.int .i64 x.res,.int .i64 x.iU,.int .i64 x.bh,.int .i64 x.wait,.int .i64 x.iW,.int .i64 x.iR,.bool x.mark,.slice a10 x.il.length c10,.slice a11 x.data.length c11,.slice a12 x.queue.length c12]∧jf S w a10 c10 x.il∧jf S w a11 c11 x.data∧jf S w a12 c12 x.queue
  own w cs F x:=∃ (a10:Option Addr) (c10:Nat) (a11:Option Addr) (c11:Nat) (a12:Option Addr) (c12:Nat),cs=[.int .i64 x.gen,.int .i64 x.kind,.int .i64 x.box,.int .i64 x.res,.int .i64 x.iU,.int .i64 x.bh,.int .i64 x.wait,.int .i64 x.iW,.int .i64 x.iR,.bool x.mark,.slice a10 x.il.length c10,.slice a11 x.data.length c11,.slice a12 x.queue.length c12]∧jb [sl a10 c10 x.il,sl a11 c11 x.data,sl a12 c12 x.queue] w F
  lI:=by rintro _ _ _ _ ⟨a10,c10,a11,c11,a12,c12,rfl,_⟩;rfl
  jA:=by rintro _ _ _ _ ⟨a10,c10,a11,c11,a12,c12,rfl,_⟩;rfl
  kS:=by rintro _ _ _ _ _ ⟨a10,c10,a11,c11,a12,c12,rfl,h10,h11,h12⟩ hk;exact ⟨a10,c10,a11,c11,a12,c12,rfl,h10.ly hk,h11.ly hk,h12.ly hk⟩
  kU:=by rintro _ _ _ _ _ ⟨a10,c10,a11,c11,a12,c12,rfl,h10,h11,h12⟩ hk;exact ⟨a10,c10,a11,c11,a12,c12,rfl,h10.mono hk,h11.mono hk,h12.mono hk⟩
  ka:=by rintro _ _ _ _ _ ⟨a10,c10,a11,c11,a12,c12,rfl,h⟩ hk;exact ⟨a10,c10,a11,c11,a12,c12,rfl,h.frame hk⟩
  lF:=by rintro _ _ _ _ _ ⟨a10,c10,a11,c11,a12,c12,rfl,h⟩ hk;exact ⟨a10,c10,a11,c11,a12,c12,rfl,jb.mz h 0 rfl hk,jb.mz h 1 rfl hk,jb.mz h 2 rfl hk⟩
  kH:=by rintro _ _ _ _ ⟨a10,c10,a11,c11,a12,c12,rfl,_⟩;simp [Value.oneCell']
  jR _:=⟨none,0,none,0,none,0,rfl,⟨[],[],rfl,.inl ⟨rfl,rfl,rfl,rfl⟩,⟨[],[],rfl,.inl ⟨rfl,rfl,rfl,rfl⟩,⟨[],[],rfl,.inl ⟨rfl,rfl,rfl,rfl⟩,rfl⟩⟩⟩⟩
structure ks where
  phase:Int
  pos:Int
  round:Int
  ia:List Int
  deriving DecidableEq
instance:iB ks where
  ty:=38
  sz:=4
  zero:=⟨0,0,0,[]⟩
  zc:=[.int .i64 0,.int .i64 0,.int .i64 0,.slice none 0 0]
  pos:=by omega
  rd S w cs x:=∃ (a3:Option Addr) (c3:Nat),cs=[.int .i64 x.phase,.int .i64 x.pos,.int .i64 x.round,.slice a3 x.ia.length c3]∧jf S w a3 c3 x.ia
  own w cs F x:=∃ (a3:Option Addr) (c3:Nat),cs=[.int .i64 x.phase,.int .i64 x.pos,.int .i64 x.round,.slice a3 x.ia.length c3]∧jb [sl a3 c3 x.ia] w F
  lI:=by rintro _ _ _ _ ⟨a3,c3,rfl,_⟩;rfl
  jA:=by rintro _ _ _ _ ⟨a3,c3,rfl,_⟩;rfl
  kS:=by rintro _ _ _ _ _ ⟨a3,c3,rfl,h3⟩ hk;exact ⟨a3,c3,rfl,h3.ly hk⟩
  kU:=by rintro _ _ _ _ _ ⟨a3,c3,rfl,h3⟩ hk;exact ⟨a3,c3,rfl,h3.mono hk⟩
  ka:=by rintro _ _ _ _ _ ⟨a3,c3,rfl,h⟩ hk;exact ⟨a3,c3,rfl,h.frame hk⟩
  lF:=by rintro _ _ _ _ _ ⟨a3,c3,rfl,h⟩ hk;exact ⟨a3,c3,rfl,jb.mz h 0 rfl hk⟩
  kH:=by rintro _ _ _ _ ⟨a3,c3,rfl,_⟩;simp [Value.oneCell']
  jR _:=⟨none,0,rfl,⟨[],[],rfl,.inl ⟨rfl,rfl,rfl,rfl⟩,rfl⟩⟩
structure iA where
  ag:List cd
  gc:ks
  deriving DecidableEq
instance:iB iA where
  ty:=40
  sz:=5
  zero:=⟨[],⟨0,0,0,[]⟩⟩
  zc:=[.slice none 0 0,.int .i64 0,.int .i64 0,.int .i64 0,.slice none 0 0]
  pos:=by omega
  rd S w cs x:=∃ (a0:Option Addr) (c0:Nat) (a4:Option Addr) (c4:Nat),cs=[.slice a0 x.ag.length c0,.int .i64 x.gc.phase,.int .i64 x.gc.pos,.int .i64 x.gc.round,.slice a4 x.gc.ia.length c4]∧jf S w a0 c0 x.ag∧jf S w a4 c4 x.gc.ia
  own w cs F x:=∃ (a0:Option Addr) (c0:Nat) (a4:Option Addr) (c4:Nat),cs=[.slice a0 x.ag.length c0,.int .i64 x.gc.phase,.int .i64 x.gc.pos,.int .i64 x.gc.round,.slice a4 x.gc.ia.length c4]∧jb [sl a0 c0 x.ag,sl a4 c4 x.gc.ia] w F
  lI:=by rintro _ _ _ _ ⟨a0,c0,a4,c4,rfl,_⟩;rfl
  jA:=by rintro _ _ _ _ ⟨a0,c0,a4,c4,rfl,_⟩;rfl
  kS:=by rintro _ _ _ _ _ ⟨a0,c0,a4,c4,rfl,h0,h4⟩ hk;exact ⟨a0,c0,a4,c4,rfl,h0.ly hk,h4.ly hk⟩
  kU:=by rintro _ _ _ _ _ ⟨a0,c0,a4,c4,rfl,h0,h4⟩ hk;exact ⟨a0,c0,a4,c4,rfl,h0.mono hk,h4.mono hk⟩
  ka:=by rintro _ _ _ _ _ ⟨a0,c0,a4,c4,rfl,h⟩ hk;exact ⟨a0,c0,a4,c4,rfl,h.frame hk⟩
  lF:=by rintro _ _ _ _ _ ⟨a0,c0,a4,c4,rfl,h⟩ hk;exact ⟨a0,c0,a4,c4,rfl,jb.mz h 0 rfl hk,jb.mz h 1 rfl hk⟩
  kH:=by rintro _ _ _ _ ⟨a0,c0,a4,c4,rfl,_⟩;simp [Value.oneCell']
  jR _:=⟨none,0,none,0,rfl,⟨[],[],rfl,.inl ⟨rfl,rfl,rfl,rfl⟩,⟨[],[],rfl,.inl ⟨rfl,rfl,rfl,rfl⟩,rfl⟩⟩⟩
structure dW where
  label:j7
  own:List Int
  tree:List ir
  heap:iA
  ij:List jw
  next:Int
  want:Int
  gE:ig
  iH:Int
  lost:Int
  deriving DecidableEq
instance:iB dW where
  ty:=45
  sz:=16
  zero:=⟨⟨[]⟩,[],[],⟨[],⟨0,0,0,[]⟩⟩,[],0,0,⟨0,0,0⟩,0,0⟩
  zc:=[.slice none 0 0,.slice none 0 0,.slice none 0 0,.slice none 0 0,.int .i64 0,.int .i64 0,.int .i64 0,.slice none 0 0,.slice none 0 0,.int .i64 0,.int .i64 0,.int .i64 0,.int .i64 0,.int .i64 0,.int .i64 0,.int .i64 0]
  pos:=by omega
  rd S w cs x:=∃ (a0:Option Addr) (c0:Nat) (a1:Option Addr) (c1:Nat) (a2:Option Addr) (c2:Nat) (a3:Option Addr) (c3:Nat) (a7:Option Addr) (c7:Nat) (a8:Option Addr) (c8:Nat),cs=[.slice a0 x.label.levels.length c0,.slice a1 x.own.length c1,.slice a2 x.tree.length c2,.slice a3 x.heap.ag.length c3,.int .i64 x.heap.gc.phase,.int .i64 x.heap.gc.pos,.int .i64 x.heap.gc.round,.slice a7 x.heap.gc.ia.length c7,.slice a8 x.ij.length c8,.int .i64 x.next,.int .i64 x.want,.int .i64 x.gE.bh,.int .i64 x.gE.ib,.int .i64 x.gE.ik,.int .i64 x.iH,.int .i64 x.lost]∧jf S w a0 c0 x.label.levels∧jf S w a1 c1 x.own∧jf S w a2 c2 x.tree∧jf S w a3 c3 x.heap.ag∧jf S w a7 c7 x.heap.gc.ia∧jf S w a8 c8 x.ij
  own w cs F x:=∃ (a0:Option Addr) (c0:Nat) (a1:Option Addr) (c1:Nat) (a2:Option Addr) (c2:Nat) (a3:Option Addr) (c3:Nat) (a7:Option Addr) (c7:Nat) (a8:Option Addr) (c8:Nat),cs=[.slice a0 x.label.levels.length c0,.slice a1 x.own.length c1,.slice a2 x.tree.length c2,.slice a3 x.heap.ag.length c3,.int .i64 x.heap.gc.phase,.int .i64 x.heap.gc.pos,.int .i64 x.heap.gc.round,.slice a7 x.heap.gc.ia.length c7,.slice a8 x.ij.length c8,.int .i64 x.next,.int .i64 x.want,.int .i64 x.gE.bh,.int .i64 x.gE.ib,.int .i64 x.gE.ik,.int .i64 x.iH,.int .i64 x.lost]∧jb [sl a0 c0 x.label.levels,sl a1 c1 x.own,sl a2 c2 x.tree,sl a3 c3 x.heap.ag,sl a7 c7 x.heap.gc.ia,sl a8 c8 x.ij] w F
  lI:=by rintro _ _ _ _ ⟨a0,c0,a1,c1,a2,c2,a3,c3,a7,c7,a8,c8,rfl,_⟩;rfl
  jA:=by rintro _ _ _ _ ⟨a0,c0,a1,c1,a2,c2,a3,c3,a7,c7,a8,c8,rfl,_⟩;rfl
  kS:=by rintro _ _ _ _ _ ⟨a0,c0,a1,c1,a2,c2,a3,c3,a7,c7,a8,c8,rfl,h0,h1,h2,h3,h7,h8⟩ hk;exact ⟨a0,c0,a1,c1,a2,c2,a3,c3,a7,c7,a8,c8,rfl,h0.ly hk,h1.ly hk,h2.ly hk,h3.ly hk,h7.ly hk,h8.ly hk⟩
  kU:=by rintro _ _ _ _ _ ⟨a0,c0,a1,c1,a2,c2,a3,c3,a7,c7,a8,c8,rfl,h0,h1,h2,h3,h7,h8⟩ hk;exact ⟨a0,c0,a1,c1,a2,c2,a3,c3,a7,c7,a8,c8,rfl,h0.mono hk,h1.mono hk,h2.mono hk,h3.mono hk,h7.mono hk,h8.mono hk⟩
  ka:=by rintro _ _ _ _ _ ⟨a0,c0,a1,c1,a2,c2,a3,c3,a7,c7,a8,c8,rfl,h⟩ hk;exact ⟨a0,c0,a1,c1,a2,c2,a3,c3,a7,c7,a8,c8,rfl,h.frame hk⟩
  lF:=by rintro _ _ _ _ _ ⟨a0,c0,a1,c1,a2,c2,a3,c3,a7,c7,a8,c8,rfl,h⟩ hk;exact ⟨a0,c0,a1,c1,a2,c2,a3,c3,a7,c7,a8,c8,rfl,jb.mz h 0 rfl hk,jb.mz h 1 rfl hk,jb.mz h 2 rfl hk,jb.mz h 3 rfl hk,jb.mz h 4 rfl hk,jb.mz h 5 rfl hk⟩
  kH:=by rintro _ _ _ _ ⟨a0,c0,a1,c1,a2,c2,a3,c3,a7,c7,a8,c8,rfl,_⟩;simp [Value.oneCell']
  jR _:=⟨none,0,none,0,none,0,none,0,none,0,none,0,rfl,⟨[],[],rfl,.inl ⟨rfl,rfl,rfl,rfl⟩,⟨[],[],rfl,.inl ⟨rfl,rfl,rfl,rfl⟩,⟨[],[],rfl,.inl ⟨rfl,rfl,rfl,rfl⟩,⟨[],[],rfl,.inl ⟨rfl,rfl,rfl,rfl⟩,⟨[],[],rfl,.inl ⟨rfl,rfl,rfl,rfl⟩,⟨[],[],rfl,.inl ⟨rfl,rfl,rfl,rfl⟩,rfl⟩⟩⟩⟩⟩⟩⟩
structure iN where
  now:Int
  parts:List dW
  deriving DecidableEq
instance:iB iN where
  ty:=26
  sz:=2
  zero:=⟨0,[]⟩
  zc:=[.int .i64 0,.slice none 0 0]
  pos:=by omega
  rd S w cs x:=∃ (a1:Option Addr) (c1:Nat),cs=[.int .i64 x.now,.slice a1 x.parts.length c1]∧jf S w a1 c1 x.parts
  own w cs F x:=∃ (a1:Option Addr) (c1:Nat),cs=[.int .i64 x.now,.slice a1 x.parts.length c1]∧jb [sl a1 c1 x.parts] w F
  lI:=by rintro _ _ _ _ ⟨a1,c1,rfl,_⟩;rfl
  jA:=by rintro _ _ _ _ ⟨a1,c1,rfl,_⟩;rfl
  kS:=by rintro _ _ _ _ _ ⟨a1,c1,rfl,h1⟩ hk;exact ⟨a1,c1,rfl,h1.ly hk⟩
  kU:=by rintro _ _ _ _ _ ⟨a1,c1,rfl,h1⟩ hk;exact ⟨a1,c1,rfl,h1.mono hk⟩
  ka:=by rintro _ _ _ _ _ ⟨a1,c1,rfl,h⟩ hk;exact ⟨a1,c1,rfl,h.frame hk⟩
  lF:=by rintro _ _ _ _ _ ⟨a1,c1,rfl,h⟩ hk;exact ⟨a1,c1,rfl,jb.mz h 0 rfl hk⟩
  kH:=by rintro _ _ _ _ ⟨a1,c1,rfl,_⟩;simp [Value.oneCell']
  jR _:=⟨none,0,rfl,⟨[],[],rfl,.inl ⟨rfl,rfl,rfl,rfl⟩,rfl⟩⟩
structure iu where
  b:List U8
  i:Int
  h:Int
  deriving DecidableEq
structure kJ where
  label:j7
  own:List Int
  tree:Hd
  heap:iA
  ij:List jw
  next:Int
  want:Int
  gE:ig
  iH:Int
  lost:Int
instance:iB kJ where
  ty:=45
  sz:=16
  zero:=⟨⟨[]⟩,[],⟨none,0,0⟩,⟨[],⟨0,0,0,[]⟩⟩,[],0,0,⟨0,0,0⟩,0,0⟩
  zc:=[.slice none 0 0,.slice none 0 0,.slice none 0 0,.slice none 0 0,.int .i64 0,.int .i64 0,.int .i64 0,.slice none 0 0,.slice none 0 0,.int .i64 0,.int .i64 0,.int .i64 0,.int .i64 0,.int .i64 0,.int .i64 0,.int .i64 0]
  pos:=by omega
  rd S w cs x:=∃ (a0:Option Addr) (c0:Nat) (a1:Option Addr) (c1:Nat) (a3:Option Addr) (c3:Nat) (a7:Option Addr) (c7:Nat) (a8:Option Addr) (c8:Nat),cs=[.slice a0 x.label.levels.length c0,.slice a1 x.own.length c1,.slice x.tree.a x.tree.n x.tree.c,.slice a3 x.heap.ag.length c3,.int .i64 x.heap.gc.phase,.int .i64 x.heap.gc.pos,.int .i64 x.heap.gc.round,.slice a7 x.heap.gc.ia.length c7,.slice a8 x.ij.length c8,.int .i64 x.next,.int .i64 x.want,.int .i64 x.gE.bh,.int .i64 x.gE.ib,.int .i64 x.gE.ik,.int .i64 x.iH,.int .i64 x.lost]∧jf S w a0 c0 x.label.levels∧jf S w a1 c1 x.own∧jf S w a3 c3 x.heap.ag∧jf S w a7 c7 x.heap.gc.ia∧jf S w a8 c8 x.ij
  own w cs F x:=∃ (a0:Option Addr) (c0:Nat) (a1:Option Addr) (c1:Nat) (a3:Option Addr) (c3:Nat) (a7:Option Addr) (c7:Nat) (a8:Option Addr) (c8:Nat),cs=[.slice a0 x.label.levels.length c0,.slice a1 x.own.length c1,.slice x.tree.a x.tree.n x.tree.c,.slice a3 x.heap.ag.length c3,.int .i64 x.heap.gc.phase,.int .i64 x.heap.gc.pos,.int .i64 x.heap.gc.round,.slice a7 x.heap.gc.ia.length c7,.slice a8 x.ij.length c8,.int .i64 x.next,.int .i64 x.want,.int .i64 x.gE.bh,.int .i64 x.gE.ib,.int .i64 x.gE.ik,.int .i64 x.iH,.int .i64 x.lost]∧jb [sl a0 c0 x.label.levels,sl a1 c1 x.own,sl a3 c3 x.heap.ag,sl a7 c7 x.heap.gc.ia,sl a8 c8 x.ij] w F
  lI:=by rintro _ _ _ _ ⟨a0,c0,a1,c1,a3,c3,a7,c7,a8,c8,rfl,_⟩;rfl
  jA:=by rintro _ _ _ _ ⟨a0,c0,a1,c1,a3,c3,a7,c7,a8,c8,rfl,_⟩;rfl
  kS:=by rintro _ _ _ _ _ ⟨a0,c0,a1,c1,a3,c3,a7,c7,a8,c8,rfl,h0,h1,h3,h7,h8⟩ hk;exact ⟨a0,c0,a1,c1,a3,c3,a7,c7,a8,c8,rfl,h0.ly hk,h1.ly hk,h3.ly hk,h7.ly hk,h8.ly hk⟩
  kU:=by rintro _ _ _ _ _ ⟨a0,c0,a1,c1,a3,c3,a7,c7,a8,c8,rfl,h0,h1,h3,h7,h8⟩ hk;exact ⟨a0,c0,a1,c1,a3,c3,a7,c7,a8,c8,rfl,h0.mono hk,h1.mono hk,h3.mono hk,h7.mono hk,h8.mono hk⟩
  ka:=by rintro _ _ _ _ _ ⟨a0,c0,a1,c1,a3,c3,a7,c7,a8,c8,rfl,h⟩ hk;exact ⟨a0,c0,a1,c1,a3,c3,a7,c7,a8,c8,rfl,h.frame hk⟩
  lF:=by rintro _ _ _ _ _ ⟨a0,c0,a1,c1,a3,c3,a7,c7,a8,c8,rfl,h⟩ hk;exact ⟨a0,c0,a1,c1,a3,c3,a7,c7,a8,c8,rfl,jb.mz h 0 rfl hk,jb.mz h 1 rfl hk,jb.mz h 2 rfl hk,jb.mz h 3 rfl hk,jb.mz h 4 rfl hk⟩
  kH:=by rintro _ _ _ _ ⟨a0,c0,a1,c1,a3,c3,a7,c7,a8,c8,rfl,_⟩;simp [Value.oneCell']
  jR _:=⟨none,0,none,0,none,0,none,0,none,0,rfl,⟨[],[],rfl,.inl ⟨rfl,rfl,rfl,rfl⟩,⟨[],[],rfl,.inl ⟨rfl,rfl,rfl,rfl⟩,⟨[],[],rfl,.inl ⟨rfl,rfl,rfl,rfl⟩,⟨[],[],rfl,.inl ⟨rfl,rfl,rfl,rfl⟩,⟨[],[],rfl,.inl ⟨rfl,rfl,rfl,rfl⟩,rfl⟩⟩⟩⟩⟩⟩
structure kl where
  list:Hd
instance:iB kl where
  ty:=153
  sz:=1
  zero:=⟨⟨none,0,0⟩⟩
  zc:=[.slice none 0 0]
  pos:=by omega
  rd _ _ cs x:=cs=[.slice x.list.a x.list.n x.list.c]
  own _ cs F x:=cs=[.slice x.list.a x.list.n x.list.c]∧F=[]
  lI:=by rintro _ _ _ _ rfl;rfl
  jA:=by rintro _ _ _ _ ⟨rfl,_⟩;rfl
  kS h _:=h
  kU h _:=h
  ka h _:=h
  lF h _:=h.1
  kH:=by rintro _ _ _ _ ⟨rfl,_⟩;simp [Value.oneCell']
  jR _:=⟨rfl,rfl⟩
instance:Flat kl:=⟨fun h=>⟨h,rfl⟩⟩
structure oq where
  gen:Int
  kind:Int
  box:Int
  res:Int
  iU:Int
  bh:Int
  wait:Int
  iW:Int
  iR:Int
  mark:Bool
  deriving DecidableEq
instance:iB oq where
  ty:=160
  sz:=13
  zero:=⟨0,0,0,0,0,0,0,0,0,false⟩
  zc:=[.int .i64 0,.int .i64 0,.int .i64 0,.int .i64 0,.int .i64 0,.int .i64 0,.int .i64 0,.int .i64 0,.int .i64 0,.bool false,.slice none 0 0,.slice none 0 0,.slice none 0 0]
  pos:=by omega
  rd _ _ cs x:=∃ (a0:Option Addr) (n0 c0:Nat) (a1:Option Addr) (n1 c1:Nat) (a2:Option Addr) (n2 c2:Nat),cs=[.int .i64 x.gen,.int .i64 x.kind,.int .i64 x.box,.int .i64 x.res,.int .i64 x.iU,.int .i64 x.bh,.int .i64 x.wait,.int .i64 x.iW,.int .i64 x.iR,.bool x.mark,.slice a0 n0 c0,.slice a1 n1 c1,.slice a2 n2 c2]
  own _ cs F x:=(∃ (a0:Option Addr) (n0 c0:Nat) (a1:Option Addr) (n1 c1:Nat) (a2:Option Addr) (n2 c2:Nat),cs=[.int .i64 x.gen,.int .i64 x.kind,.int .i64 x.box,.int .i64 x.res,.int .i64 x.iU,.int .i64 x.bh,.int .i64 x.wait,.int .i64 x.iW,.int .i64 x.iR,.bool x.mark,.slice a0 n0 c0,.slice a1 n1 c1,.slice a2 n2 c2])∧F=[]
  lI:=by rintro _ _ _ _ ⟨a0,n0,c0,a1,n1,c1,a2,n2,c2,rfl⟩;rfl
  jA:=by rintro _ _ _ _ ⟨⟨a0,n0,c0,a1,n1,c1,a2,n2,c2,rfl⟩,_⟩;rfl
  kS h _:=h
  kU h _:=h
  ka h _:=h
  lF h _:=h.1
  kH:=by rintro _ _ _ _ ⟨⟨a0,n0,c0,a1,n1,c1,a2,n2,c2,rfl⟩,_⟩;simp [Value.oneCell']
  jR _:=⟨⟨_,_,_,_,_,_,_,_,_,rfl⟩,rfl⟩
def kC (l:List dW):List (List ir):=l.map fun p=>p.tree
def jL (l:List iZ):List (List ir):=l.map fun t=>t.list
def kG (l:List dW):List iZ:=(kC l).map iZ.mk
def mY (p:dW) (t:List ir):dW:=dW.mk p.label p.own t p.heap p.ij p.next p.want p.gE p.iH p.lost
def jD (l:List dW) (ts:List (List ir)):List dW:=List.zipWith mY l ts
def gd (b:Bool):Option Unit:=bif b then some () else none
class Fit (α:Type) where
  fit:α→Prop
instance:Fit Int:=⟨fun x=>-9223372036854775808≤x∧x≤9223372036854775807⟩
instance:Fit Bool:=⟨fun _=>True⟩
instance:Fit U8:=⟨fun x=>0≤x.v∧x.v≤255⟩
instance {α:Type} [Fit α]:Fit (List α):=⟨fun l=>l.length≤maxLen∧∀ y,y ∈ l→Fit.fit y⟩
instance:Fit ig:=⟨fun x=>Fit.fit x.bh∧Fit.fit x.ib∧Fit.fit x.ik⟩
instance:Fit jF:=⟨fun x=>Fit.fit x.kind∧Fit.fit x.a∧Fit.fit x.b∧Fit.fit x.c∧Fit.fit x.d∧Fit.fit x.e⟩
instance:Fit ja:=⟨fun x=>Fit.fit x.code∧Fit.fit x.val⟩
instance:Fit ir:=⟨fun x=>Fit.fit x.live∧Fit.fit x.parent∧Fit.fit x.iL⟩
instance:Fit jw:=⟨fun x=>Fit.fit x.res∧Fit.fit x.jJ∧Fit.fit x.mf∧Fit.fit x.kp∧Fit.fit x.kind∧Fit.fit x.lk⟩
instance:Fit jI:=⟨fun x=>Fit.fit x.src∧Fit.fit x.n⟩
instance:Fit j7:=⟨fun x=>Fit.fit x.levels⟩
instance:Fit km:=⟨fun x=>Fit.fit x.label∧Fit.fit x.own∧Fit.fit x.j9⟩
instance:Fit iZ:=⟨fun x=>Fit.fit x.list⟩
instance:Fit cd:=⟨fun x=>Fit.fit x.gen∧Fit.fit x.kind∧Fit.fit x.box∧Fit.fit x.res∧Fit.fit x.iU∧Fit.fit x.bh∧Fit.fit x.wait∧Fit.fit x.iW∧Fit.fit x.iR∧Fit.fit x.mark∧Fit.fit x.il∧Fit.fit x.data∧Fit.fit x.queue⟩
instance:Fit ks:=⟨fun x=>Fit.fit x.phase∧Fit.fit x.pos∧Fit.fit x.round∧Fit.fit x.ia⟩
instance:Fit iA:=⟨fun x=>Fit.fit x.ag∧Fit.fit x.gc⟩
instance:Fit dW:=⟨fun x=>Fit.fit x.label∧Fit.fit x.own∧Fit.fit x.tree∧Fit.fit x.heap∧Fit.fit x.ij∧Fit.fit x.next∧Fit.fit x.want∧Fit.fit x.gE∧Fit.fit x.iH∧Fit.fit x.lost⟩
instance:Fit iN:=⟨fun x=>Fit.fit x.now∧Fit.fit x.parts⟩
instance:Fit iu:=⟨fun x=>Fit.fit x.b∧Fit.fit x.i∧Fit.fit x.h⟩
end Go.Kx
