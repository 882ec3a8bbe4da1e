/- The data that the program works on, as plain structures; how they lie in cells. Printed by gendat.py. -/
import Derived.Test.YtikeaiogpfjdnaaGreatOwn
namespace Go.Kx
open Go Go.RowKit
set_option linter.unusedVariables false
set_option linter.unusedSimpArgs false
instance:iy Int where
  ty:=3
  sz:=1
  zero:=0
  zc:=[.int .i64 0]
  pos:=by omega
  rd _ _ cs x:=cs=[.int .i64 x]
  own _ cs F x:=cs=[.int .i64 x]∧F=[]
  lz:=by rintro _ _ _ _ rfl;rfl
  jw:=by rintro _ _ _ _ ⟨rfl,_⟩;rfl
  kP h _:=h
  kQ h _:=h
  kc h _:=h
  lB h _:=h.1
  kD:=by rintro _ _ _ _ ⟨rfl,_⟩;simp [Value.oneCell']
  jT _:=⟨rfl,rfl⟩
instance:Flat Int:=⟨fun h=>⟨h,rfl⟩⟩
instance:iy Bool where
  ty:=4
  sz:=1
  zero:=false
  zc:=[.bool false]
  pos:=by omega
  rd _ _ cs x:=cs=[.bool x]
  own _ cs F x:=cs=[.bool x]∧F=[]
  lz:=by rintro _ _ _ _ rfl;rfl
  jw:=by rintro _ _ _ _ ⟨rfl,_⟩;rfl
  kP h _:=h
  kQ h _:=h
  kc h _:=h
  lB h _:=h.1
  kD:=by rintro _ _ _ _ ⟨rfl,_⟩;simp [Value.oneCell']
  jT _:=⟨rfl,rfl⟩
instance:Flat Bool:=⟨fun h=>⟨h,rfl⟩⟩
abbrev IS:=ByteArray
instance:iy IS where
  ty:=9
  sz:=1
  zero:=⟨#[]⟩
  zc:=[.string ⟨#[]⟩]
  pos:=by omega
  rd _ _ cs x:=cs=[.string x]
  own _ cs F x:=cs=[.string x]∧F=[]
  lz:=by rintro _ _ _ _ rfl;rfl
  jw:=by rintro _ _ _ _ ⟨rfl,_⟩;rfl
  kP h _:=h
  kQ h _:=h
  kc h _:=h
  lB h _:=h.1
  kD:=by rintro _ _ _ _ ⟨rfl,_⟩;simp [Value.oneCell']
  jT _:=⟨rfl,rfl⟩
instance:Flat IS:=⟨fun h=>⟨h,rfl⟩⟩
structure U8 where
  v:Int
  deriving DecidableEq
instance:iy U8 where
  ty:=5
  sz:=1
  zero:=⟨0⟩
  zc:=[.int .u8 0]
  pos:=by omega
  rd _ _ cs x:=cs=[.int .u8 x.v]
  own _ cs F x:=cs=[.int .u8 x.v]∧F=[]
  lz:=by rintro _ _ _ _ rfl;rfl
  jw:=by rintro _ _ _ _ ⟨rfl,_⟩;rfl
  kP h _:=h
  kQ h _:=h
  kc h _:=h
  lB h _:=h.1
  kD:=by rintro _ _ _ _ ⟨rfl,_⟩;simp [Value.oneCell']
  jT _:=⟨rfl,rfl⟩
instance:Flat U8:=⟨fun h=>⟨h,rfl⟩⟩
def wF (a b:Int):Int:=IntKind.i64.wrap ((BitVec.ofInt IntKind.i64.bits a &&& BitVec.ofInt IntKind.i64.bits b).toNat:Int)
def Hx (a b:Int):Int:=IntKind.i64.wrap ((BitVec.ofInt IntKind.i64.bits a ^^^ BitVec.ofInt IntKind.i64.bits b).toNat:Int)
def DB (a b:Int):Int:=a.fdiv (2 ^ (min b.toNat IntKind.i64.bits))
structure Hd where
  a:Option Addr
  n:Nat
  c:Nat
structure iC where
  bh:Int
  ig:Int
  iB:Int
  deriving DecidableEq
instance:iy iC where
  ty:=35
  sz:=3
  zero:=⟨0,0,0⟩
  zc:=[.int .i64 0,.int .i64 0,.int .i64 0]
  pos:=by omega
  rd _ _ cs x:=cs=[.int .i64 x.bh,.int .i64 x.ig,.int .i64 x.iB]
  own _ cs F x:=cs=[.int .i64 x.bh,.int .i64 x.ig,.int .i64 x.iB]∧F=[]
  lz:=by rintro _ _ _ _ rfl;rfl
  jw:=by rintro _ _ _ _ ⟨rfl,_⟩;rfl
  kP h _:=h
  kQ h _:=h
  kc h _:=h
  lB h _:=h.1
  kD:=by rintro _ _ _ _ ⟨rfl,_⟩;simp [Value.oneCell']
  jT _:=⟨rfl,rfl⟩
instance:Flat iC:=⟨fun h=>⟨h,rfl⟩⟩
structure iL where
  kind:Int
  a:Int
  b:Int
  c:Int
  d:Int
  e:Int
  deriving DecidableEq
instance:iy iL where
  ty:=59
  sz:=6
  zero:=⟨0,0,0,0,0,0⟩
  zc:=[.int .i64 0,.int .i64 0,.int .i64 0,.int .i64 0,.int .i64 0,.int .i64 0]
  pos:=by omega
  rd _ _ cs x:=cs=[.int .i64 x.kind,.int .i64 x.a,.int .i64 x.b,.int .i64 x.c,.int .i64 x.d,.int .i64 x.e]
  own _ cs F x:=cs=[.int .i64 x.kind,.int .i64 x.a,.int .i64 x.b,.int .i64 x.c,.int .i64 x.d,.int .i64 x.e]∧F=[]
  lz:=by rintro _ _ _ _ rfl;rfl
  jw:=by rintro _ _ _ _ ⟨rfl,_⟩;rfl
  kP h _:=h
  kQ h _:=h
  kc h _:=h
  lB h _:=h.1
  kD:=by rintro _ _ _ _ ⟨rfl,_⟩;simp [Value.oneCell']
  jT _:=⟨rfl,rfl⟩
instance:Flat iL:=⟨fun h=>⟨h,rfl⟩⟩
structure iJ where
  code:Int
  val:Int
  deriving DecidableEq
instance:iy iJ where
  ty:=87
  sz:=2
  zero:=⟨0,0⟩
  zc:=[.int .i64 0,.int .i64 0]
  pos:=by omega
  rd _ _ cs x:=cs=[.int .i64 x.code,.int .i64 x.val]
  own _ cs F x:=cs=[.int .i64 x.code,.int .i64 x.val]∧F=[]
  lz:=by rintro _ _ _ _ rfl;rfl
  jw:=by rintro _ _ _ _ ⟨rfl,_⟩;rfl
  kP h _:=h
  kQ h _:=h
  kc h _:=h
  lB h _:=h.1
  kD:=by rintro _ _ _ _ ⟨rfl,_⟩;simp [Value.oneCell']
  jT _:=⟨rfl,rfl⟩
instance:Flat iJ:=⟨fun h=>⟨h,rfl⟩⟩
structure iz where
  live:Bool
  parent:Int
  iX:iC
  deriving DecidableEq
instance:iy iz where
  ty:=46
  sz:=5
  zero:=⟨false,0,⟨0,0,0⟩⟩
  zc:=[.bool false,.int .i64 0,.int .i64 0,.int .i64 0,.int .i64 0]
  pos:=by omega
  rd _ _ cs x:=cs=[.bool x.live,.int .i64 x.parent,.int .i64 x.iX.bh,.int .i64 x.iX.ig,.int .i64 x.iX.iB]
  own _ cs F x:=cs=[.bool x.live,.int .i64 x.parent,.int .i64 x.iX.bh,.int .i64 x.iX.ig,.int .i64 x.iX.iB]∧F=[]
  lz:=by rintro _ _ _ _ rfl;rfl
  jw:=by rintro _ _ _ _ ⟨rfl,_⟩;rfl
  kP h _:=h
  kQ h _:=h
  kc h _:=h
  lB h _:=h.1
  kD:=by rintro _ _ _ _ ⟨rfl,_⟩;simp [Value.oneCell']
  jT _:=⟨rfl,rfl⟩
instance:Flat iz:=⟨fun h=>⟨h,rfl⟩⟩
structure je where
  res:Int
  my:Int
  nO:Int
  nF:Int
  kind:Int
  nW:Int
  deriving DecidableEq
instance:iy je where
  ty:=126
  sz:=6
  zero:=⟨0,0,0,0,0,0⟩
  zc:=[.int .i64 0,.int .i64 0,.int .i64 0,.int .i64 0,.int .i64 0,.int .i64 0]
  pos:=by omega
  rd _ _ cs x:=cs=[.int .i64 x.res,.int .i64 x.my,.int .i64 x.nO,.int .i64 x.nF,.int .i64 x.kind,.int .i64 x.nW]
  own _ cs F x:=cs=[.int .i64 x.res,.int .i64 x.my,.int .i64 x.nO,.int .i64 x.nF,.int .i64 x.kind,.int .i64 x.nW]∧F=[]
  lz:=by rintro _ _ _ _ rfl;rfl
  jw:=by rintro _ _ _ _ ⟨rfl,_⟩;rfl
  kP h _:=h
  kQ h _:=h
  kc h _:=h
  lB h _:=h.1
  kD:=by rintro _ _ _ _ ⟨rfl,_⟩;simp [Value.oneCell']
  jT _:=⟨rfl,rfl⟩
instance:Flat je:=⟨fun h=>⟨h,rfl⟩⟩
structure iU where
  src:Int
  n:Int
  deriving DecidableEq
instance:iy iU where
  ty:=189
  sz:=2
  zero:=⟨0,0⟩
  zc:=[.int .i64 0,.int .i64 0]
  pos:=by omega
  rd _ _ cs x:=cs=[.int .i64 x.src,.int .i64 x.n]
  own _ cs F x:=cs=[.int .i64 x.src,.int .i64 x.n]∧F=[]
  lz:=by rintro _ _ _ _ rfl;rfl
  jw:=by rintro _ _ _ _ ⟨rfl,_⟩;rfl
  kP h _:=h
  kQ h _:=h
  kc h _:=h
  lB h _:=h.1
  kD:=by rintro _ _ _ _ ⟨rfl,_⟩;simp [Value.oneCell']
  jT _:=⟨rfl,rfl⟩
instance:Flat iU:=⟨fun h=>⟨h,rfl⟩⟩
structure jf where
  levels:List Int
  deriving DecidableEq
instance:iy jf where
  ty:=26
  sz:=1
  zero:=⟨[]⟩
  zc:=[.slice none 0 0]
  pos:=by omega
  rd S w cs x:=∃ (a0:Option Addr) (c0:Nat),cs=[.slice a0 x.levels.length c0]∧iR S w a0 c0 x.levels
  own w cs F x:=∃ (a0:Option Addr) (c0:Nat),cs=[.slice a0 x.levels.length c0]∧jh [sl a0 c0 x.levels] w F
  lz:=by rintro _ _ _ _ ⟨a0,c0,rfl,_⟩;rfl
  jw:=by rintro _ _ _ _ ⟨a0,c0,rfl,_⟩;rfl
  kP:=by rintro _ _ _ _ _ ⟨a0,c0,rfl,h0⟩ hk;exact ⟨a0,c0,rfl,h0.l7 hk⟩
  kQ:=by rintro _ _ _ _ _ ⟨a0,c0,rfl,h0⟩ hk;exact ⟨a0,c0,rfl,h0.mono hk⟩
  kc:=by rintro _ _ _ _ _ ⟨a0,c0,rfl,h⟩ hk;exact ⟨a0,c0,rfl,h.frame hk⟩
  lB:=by rintro _ _ _ _ _ ⟨a0,c0,rfl,h⟩ hk;exact ⟨a0,c0,rfl,jh.mb h 0 rfl hk⟩
  kD:=by rintro _ _ _ _ ⟨a0,c0,rfl,_⟩;simp [Value.oneCell']
  jT _:=⟨none,0,rfl,⟨[],[],rfl,.inl ⟨rfl,rfl,rfl,rfl⟩,rfl⟩⟩
structure ka where
  label:jf
  own:List Int
  j0:iC
  deriving DecidableEq
instance:iy ka where
  ty:=131
  sz:=5
  zero:=⟨⟨[]⟩,[],⟨0,0,0⟩⟩
  zc:=[.slice none 0 0,.slice none 0 0,.int .i64 0,.int .i64 0,.int .i64 0]
  pos:=by omega
  rd S w cs x:=∃ (a0:Option Addr) (c0:Nat) (a1:Option Addr) (c1:Nat),cs=[.slice a0 x.label.levels.length c0,.slice a1 x.own.length c1,.int .i64 x.j0.bh,.int .i64 x.j0.ig,.int .i64 x.j0.iB]∧iR S w a0 c0 x.label.levels∧iR S w a1 c1 x.own
  own w cs F x:=∃ (a0:Option Addr) (c0:Nat) (a1:Option Addr) (c1:Nat),cs=[.slice a0 x.label.levels.length c0,.slice a1 x.own.length c1,.int .i64 x.j0.bh,.int .i64 x.j0.ig,.int .i64 x.j0.iB]∧jh [sl a0 c0 x.label.levels,sl a1 c1 x.own] w F
  lz:=by rintro _ _ _ _ ⟨a0,c0,a1,c1,rfl,_⟩;rfl
  jw:=by rintro _ _ _ _ ⟨a0,c0,a1,c1,rfl,_⟩;rfl
  kP:=by rintro _ _ _ _ _ ⟨a0,c0,a1,c1,rfl,h0,h1⟩ hk;exact ⟨a0,c0,a1,c1,rfl,h0.l7 hk,h1.l7 hk⟩
  kQ:=by rintro _ _ _ _ _ ⟨a0,c0,a1,c1,rfl,h0,h1⟩ hk;exact ⟨a0,c0,a1,c1,rfl,h0.mono hk,h1.mono hk⟩
  kc:=by rintro _ _ _ _ _ ⟨a0,c0,a1,c1,rfl,h⟩ hk;exact ⟨a0,c0,a1,c1,rfl,h.frame hk⟩
  lB:=by rintro _ _ _ _ _ ⟨a0,c0,a1,c1,rfl,h⟩ hk;exact ⟨a0,c0,a1,c1,rfl,jh.mb h 0 rfl hk,jh.mb h 1 rfl hk⟩
  kD:=by rintro _ _ _ _ ⟨a0,c0,a1,c1,rfl,_⟩;simp [Value.oneCell']
  jT _:=⟨none,0,none,0,rfl,⟨[],[],rfl,.inl ⟨rfl,rfl,rfl,rfl⟩,⟨[],[],rfl,.inl ⟨rfl,rfl,rfl,rfl⟩,rfl⟩⟩⟩
structure cd where
  gen:Int
  kind:Int
  box:Int
  res:Int
  iP:Int
  bh:Int
  wait:Int
  iN:Int
  iO:Int
  mark:Bool
  ij:List Int
  data:List Int
  queue:List iU
  deriving DecidableEq
instance:iy cd where
  ty:=44
  sz:=13
  zero:=⟨0,0,0,0,0,0,0,0,0,false,[],[],[]⟩
  zc:=[.int .i64 0,.int .i64 0,.int .i64 0,.int .i64 0,.int .i64 0,.int .i64 0,.int .i64 0,.int .i64 0,.int .i64 0,.bool false,.slice none 0 0,.slice none 0 0,.slice none 0 0]
  pos:=by omega
  rd S w cs x:=∃ (a10:Option Addr) (c10:Nat) (a11:Option Addr) (c11:Nat) (a12:Option Addr) (c12:Nat),cs=[.int .i64 x.gen,.int .i64 x.kind,.int .i64 x.box,.int .i64 x.res,.int .i64 x.iP,.int .i64 x.bh,.int .i64 x.wait,.int .i64 x.iN,.int .i64 x.iO,.bool x.mark,.slice a10 x.ij.length c10,.slice a11 x.data.length c11,.slice a12 x.queue.length c12]∧iR S w a10 c10 x.ij∧iR S w a11 c11 x.data∧iR S w a12 c12 x.queue
  own w cs F x:=∃ (a10:Option Addr) (c10:Nat) (a11:Option Addr) (c11:Nat) (a12:Option Addr) (c12:Nat),cs=[.int .i64 x.gen,.int .i64 x.kind,.int .i64 x.box,.int .i64 x.res,.int .i64 x.iP,.int .i64 x.bh,.int .i64 x.wait,.int .i64 x.iN,.int .i64 x.iO,.bool x.mark,.slice a10 x.ij.length c10,.slice a11 x.data.length c11,.slice a12 x.queue.length c12]∧jh [sl a10 c10 x.ij,sl a11 c11 x.data,sl a12 c12 x.queue] w F
  lz:=by rintro _ _ _ _ ⟨a10,c10,a11,c11,a12,c12,rfl,_⟩;rfl
  jw:=by rintro _ _ _ _ ⟨a10,c10,a11,c11,a12,c12,rfl,_⟩;rfl
  kP:=by rintro _ _ _ _ _ ⟨a10,c10,a11,c11,a12,c12,rfl,h10,h11,h12⟩ hk;exact ⟨a10,c10,a11,c11,a12,c12,rfl,h10.l7 hk,h11.l7 hk,h12.l7 hk⟩
  kQ:=by rintro _ _ _ _ _ ⟨a10,c10,a11,c11,a12,c12,rfl,h10,h11,h12⟩ hk;exact ⟨a10,c10,a11,c11,a12,c12,rfl,h10.mono hk,h11.mono hk,h12.mono hk⟩
  kc:=by rintro _ _ _ _ _ ⟨a10,c10,a11,c11,a12,c12,rfl,h⟩ hk;exact ⟨a10,c10,a11,c11,a12,c12,rfl,h.frame hk⟩
  lB:=by rintro _ _ _ _ _ ⟨a10,c10,a11,c11,a12,c12,rfl,h⟩ hk;exact ⟨a10,c10,a11,c11,a12,c12,rfl,jh.mb h 0 rfl hk,jh.mb h 1 rfl hk,jh.mb h 2 rfl hk⟩
  kD:=by rintro _ _ _ _ ⟨a10,c10,a11,c11,a12,c12,rfl,_⟩;simp [Value.oneCell']
  jT _:=⟨none,0,none,0,none,0,rfl,⟨[],[],rfl,.inl ⟨rfl,rfl,rfl,rfl⟩,⟨[],[],rfl,.inl ⟨rfl,rfl,rfl,rfl⟩,⟨[],[],rfl,.inl ⟨rfl,rfl,rfl,rfl⟩,rfl⟩⟩⟩⟩
structure jr where
  phase:Int
  pos:Int
  round:Int
  ia:List Int
  deriving DecidableEq
instance:iy jr where
  ty:=30
  sz:=4
  zero:=⟨0,0,0,[]⟩
  zc:=[.int .i64 0,.int .i64 0,.int .i64 0,.slice none 0 0]
  pos:=by omega
  rd S w cs x:=∃ (a3:Option Addr) (c3:Nat),cs=[.int .i64 x.phase,.int .i64 x.pos,.int .i64 x.round,.slice a3 x.ia.length c3]∧iR S w a3 c3 x.ia
  own w cs F x:=∃ (a3:Option Addr) (c3:Nat),cs=[.int .i64 x.phase,.int .i64 x.pos,.int .i64 x.round,.slice a3 x.ia.length c3]∧jh [sl a3 c3 x.ia] w F
  lz:=by rintro _ _ _ _ ⟨a3,c3,rfl,_⟩;rfl
  jw:=by rintro _ _ _ _ ⟨a3,c3,rfl,_⟩;rfl
  kP:=by rintro _ _ _ _ _ ⟨a3,c3,rfl,h3⟩ hk;exact ⟨a3,c3,rfl,h3.l7 hk⟩
  kQ:=by rintro _ _ _ _ _ ⟨a3,c3,rfl,h3⟩ hk;exact ⟨a3,c3,rfl,h3.mono hk⟩
  kc:=by rintro _ _ _ _ _ ⟨a3,c3,rfl,h⟩ hk;exact ⟨a3,c3,rfl,h.frame hk⟩
  lB:=by rintro _ _ _ _ _ ⟨a3,c3,rfl,h⟩ hk;exact ⟨a3,c3,rfl,jh.mb h 0 rfl hk⟩
  kD:=by rintro _ _ _ _ ⟨a3,c3,rfl,_⟩;simp [Value.oneCell']
  jT _:=⟨none,0,rfl,⟨[],[],rfl,.inl ⟨rfl,rfl,rfl,rfl⟩,rfl⟩⟩
structure ir where
  ag:List cd
  gc:jr
  deriving DecidableEq
instance:iy ir where
  ty:=32
  sz:=5
  zero:=⟨[],⟨0,0,0,[]⟩⟩
  zc:=[.slice none 0 0,.int .i64 0,.int .i64 0,.int .i64 0,.slice none 0 0]
  pos:=by omega
  rd S w cs x:=∃ (a0:Option Addr) (c0:Nat) (a4:Option Addr) (c4:Nat),cs=[.slice a0 x.ag.length c0,.int .i64 x.gc.phase,.int .i64 x.gc.pos,.int .i64 x.gc.round,.slice a4 x.gc.ia.length c4]∧iR S w a0 c0 x.ag∧iR S w a4 c4 x.gc.ia
  own w cs F x:=∃ (a0:Option Addr) (c0:Nat) (a4:Option Addr) (c4:Nat),cs=[.slice a0 x.ag.length c0,.int .i64 x.gc.phase,.int .i64 x.gc.pos,.int .i64 x.gc.round,.slice a4 x.gc.ia.length c4]∧jh [sl a0 c0 x.ag,sl a4 c4 x.gc.ia] w F
  lz:=by rintro _ _ _ _ ⟨a0,c0,a4,c4,rfl,_⟩;rfl
  jw:=by rintro _ _ _ _ ⟨a0,c0,a4,c4,rfl,_⟩;rfl
  kP:=by rintro _ _ _ _ _ ⟨a0,c0,a4,c4,rfl,h0,h4⟩ hk;exact ⟨a0,c0,a4,c4,rfl,h0.l7 hk,h4.l7 hk⟩
  kQ:=by rintro _ _ _ _ _ ⟨a0,c0,a4,c4,rfl,h0,h4⟩ hk;exact ⟨a0,c0,a4,c4,rfl,h0.mono hk,h4.mono hk⟩
  kc:=by rintro _ _ _ _ _ ⟨a0,c0,a4,c4,rfl,h⟩ hk;exact ⟨a0,c0,a4,c4,rfl,h.frame hk⟩
  lB:=by rintro _ _ _ _ _ ⟨a0,c0,a4,c4,rfl,h⟩ hk;exact ⟨a0,c0,a4,c4,rfl,jh.mb h 0 rfl hk,jh.mb h 1 rfl hk⟩
  kD:=by rintro _ _ _ _ ⟨a0,c0,a4,c4,rfl,_⟩;simp [Value.oneCell']
  jT _:=⟨none,0,none,0,rfl,⟨[],[],rfl,.inl ⟨rfl,rfl,rfl,rfl⟩,⟨[],[],rfl,.inl ⟨rfl,rfl,rfl,rfl⟩,rfl⟩⟩⟩
structure hZ where
  label:jf
  own:List Int
  tree:List iz
  heap:ir
  ic:List je
  next:Int
  want:Int
  gE:iC
  ik:Int
  lost:Int
  deriving DecidableEq
instance:iy hZ where
  ty:=37
  sz:=16
  zero:=⟨⟨[]⟩,[],[],⟨[],⟨0,0,0,[]⟩⟩,[],0,0,⟨0,0,0⟩,0,0⟩
  zc:=[.slice none 0 0,.slice none 0 0,.slice none 0 0,.slice none 0 0,.int .i64 0,.int .i64 0,.int .i64 0,.slice none 0 0,.slice none 0 0,.int .i64 0,.int .i64 0,.int .i64 0,.int .i64 0,.int .i64 0,.int .i64 0,.int .i64 0]
  pos:=by omega
  rd S w cs x:=∃ (a0:Option Addr) (c0:Nat) (a1:Option Addr) (c1:Nat) (a2:Option Addr) (c2:Nat) (a3:Option Addr) (c3:Nat) (a7:Option Addr) (c7:Nat) (a8:Option Addr) (c8:Nat),cs=[.slice a0 x.label.levels.length c0,.slice a1 x.own.length c1,.slice a2 x.tree.length c2,.slice a3 x.heap.ag.length c3,.int .i64 x.heap.gc.phase,.int .i64 x.heap.gc.pos,.int .i64 x.heap.gc.round,.slice a7 x.heap.gc.ia.length c7,.slice a8 x.ic.length c8,.int .i64 x.next,.int .i64 x.want,.int .i64 x.gE.bh,.int .i64 x.gE.ig,.int .i64 x.gE.iB,.int .i64 x.ik,.int .i64 x.lost]∧iR S w a0 c0 x.label.levels∧iR S w a1 c1 x.own∧iR S w a2 c2 x.tree∧iR S w a3 c3 x.heap.ag∧iR S w a7 c7 x.heap.gc.ia∧iR S w a8 c8 x.ic
  own w cs F x:=∃ (a0:Option Addr) (c0:Nat) (a1:Option Addr) (c1:Nat) (a2:Option Addr) (c2:Nat) (a3:Option Addr) (c3:Nat) (a7:Option Addr) (c7:Nat) (a8:Option Addr) (c8:Nat),cs=[.slice a0 x.label.levels.length c0,.slice a1 x.own.length c1,.slice a2 x.tree.length c2,.slice a3 x.heap.ag.length c3,.int .i64 x.heap.gc.phase,.int .i64 x.heap.gc.pos,.int .i64 x.heap.gc.round,.slice a7 x.heap.gc.ia.length c7,.slice a8 x.ic.length c8,.int .i64 x.next,.int .i64 x.want,.int .i64 x.gE.bh,.int .i64 x.gE.ig,.int .i64 x.gE.iB,.int .i64 x.ik,.int .i64 x.lost]∧jh [sl a0 c0 x.label.levels,sl a1 c1 x.own,sl a2 c2 x.tree,sl a3 c3 x.heap.ag,sl a7 c7 x.heap.gc.ia,sl a8 c8 x.ic] w F
  lz:=by rintro _ _ _ _ ⟨a0,c0,a1,c1,a2,c2,a3,c3,a7,c7,a8,c8,rfl,_⟩;rfl
  jw:=by rintro _ _ _ _ ⟨a0,c0,a1,c1,a2,c2,a3,c3,a7,c7,a8,c8,rfl,_⟩;rfl
  kP:=by rintro _ _ _ _ _ ⟨a0,c0,a1,c1,a2,c2,a3,c3,a7,c7,a8,c8,rfl,h0,h1,h2,h3,h7,h8⟩ hk;exact ⟨a0,c0,a1,c1,a2,c2,a3,c3,a7,c7,a8,c8,rfl,h0.l7 hk,h1.l7 hk,h2.l7 hk,h3.l7 hk,h7.l7 hk,h8.l7 hk⟩
  kQ:=by rintro _ _ _ _ _ ⟨a0,c0,a1,c1,a2,c2,a3,c3,a7,c7,a8,c8,rfl,h0,h1,h2,h3,h7,h8⟩ hk;exact ⟨a0,c0,a1,c1,a2,c2,a3,c3,a7,c7,a8,c8,rfl,h0.mono hk,h1.mono hk,h2.mono hk,h3.mono hk,h7.mono hk,h8.mono hk⟩
  kc:=by rintro _ _ _ _ _ ⟨a0,c0,a1,c1,a2,c2,a3,c3,a7,c7,a8,c8,rfl,h⟩ hk;exact ⟨a0,c0,a1,c1,a2,c2,a3,c3,a7,c7,a8,c8,rfl,h.frame hk⟩
  lB:=by rintro _ _ _ _ _ ⟨a0,c0,a1,c1,a2,c2,a3,c3,a7,c7,a8,c8,rfl,h⟩ hk;exact ⟨a0,c0,a1,c1,a2,c2,a3,c3,a7,c7,a8,c8,rfl,jh.mb h 0 rfl hk,jh.mb h 1 rfl hk,jh.mb h 2 rfl hk,jh.mb h 3 rfl hk,jh.mb h 4 rfl hk,jh.mb h 5 rfl hk⟩
  kD:=by rintro _ _ _ _ ⟨a0,c0,a1,c1,a2,c2,a3,c3,a7,c7,a8,c8,rfl,_⟩;simp [Value.oneCell']
  jT _:=⟨none,0,none,0,none,0,none,0,none,0,none,0,rfl,⟨[],[],rfl,.inl ⟨rfl,rfl,rfl,rfl⟩,⟨[],[],rfl,.inl ⟨rfl,rfl,rfl,rfl⟩,⟨[],[],rfl,.inl ⟨rfl,rfl,rfl,rfl⟩,⟨[],[],rfl,.inl ⟨rfl,rfl,rfl,rfl⟩,⟨[],[],rfl,.inl ⟨rfl,rfl,rfl,rfl⟩,⟨[],[],rfl,.inl ⟨rfl,rfl,rfl,rfl⟩,rfl⟩⟩⟩⟩⟩⟩⟩
structure iQ where
  now:Int
  parts:List hZ
  deriving DecidableEq
instance:iy iQ where
  ty:=77
  sz:=2
  zero:=⟨0,[]⟩
  zc:=[.int .i64 0,.slice none 0 0]
  pos:=by omega
  rd S w cs x:=∃ (a1:Option Addr) (c1:Nat),cs=[.int .i64 x.now,.slice a1 x.parts.length c1]∧iR S w a1 c1 x.parts
  own w cs F x:=∃ (a1:Option Addr) (c1:Nat),cs=[.int .i64 x.now,.slice a1 x.parts.length c1]∧jh [sl a1 c1 x.parts] w F
  lz:=by rintro _ _ _ _ ⟨a1,c1,rfl,_⟩;rfl
  jw:=by rintro _ _ _ _ ⟨a1,c1,rfl,_⟩;rfl
  kP:=by rintro _ _ _ _ _ ⟨a1,c1,rfl,h1⟩ hk;exact ⟨a1,c1,rfl,h1.l7 hk⟩
  kQ:=by rintro _ _ _ _ _ ⟨a1,c1,rfl,h1⟩ hk;exact ⟨a1,c1,rfl,h1.mono hk⟩
  kc:=by rintro _ _ _ _ _ ⟨a1,c1,rfl,h⟩ hk;exact ⟨a1,c1,rfl,h.frame hk⟩
  lB:=by rintro _ _ _ _ _ ⟨a1,c1,rfl,h⟩ hk;exact ⟨a1,c1,rfl,jh.mb h 0 rfl hk⟩
  kD:=by rintro _ _ _ _ ⟨a1,c1,rfl,_⟩;simp [Value.oneCell']
  jT _:=⟨none,0,rfl,⟨[],[],rfl,.inl ⟨rfl,rfl,rfl,rfl⟩,rfl⟩⟩
structure iK where
  part:hZ
  me:Int
  now:Int
  iY:Int
  deriving DecidableEq
structure iu where
  b:List U8
  i:Int
  h:Int
  deriving DecidableEq
structure rk where
  label:jf
  own:List Int
  tree:Hd
  heap:ir
  ic:List je
  next:Int
  want:Int
  gE:iC
  ik:Int
  lost:Int
instance:iy rk where
  ty:=37
  sz:=16
  zero:=⟨⟨[]⟩,[],⟨none,0,0⟩,⟨[],⟨0,0,0,[]⟩⟩,[],0,0,⟨0,0,0⟩,0,0⟩
  zc:=[.slice none 0 0,.slice none 0 0,.slice none 0 0,.slice none 0 0,.int .i64 0,.int .i64 0,.int .i64 0,.slice none 0 0,.slice none 0 0,.int .i64 0,.int .i64 0,.int .i64 0,.int .i64 0,.int .i64 0,.int .i64 0,.int .i64 0]
  pos:=by omega
  rd S w cs x:=∃ (a0:Option Addr) (c0:Nat) (a1:Option Addr) (c1:Nat) (a3:Option Addr) (c3:Nat) (a7:Option Addr) (c7:Nat) (a8:Option Addr) (c8:Nat),cs=[.slice a0 x.label.levels.length c0,.slice a1 x.own.length c1,.slice x.tree.a x.tree.n x.tree.c,.slice a3 x.heap.ag.length c3,.int .i64 x.heap.gc.phase,.int .i64 x.heap.gc.pos,.int .i64 x.heap.gc.round,.slice a7 x.heap.gc.ia.length c7,.slice a8 x.ic.length c8,.int .i64 x.next,.int .i64 x.want,.int .i64 x.gE.bh,.int .i64 x.gE.ig,.int .i64 x.gE.iB,.int .i64 x.ik,.int .i64 x.lost]∧iR S w a0 c0 x.label.levels∧iR S w a1 c1 x.own∧iR S w a3 c3 x.heap.ag∧iR S w a7 c7 x.heap.gc.ia∧iR S w a8 c8 x.ic
  own w cs F x:=∃ (a0:Option Addr) (c0:Nat) (a1:Option Addr) (c1:Nat) (a3:Option Addr) (c3:Nat) (a7:Option Addr) (c7:Nat) (a8:Option Addr) (c8:Nat),cs=[.slice a0 x.label.levels.length c0,.slice a1 x.own.length c1,.slice x.tree.a x.tree.n x.tree.c,.slice a3 x.heap.ag.length c3,.int .i64 x.heap.gc.phase,.int .i64 x.heap.gc.pos,.int .i64 x.heap.gc.round,.slice a7 x.heap.gc.ia.length c7,.slice a8 x.ic.length c8,.int .i64 x.next,.int .i64 x.want,.int .i64 x.gE.bh,.int .i64 x.gE.ig,.int .i64 x.gE.iB,.int .i64 x.ik,.int .i64 x.lost]∧jh [sl a0 c0 x.label.levels,sl a1 c1 x.own,sl a3 c3 x.heap.ag,sl a7 c7 x.heap.gc.ia,sl a8 c8 x.ic] w F
  lz:=by rintro _ _ _ _ ⟨a0,c0,a1,c1,a3,c3,a7,c7,a8,c8,rfl,_⟩;rfl
  jw:=by rintro _ _ _ _ ⟨a0,c0,a1,c1,a3,c3,a7,c7,a8,c8,rfl,_⟩;rfl
  kP:=by rintro _ _ _ _ _ ⟨a0,c0,a1,c1,a3,c3,a7,c7,a8,c8,rfl,h0,h1,h3,h7,h8⟩ hk;exact ⟨a0,c0,a1,c1,a3,c3,a7,c7,a8,c8,rfl,h0.l7 hk,h1.l7 hk,h3.l7 hk,h7.l7 hk,h8.l7 hk⟩
  kQ:=by rintro _ _ _ _ _ ⟨a0,c0,a1,c1,a3,c3,a7,c7,a8,c8,rfl,h0,h1,h3,h7,h8⟩ hk;exact ⟨a0,c0,a1,c1,a3,c3,a7,c7,a8,c8,rfl,h0.mono hk,h1.mono hk,h3.mono hk,h7.mono hk,h8.mono hk⟩
  kc:=by rintro _ _ _ _ _ ⟨a0,c0,a1,c1,a3,c3,a7,c7,a8,c8,rfl,h⟩ hk;exact ⟨a0,c0,a1,c1,a3,c3,a7,c7,a8,c8,rfl,h.frame hk⟩
  lB:=by rintro _ _ _ _ _ ⟨a0,c0,a1,c1,a3,c3,a7,c7,a8,c8,rfl,h⟩ hk;exact ⟨a0,c0,a1,c1,a3,c3,a7,c7,a8,c8,rfl,jh.mb h 0 rfl hk,jh.mb h 1 rfl hk,jh.mb h 2 rfl hk,jh.mb h 3 rfl hk,jh.mb h 4 rfl hk⟩
  kD:=by rintro _ _ _ _ ⟨a0,c0,a1,c1,a3,c3,a7,c7,a8,c8,rfl,_⟩;simp [Value.oneCell']
  jT _:=⟨none,0,none,0,none,0,none,0,none,0,rfl,⟨[],[],rfl,.inl ⟨rfl,rfl,rfl,rfl⟩,⟨[],[],rfl,.inl ⟨rfl,rfl,rfl,rfl⟩,⟨[],[],rfl,.inl ⟨rfl,rfl,rfl,rfl⟩,⟨[],[],rfl,.inl ⟨rfl,rfl,rfl,rfl⟩,⟨[],[],rfl,.inl ⟨rfl,rfl,rfl,rfl⟩,rfl⟩⟩⟩⟩⟩⟩
structure oh where
  gen:Int
  kind:Int
  box:Int
  res:Int
  iP:Int
  bh:Int
  wait:Int
  iN:Int
  iO:Int
  mark:Bool
  deriving DecidableEq
instance:iy oh where
  ty:=44
  sz:=13
  zero:=⟨0,0,0,0,0,0,0,0,0,false⟩
  zc:=[.int .i64 0,.int .i64 0,.int .i64 0,.int .i64 0,.int .i64 0,.int .i64 0,.int .i64 0,.int .i64 0,.int .i64 0,.bool false,.slice none 0 0,.slice none 0 0,.slice none 0 0]
  pos:=by omega
  rd _ _ cs x:=∃ (a0:Option Addr) (n0 c0:Nat) (a1:Option Addr) (n1 c1:Nat) (a2:Option Addr) (n2 c2:Nat),cs=[.int .i64 x.gen,.int .i64 x.kind,.int .i64 x.box,.int .i64 x.res,.int .i64 x.iP,.int .i64 x.bh,.int .i64 x.wait,.int .i64 x.iN,.int .i64 x.iO,.bool x.mark,.slice a0 n0 c0,.slice a1 n1 c1,.slice a2 n2 c2]
  own _ cs F x:=(∃ (a0:Option Addr) (n0 c0:Nat) (a1:Option Addr) (n1 c1:Nat) (a2:Option Addr) (n2 c2:Nat),cs=[.int .i64 x.gen,.int .i64 x.kind,.int .i64 x.box,.int .i64 x.res,.int .i64 x.iP,.int .i64 x.bh,.int .i64 x.wait,.int .i64 x.iN,.int .i64 x.iO,.bool x.mark,.slice a0 n0 c0,.slice a1 n1 c1,.slice a2 n2 c2])∧F=[]
  lz:=by rintro _ _ _ _ ⟨a0,n0,c0,a1,n1,c1,a2,n2,c2,rfl⟩;rfl
  jw:=by rintro _ _ _ _ ⟨⟨a0,n0,c0,a1,n1,c1,a2,n2,c2,rfl⟩,_⟩;rfl
  kP h _:=h
  kQ h _:=h
  kc h _:=h
  lB h _:=h.1
  kD:=by rintro _ _ _ _ ⟨⟨a0,n0,c0,a1,n1,c1,a2,n2,c2,rfl⟩,_⟩;simp [Value.oneCell']
  jT _:=⟨⟨_,_,_,_,_,_,_,_,_,rfl⟩,rfl⟩
def zx (p:hZ) (t:List iz):hZ:=hZ.mk p.label p.own t p.heap p.ic p.next p.want p.gE p.ik p.lost
def yi (l:List hZ) (ts:List (List iz)):List hZ:=List.zipWith zx l ts
def gd (b:Bool):Option Unit:=bif b then some () else none
class Fit (α:Type) where
  fit:α→Prop
instance:Fit Int:=⟨fun x=>-9223372036854775808≤x∧x≤9223372036854775807⟩
instance:Fit Bool:=⟨fun _=>True⟩
instance:Fit U8:=⟨fun x=>0≤x.v∧x.v≤255⟩
instance {α:Type} [Fit α]:Fit (List α):=⟨fun l=>l.length≤maxLen∧∀ y,y ∈ l→Fit.fit y⟩
instance:Fit iC:=⟨fun x=>Fit.fit x.bh∧Fit.fit x.ig∧Fit.fit x.iB⟩
instance:Fit iL:=⟨fun x=>Fit.fit x.kind∧Fit.fit x.a∧Fit.fit x.b∧Fit.fit x.c∧Fit.fit x.d∧Fit.fit x.e⟩
instance:Fit iJ:=⟨fun x=>Fit.fit x.code∧Fit.fit x.val⟩
instance:Fit iz:=⟨fun x=>Fit.fit x.live∧Fit.fit x.parent∧Fit.fit x.iX⟩
instance:Fit je:=⟨fun x=>Fit.fit x.res∧Fit.fit x.my∧Fit.fit x.nO∧Fit.fit x.nF∧Fit.fit x.kind∧Fit.fit x.nW⟩
instance:Fit iU:=⟨fun x=>Fit.fit x.src∧Fit.fit x.n⟩
instance:Fit jf:=⟨fun x=>Fit.fit x.levels⟩
instance:Fit ka:=⟨fun x=>Fit.fit x.label∧Fit.fit x.own∧Fit.fit x.j0⟩
instance:Fit cd:=⟨fun x=>Fit.fit x.gen∧Fit.fit x.kind∧Fit.fit x.box∧Fit.fit x.res∧Fit.fit x.iP∧Fit.fit x.bh∧Fit.fit x.wait∧Fit.fit x.iN∧Fit.fit x.iO∧Fit.fit x.mark∧Fit.fit x.ij∧Fit.fit x.data∧Fit.fit x.queue⟩
instance:Fit jr:=⟨fun x=>Fit.fit x.phase∧Fit.fit x.pos∧Fit.fit x.round∧Fit.fit x.ia⟩
instance:Fit ir:=⟨fun x=>Fit.fit x.ag∧Fit.fit x.gc⟩
instance:Fit hZ:=⟨fun x=>Fit.fit x.label∧Fit.fit x.own∧Fit.fit x.tree∧Fit.fit x.heap∧Fit.fit x.ic∧Fit.fit x.next∧Fit.fit x.want∧Fit.fit x.gE∧Fit.fit x.ik∧Fit.fit x.lost⟩
instance:Fit iQ:=⟨fun x=>Fit.fit x.now∧Fit.fit x.parts⟩
instance:Fit iK:=⟨fun x=>Fit.fit x.part∧Fit.fit x.me∧Fit.fit x.now∧Fit.fit x.iY⟩
instance:Fit iu:=⟨fun x=>Fit.fit x.b∧Fit.fit x.i∧Fit.fit x.h⟩
end Go.Kx
