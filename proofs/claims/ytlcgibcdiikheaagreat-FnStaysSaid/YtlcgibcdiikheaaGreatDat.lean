import Derived.Test.YtlcgibcdiikheaaGreatOpa
namespace Go.Kx
open Go Go.RowKit
open Go.IntKind (i64)
set_option linter.unusedVariables false
set_option linter.unusedSimpArgs false
instance:ia Int where
  ty:=3
  sz:=1
  zero:=0
  zc:=[.int .i64 0]
  pos:=by omega
  rd _ _ cs x:=cs=[.int .i64 x]
  own _ cs F x:=cs=[.int .i64 x]∧F=[]
  lW:=by rintro _ _ _ _ rfl;rfl
  jc:=by rintro _ _ _ _ ⟨rfl,_⟩;rfl
  lg h _:=h
  lh h _:=h
  j8 h _:=h
  lV h _:=h.1
  kF:=by rintro _ _ _ _ ⟨rfl,_⟩;simp [Value.oneCell']
  jA _:=⟨rfl,rfl⟩
instance:Flat Int:=⟨fun h=>⟨h,rfl⟩⟩
instance:ia Bool where
  ty:=4
  sz:=1
  zero:=false
  zc:=[.bool false]
  pos:=by omega
  rd _ _ cs x:=cs=[.bool x]
  own _ cs F x:=cs=[.bool x]∧F=[]
  lW:=by rintro _ _ _ _ rfl;rfl
  jc:=by rintro _ _ _ _ ⟨rfl,_⟩;rfl
  lg h _:=h
  lh h _:=h
  j8 h _:=h
  lV h _:=h.1
  kF:=by rintro _ _ _ _ ⟨rfl,_⟩;simp [Value.oneCell']
  jA _:=⟨rfl,rfl⟩
instance:Flat Bool:=⟨fun h=>⟨h,rfl⟩⟩
abbrev P4:=ByteArray
instance:ia P4 where
  ty:=9
  sz:=1
  zero:=⟨#[]⟩
  zc:=[.string ⟨#[]⟩]
  pos:=by omega
  rd _ _ cs x:=cs=[.string x]
  own _ cs F x:=cs=[.string x]∧F=[]
  lW:=by rintro _ _ _ _ rfl;rfl
  jc:=by rintro _ _ _ _ ⟨rfl,_⟩;rfl
  lg h _:=h
  lh h _:=h
  j8 h _:=h
  lV h _:=h.1
  kF:=by rintro _ _ _ _ ⟨rfl,_⟩;simp [Value.oneCell']
  jA _:=⟨rfl,rfl⟩
instance:Flat P4:=⟨fun h=>⟨h,rfl⟩⟩
structure U8 where
  v:Int
  deriving DecidableEq
instance:ia U8 where
  ty:=5
  sz:=1
  zero:=⟨0⟩
  zc:=[.int .u8 0]
  pos:=by omega
  rd _ _ cs x:=cs=[.int .u8 x.v]
  own _ cs F x:=cs=[.int .u8 x.v]∧F=[]
  lW:=by rintro _ _ _ _ rfl;rfl
  jc:=by rintro _ _ _ _ ⟨rfl,_⟩;rfl
  lg h _:=h
  lh h _:=h
  j8 h _:=h
  lV h _:=h.1
  kF:=by rintro _ _ _ _ ⟨rfl,_⟩;simp [Value.oneCell']
  jA _:=⟨rfl,rfl⟩
instance:Flat U8:=⟨fun h=>⟨h,rfl⟩⟩
def yP (a b:Int):Int:=i64.wrap ((BitVec.ofInt IntKind.i64.bits a &&& BitVec.ofInt IntKind.i64.bits b).toNat:Int)
def Pc (a b:Int):Int:=i64.wrap ((BitVec.ofInt IntKind.i64.bits a ^^^ BitVec.ofInt IntKind.i64.bits b).toNat:Int)
def IG (a b:Int):Int:=a.fdiv (2 ^ (min b.toNat IntKind.i64.bits))
structure Hd where
  a:Option Addr
  n:Nat
  c:Nat
structure gT where
  bh:Int
  gS:Int
  gW:Int
  deriving DecidableEq
instance:ia gT where
  ty:=48
  sz:=3
  zero:=⟨0,0,0⟩
  zc:=[.int .i64 0,.int .i64 0,.int .i64 0]
  pos:=by omega
  rd _ _ cs x:=cs=[.int .i64 x.bh,.int .i64 x.gS,.int .i64 x.gW]
  own _ cs F x:=cs=[.int .i64 x.bh,.int .i64 x.gS,.int .i64 x.gW]∧F=[]
  lW:=by rintro _ _ _ _ rfl;rfl
  jc:=by rintro _ _ _ _ ⟨rfl,_⟩;rfl
  lg h _:=h
  lh h _:=h
  j8 h _:=h
  lV h _:=h.1
  kF:=by rintro _ _ _ _ ⟨rfl,_⟩;simp [Value.oneCell']
  jA _:=⟨rfl,rfl⟩
instance:Flat gT:=⟨fun h=>⟨h,rfl⟩⟩
structure iA where
  py:Int
  a:Int
  b:Int
  c:Int
  d:Int
  e:Int
  deriving DecidableEq
instance:ia iA where
  ty:=28
  sz:=6
  zero:=⟨0,0,0,0,0,0⟩
  zc:=[.int .i64 0,.int .i64 0,.int .i64 0,.int .i64 0,.int .i64 0,.int .i64 0]
  pos:=by omega
  rd _ _ cs x:=cs=[.int .i64 x.py,.int .i64 x.a,.int .i64 x.b,.int .i64 x.c,.int .i64 x.d,.int .i64 x.e]
  own _ cs F x:=cs=[.int .i64 x.py,.int .i64 x.a,.int .i64 x.b,.int .i64 x.c,.int .i64 x.d,.int .i64 x.e]∧F=[]
  lW:=by rintro _ _ _ _ rfl;rfl
  jc:=by rintro _ _ _ _ ⟨rfl,_⟩;rfl
  lg h _:=h
  lh h _:=h
  j8 h _:=h
  lV h _:=h.1
  kF:=by rintro _ _ _ _ ⟨rfl,_⟩;simp [Value.oneCell']
  jA _:=⟨rfl,rfl⟩
instance:Flat iA:=⟨fun h=>⟨h,rfl⟩⟩
structure ja where
  py:Int
  Q5:Int
  lj:Int
  call:iA
  deriving DecidableEq
instance:ia ja where
  ty:=62
  sz:=9
  zero:=⟨0,0,0,⟨0,0,0,0,0,0⟩⟩
  zc:=[.int .i64 0,.int .i64 0,.int .i64 0,.int .i64 0,.int .i64 0,.int .i64 0,.int .i64 0,.int .i64 0,.int .i64 0]
  pos:=by omega
  rd _ _ cs x:=cs=[.int .i64 x.py,.int .i64 x.Q5,.int .i64 x.lj,.int .i64 x.call.py,.int .i64 x.call.a,.int .i64 x.call.b,.int .i64 x.call.c,.int .i64 x.call.d,.int .i64 x.call.e]
  own _ cs F x:=cs=[.int .i64 x.py,.int .i64 x.Q5,.int .i64 x.lj,.int .i64 x.call.py,.int .i64 x.call.a,.int .i64 x.call.b,.int .i64 x.call.c,.int .i64 x.call.d,.int .i64 x.call.e]∧F=[]
  lW:=by rintro _ _ _ _ rfl;rfl
  jc:=by rintro _ _ _ _ ⟨rfl,_⟩;rfl
  lg h _:=h
  lh h _:=h
  j8 h _:=h
  lV h _:=h.1
  kF:=by rintro _ _ _ _ ⟨rfl,_⟩;simp [Value.oneCell']
  jA _:=⟨rfl,rfl⟩
instance:Flat ja:=⟨fun h=>⟨h,rfl⟩⟩
structure il where
  code:Int
  Q7:Int
  deriving DecidableEq
instance:ia il where
  ty:=32
  sz:=2
  zero:=⟨0,0⟩
  zc:=[.int .i64 0,.int .i64 0]
  pos:=by omega
  rd _ _ cs x:=cs=[.int .i64 x.code,.int .i64 x.Q7]
  own _ cs F x:=cs=[.int .i64 x.code,.int .i64 x.Q7]∧F=[]
  lW:=by rintro _ _ _ _ rfl;rfl
  jc:=by rintro _ _ _ _ ⟨rfl,_⟩;rfl
  lg h _:=h
  lh h _:=h
  j8 h _:=h
  lV h _:=h.1
  kF:=by rintro _ _ _ _ ⟨rfl,_⟩;simp [Value.oneCell']
  jA _:=⟨rfl,rfl⟩
instance:Flat il:=⟨fun h=>⟨h,rfl⟩⟩
structure g6 where
  Q2:Bool
  Q4:Int
  iw:gT
  deriving DecidableEq
instance:ia g6 where
  ty:=172
  sz:=5
  zero:=⟨false,0,⟨0,0,0⟩⟩
  zc:=[.bool false,.int .i64 0,.int .i64 0,.int .i64 0,.int .i64 0]
  pos:=by omega
  rd _ _ cs x:=cs=[.bool x.Q2,.int .i64 x.Q4,.int .i64 x.iw.bh,.int .i64 x.iw.gS,.int .i64 x.iw.gW]
  own _ cs F x:=cs=[.bool x.Q2,.int .i64 x.Q4,.int .i64 x.iw.bh,.int .i64 x.iw.gS,.int .i64 x.iw.gW]∧F=[]
  lW:=by rintro _ _ _ _ rfl;rfl
  jc:=by rintro _ _ _ _ ⟨rfl,_⟩;rfl
  lg h _:=h
  lh h _:=h
  j8 h _:=h
  lV h _:=h.1
  kF:=by rintro _ _ _ _ ⟨rfl,_⟩;simp [Value.oneCell']
  jA _:=⟨rfl,rfl⟩
instance:Flat g6:=⟨fun h=>⟨h,rfl⟩⟩
structure i7 where
  res:Int
  jz:Int
  nD:Int
  kH:Int
  py:Int
  mb:Int
  deriving DecidableEq
instance:ia i7 where
  ty:=174
  sz:=6
  zero:=⟨0,0,0,0,0,0⟩
  zc:=[.int .i64 0,.int .i64 0,.int .i64 0,.int .i64 0,.int .i64 0,.int .i64 0]
  pos:=by omega
  rd _ _ cs x:=cs=[.int .i64 x.res,.int .i64 x.jz,.int .i64 x.nD,.int .i64 x.kH,.int .i64 x.py,.int .i64 x.mb]
  own _ cs F x:=cs=[.int .i64 x.res,.int .i64 x.jz,.int .i64 x.nD,.int .i64 x.kH,.int .i64 x.py,.int .i64 x.mb]∧F=[]
  lW:=by rintro _ _ _ _ rfl;rfl
  jc:=by rintro _ _ _ _ ⟨rfl,_⟩;rfl
  lg h _:=h
  lh h _:=h
  j8 h _:=h
  lV h _:=h.1
  kF:=by rintro _ _ _ _ ⟨rfl,_⟩;simp [Value.oneCell']
  jA _:=⟨rfl,rfl⟩
instance:Flat i7:=⟨fun h=>⟨h,rfl⟩⟩
structure jw where
  Q6:Int
  n:Int
  deriving DecidableEq
instance:ia jw where
  ty:=193
  sz:=2
  zero:=⟨0,0⟩
  zc:=[.int .i64 0,.int .i64 0]
  pos:=by omega
  rd _ _ cs x:=cs=[.int .i64 x.Q6,.int .i64 x.n]
  own _ cs F x:=cs=[.int .i64 x.Q6,.int .i64 x.n]∧F=[]
  lW:=by rintro _ _ _ _ rfl;rfl
  jc:=by rintro _ _ _ _ ⟨rfl,_⟩;rfl
  lg h _:=h
  lh h _:=h
  j8 h _:=h
  lV h _:=h.1
  kF:=by rintro _ _ _ _ ⟨rfl,_⟩;simp [Value.oneCell']
  jA _:=⟨rfl,rfl⟩
instance:Flat jw:=⟨fun h=>⟨h,rfl⟩⟩
structure kj where
  so:List Int
  deriving DecidableEq
instance:ia kj where
  ty:=39
  sz:=1
  zero:=⟨[]⟩
  zc:=[.slice none 0 0]
  pos:=by omega
  rd S w cs x:=∃ (a0:Option Addr) (c0:Nat),cs=[.slice a0 x.so.length c0]∧iV S w a0 c0 x.so
  own w cs F x:=∃ (a0:Option Addr) (c0:Nat),cs=[.slice a0 x.so.length c0]∧iP [sl a0 c0 x.so] w F
  lW:=by rintro _ _ _ _ ⟨a0,c0,rfl,_⟩;rfl
  jc:=by rintro _ _ _ _ ⟨a0,c0,rfl,_⟩;rfl
  lg:=by rintro _ _ _ _ _ ⟨a0,c0,rfl,h0⟩ hk;exact ⟨a0,c0,rfl,h0.lE hk⟩
  lh:=by rintro _ _ _ _ _ ⟨a0,c0,rfl,h0⟩ hk;exact ⟨a0,c0,rfl,h0.mono hk⟩
  j8:=by rintro _ _ _ _ _ ⟨a0,c0,rfl,h⟩ hk;exact ⟨a0,c0,rfl,h.frame hk⟩
  lV:=by rintro _ _ _ _ _ ⟨a0,c0,rfl,h⟩ hk;exact ⟨a0,c0,rfl,iP.nn h 0 rfl hk⟩
  kF:=by rintro _ _ _ _ ⟨a0,c0,rfl,_⟩;simp [Value.oneCell']
  jA _:=⟨none,0,rfl,⟨[],[],rfl,.inl ⟨rfl,rfl,rfl,rfl⟩,rfl⟩⟩
structure iO where
  QQ:kj
  own:List Int
  jq:gT
  deriving DecidableEq
instance:ia iO where
  ty:=108
  sz:=5
  zero:=⟨⟨[]⟩,[],⟨0,0,0⟩⟩
  zc:=[.slice none 0 0,.slice none 0 0,.int .i64 0,.int .i64 0,.int .i64 0]
  pos:=by omega
  rd S w cs x:=∃ (a0:Option Addr) (c0:Nat) (a1:Option Addr) (c1:Nat),cs=[.slice a0 x.QQ.so.length c0,.slice a1 x.own.length c1,.int .i64 x.jq.bh,.int .i64 x.jq.gS,.int .i64 x.jq.gW]∧iV S w a0 c0 x.QQ.so∧iV S w a1 c1 x.own
  own w cs F x:=∃ (a0:Option Addr) (c0:Nat) (a1:Option Addr) (c1:Nat),cs=[.slice a0 x.QQ.so.length c0,.slice a1 x.own.length c1,.int .i64 x.jq.bh,.int .i64 x.jq.gS,.int .i64 x.jq.gW]∧iP [sl a0 c0 x.QQ.so,sl a1 c1 x.own] w F
  lW:=by rintro _ _ _ _ ⟨a0,c0,a1,c1,rfl,_⟩;rfl
  jc:=by rintro _ _ _ _ ⟨a0,c0,a1,c1,rfl,_⟩;rfl
  lg:=by rintro _ _ _ _ _ ⟨a0,c0,a1,c1,rfl,h0,h1⟩ hk;exact ⟨a0,c0,a1,c1,rfl,h0.lE hk,h1.lE hk⟩
  lh:=by rintro _ _ _ _ _ ⟨a0,c0,a1,c1,rfl,h0,h1⟩ hk;exact ⟨a0,c0,a1,c1,rfl,h0.mono hk,h1.mono hk⟩
  j8:=by rintro _ _ _ _ _ ⟨a0,c0,a1,c1,rfl,h⟩ hk;exact ⟨a0,c0,a1,c1,rfl,h.frame hk⟩
  lV:=by rintro _ _ _ _ _ ⟨a0,c0,a1,c1,rfl,h⟩ hk;exact ⟨a0,c0,a1,c1,rfl,iP.nn h 0 rfl hk,iP.nn h 1 rfl hk⟩
  kF:=by rintro _ _ _ _ ⟨a0,c0,a1,c1,rfl,_⟩;simp [Value.oneCell']
  jA _:=⟨none,0,none,0,rfl,⟨[],[],rfl,.inl ⟨rfl,rfl,rfl,rfl⟩,⟨[],[],rfl,.inl ⟨rfl,rfl,rfl,rfl⟩,rfl⟩⟩⟩
structure iB where
  list:List g6
  deriving DecidableEq
instance:ia iB where
  ty:=228
  sz:=1
  zero:=⟨[]⟩
  zc:=[.slice none 0 0]
  pos:=by omega
  rd S w cs x:=∃ (a0:Option Addr) (c0:Nat),cs=[.slice a0 x.list.length c0]∧iV S w a0 c0 x.list
  own w cs F x:=∃ (a0:Option Addr) (c0:Nat),cs=[.slice a0 x.list.length c0]∧iP [sl a0 c0 x.list] w F
  lW:=by rintro _ _ _ _ ⟨a0,c0,rfl,_⟩;rfl
  jc:=by rintro _ _ _ _ ⟨a0,c0,rfl,_⟩;rfl
  lg:=by rintro _ _ _ _ _ ⟨a0,c0,rfl,h0⟩ hk;exact ⟨a0,c0,rfl,h0.lE hk⟩
  lh:=by rintro _ _ _ _ _ ⟨a0,c0,rfl,h0⟩ hk;exact ⟨a0,c0,rfl,h0.mono hk⟩
  j8:=by rintro _ _ _ _ _ ⟨a0,c0,rfl,h⟩ hk;exact ⟨a0,c0,rfl,h.frame hk⟩
  lV:=by rintro _ _ _ _ _ ⟨a0,c0,rfl,h⟩ hk;exact ⟨a0,c0,rfl,iP.nn h 0 rfl hk⟩
  kF:=by rintro _ _ _ _ ⟨a0,c0,rfl,_⟩;simp [Value.oneCell']
  jA _:=⟨none,0,rfl,⟨[],[],rfl,.inl ⟨rfl,rfl,rfl,rfl⟩,rfl⟩⟩
structure gE where
  Q3:Int
  py:Int
  box:Int
  res:Int
  iF:Int
  bh:Int
  QW:Int
  iK:Int
  iG:Int
  mark:Bool
  gZ:List Int
  QV:List Int
  QU:List jw
  deriving DecidableEq
instance:ia gE where
  ty:=101
  sz:=13
  zero:=⟨0,0,0,0,0,0,0,0,0,false,[],[],[]⟩
  zc:=[.int .i64 0,.int .i64 0,.int .i64 0,.int .i64 0,.int .i64 0,.int .i64 0,.int .i64 0,.int .i64 0,.int .i64 0,.bool false,.slice none 0 0,.slice none 0 0,.slice none 0 0]
  pos:=by omega
  rd S w cs x:=∃ (a10:Option Addr) (c10:Nat) (a11:Option Addr) (c11:Nat) (a12:Option Addr) (c12:Nat),cs=[.int .i64 x.Q3,.int .i64 x.py,.int .i64 x.box,.int .i64 x.res,.int .i64 x.iF,.int .i64 x.bh,.int .i64 x.QW,.int .i64 x.iK,.int .i64 x.iG,.bool x.mark,.slice a10 x.gZ.length c10,.slice a11 x.QV.length c11,.slice a12 x.QU.length c12]∧iV S w a10 c10 x.gZ∧iV S w a11 c11 x.QV∧iV S w a12 c12 x.QU
  own w cs F x:=∃ (a10:Option Addr) (c10:Nat) (a11:Option Addr) (c11:Nat) (a12:Option Addr) (c12:Nat),cs=[.int .i64 x.Q3,.int .i64 x.py,.int .i64 x.box,.int .i64 x.res,.int .i64 x.iF,.int .i64 x.bh,.int .i64 x.QW,.int .i64 x.iK,.int .i64 x.iG,.bool x.mark,.slice a10 x.gZ.length c10,.slice a11 x.QV.length c11,.slice a12 x.QU.length c12]∧iP [sl a10 c10 x.gZ,sl a11 c11 x.QV,sl a12 c12 x.QU] w F
  lW:=by rintro _ _ _ _ ⟨a10,c10,a11,c11,a12,c12,rfl,_⟩;rfl
  jc:=by rintro _ _ _ _ ⟨a10,c10,a11,c11,a12,c12,rfl,_⟩;rfl
  lg:=by rintro _ _ _ _ _ ⟨a10,c10,a11,c11,a12,c12,rfl,h10,h11,h12⟩ hk;exact ⟨a10,c10,a11,c11,a12,c12,rfl,h10.lE hk,h11.lE hk,h12.lE hk⟩
  lh:=by rintro _ _ _ _ _ ⟨a10,c10,a11,c11,a12,c12,rfl,h10,h11,h12⟩ hk;exact ⟨a10,c10,a11,c11,a12,c12,rfl,h10.mono hk,h11.mono hk,h12.mono hk⟩
  j8:=by rintro _ _ _ _ _ ⟨a10,c10,a11,c11,a12,c12,rfl,h⟩ hk;exact ⟨a10,c10,a11,c11,a12,c12,rfl,h.frame hk⟩
  lV:=by rintro _ _ _ _ _ ⟨a10,c10,a11,c11,a12,c12,rfl,h⟩ hk;exact ⟨a10,c10,a11,c11,a12,c12,rfl,iP.nn h 0 rfl hk,iP.nn h 1 rfl hk,iP.nn h 2 rfl hk⟩
  kF:=by rintro _ _ _ _ ⟨a10,c10,a11,c11,a12,c12,rfl,_⟩;simp [Value.oneCell']
  jA _:=⟨none,0,none,0,none,0,rfl,⟨[],[],rfl,.inl ⟨rfl,rfl,rfl,rfl⟩,⟨[],[],rfl,.inl ⟨rfl,rfl,rfl,rfl⟩,⟨[],[],rfl,.inl ⟨rfl,rfl,rfl,rfl⟩,rfl⟩⟩⟩⟩
structure ka where
  QS:Int
  Q0:Int
  QT:Int
  gQ:List Int
  deriving DecidableEq
instance:ia ka where
  ty:=43
  sz:=4
  zero:=⟨0,0,0,[]⟩
  zc:=[.int .i64 0,.int .i64 0,.int .i64 0,.slice none 0 0]
  pos:=by omega
  rd S w cs x:=∃ (a3:Option Addr) (c3:Nat),cs=[.int .i64 x.QS,.int .i64 x.Q0,.int .i64 x.QT,.slice a3 x.gQ.length c3]∧iV S w a3 c3 x.gQ
  own w cs F x:=∃ (a3:Option Addr) (c3:Nat),cs=[.int .i64 x.QS,.int .i64 x.Q0,.int .i64 x.QT,.slice a3 x.gQ.length c3]∧iP [sl a3 c3 x.gQ] w F
  lW:=by rintro _ _ _ _ ⟨a3,c3,rfl,_⟩;rfl
  jc:=by rintro _ _ _ _ ⟨a3,c3,rfl,_⟩;rfl
  lg:=by rintro _ _ _ _ _ ⟨a3,c3,rfl,h3⟩ hk;exact ⟨a3,c3,rfl,h3.lE hk⟩
  lh:=by rintro _ _ _ _ _ ⟨a3,c3,rfl,h3⟩ hk;exact ⟨a3,c3,rfl,h3.mono hk⟩
  j8:=by rintro _ _ _ _ _ ⟨a3,c3,rfl,h⟩ hk;exact ⟨a3,c3,rfl,h.frame hk⟩
  lV:=by rintro _ _ _ _ _ ⟨a3,c3,rfl,h⟩ hk;exact ⟨a3,c3,rfl,iP.nn h 0 rfl hk⟩
  kF:=by rintro _ _ _ _ ⟨a3,c3,rfl,_⟩;simp [Value.oneCell']
  jA _:=⟨none,0,rfl,⟨[],[],rfl,.inl ⟨rfl,rfl,rfl,rfl⟩,rfl⟩⟩
structure gV where
  ag:List gE
  gc:ka
  deriving DecidableEq
instance:ia gV where
  ty:=45
  sz:=5
  zero:=⟨[],⟨0,0,0,[]⟩⟩
  zc:=[.slice none 0 0,.int .i64 0,.int .i64 0,.int .i64 0,.slice none 0 0]
  pos:=by omega
  rd S w cs x:=∃ (a0:Option Addr) (c0:Nat) (a4:Option Addr) (c4:Nat),cs=[.slice a0 x.ag.length c0,.int .i64 x.gc.QS,.int .i64 x.gc.Q0,.int .i64 x.gc.QT,.slice a4 x.gc.gQ.length c4]∧iV S w a0 c0 x.ag∧iV S w a4 c4 x.gc.gQ
  own w cs F x:=∃ (a0:Option Addr) (c0:Nat) (a4:Option Addr) (c4:Nat),cs=[.slice a0 x.ag.length c0,.int .i64 x.gc.QS,.int .i64 x.gc.Q0,.int .i64 x.gc.QT,.slice a4 x.gc.gQ.length c4]∧iP [sl a0 c0 x.ag,sl a4 c4 x.gc.gQ] w F
  lW:=by rintro _ _ _ _ ⟨a0,c0,a4,c4,rfl,_⟩;rfl
  jc:=by rintro _ _ _ _ ⟨a0,c0,a4,c4,rfl,_⟩;rfl
  lg:=by rintro _ _ _ _ _ ⟨a0,c0,a4,c4,rfl,h0,h4⟩ hk;exact ⟨a0,c0,a4,c4,rfl,h0.lE hk,h4.lE hk⟩
  lh:=by rintro _ _ _ _ _ ⟨a0,c0,a4,c4,rfl,h0,h4⟩ hk;exact ⟨a0,c0,a4,c4,rfl,h0.mono hk,h4.mono hk⟩
  j8:=by rintro _ _ _ _ _ ⟨a0,c0,a4,c4,rfl,h⟩ hk;exact ⟨a0,c0,a4,c4,rfl,h.frame hk⟩
  lV:=by rintro _ _ _ _ _ ⟨a0,c0,a4,c4,rfl,h⟩ hk;exact ⟨a0,c0,a4,c4,rfl,iP.nn h 0 rfl hk,iP.nn h 1 rfl hk⟩
  kF:=by rintro _ _ _ _ ⟨a0,c0,a4,c4,rfl,_⟩;simp [Value.oneCell']
  jA _:=⟨none,0,none,0,rfl,⟨[],[],rfl,.inl ⟨rfl,rfl,rfl,rfl⟩,⟨[],[],rfl,.inl ⟨rfl,rfl,rfl,rfl⟩,rfl⟩⟩⟩
structure cd where
  QQ:kj
  own:List Int
  QR:List g6
  heap:gV
  gR:List i7
  QZ:Int
  QY:Int
  gP:gT
  hY:Int
  QX:Int
  deriving DecidableEq
instance:ia cd where
  ty:=50
  sz:=16
  zero:=⟨⟨[]⟩,[],[],⟨[],⟨0,0,0,[]⟩⟩,[],0,0,⟨0,0,0⟩,0,0⟩
  zc:=[.slice none 0 0,.slice none 0 0,.slice none 0 0,.slice none 0 0,.int .i64 0,.int .i64 0,.int .i64 0,.slice none 0 0,.slice none 0 0,.int .i64 0,.int .i64 0,.int .i64 0,.int .i64 0,.int .i64 0,.int .i64 0,.int .i64 0]
  pos:=by omega
  rd S w cs x:=∃ (a0:Option Addr) (c0:Nat) (a1:Option Addr) (c1:Nat) (a2:Option Addr) (c2:Nat) (a3:Option Addr) (c3:Nat) (a7:Option Addr) (c7:Nat) (a8:Option Addr) (c8:Nat),cs=[.slice a0 x.QQ.so.length c0,.slice a1 x.own.length c1,.slice a2 x.QR.length c2,.slice a3 x.heap.ag.length c3,.int .i64 x.heap.gc.QS,.int .i64 x.heap.gc.Q0,.int .i64 x.heap.gc.QT,.slice a7 x.heap.gc.gQ.length c7,.slice a8 x.gR.length c8,.int .i64 x.QZ,.int .i64 x.QY,.int .i64 x.gP.bh,.int .i64 x.gP.gS,.int .i64 x.gP.gW,.int .i64 x.hY,.int .i64 x.QX]∧iV S w a0 c0 x.QQ.so∧iV S w a1 c1 x.own∧iV S w a2 c2 x.QR∧iV S w a3 c3 x.heap.ag∧iV S w a7 c7 x.heap.gc.gQ∧iV S w a8 c8 x.gR
  own w cs F x:=∃ (a0:Option Addr) (c0:Nat) (a1:Option Addr) (c1:Nat) (a2:Option Addr) (c2:Nat) (a3:Option Addr) (c3:Nat) (a7:Option Addr) (c7:Nat) (a8:Option Addr) (c8:Nat),cs=[.slice a0 x.QQ.so.length c0,.slice a1 x.own.length c1,.slice a2 x.QR.length c2,.slice a3 x.heap.ag.length c3,.int .i64 x.heap.gc.QS,.int .i64 x.heap.gc.Q0,.int .i64 x.heap.gc.QT,.slice a7 x.heap.gc.gQ.length c7,.slice a8 x.gR.length c8,.int .i64 x.QZ,.int .i64 x.QY,.int .i64 x.gP.bh,.int .i64 x.gP.gS,.int .i64 x.gP.gW,.int .i64 x.hY,.int .i64 x.QX]∧iP [sl a0 c0 x.QQ.so,sl a1 c1 x.own,sl a2 c2 x.QR,sl a3 c3 x.heap.ag,sl a7 c7 x.heap.gc.gQ,sl a8 c8 x.gR] w F
  lW:=by rintro _ _ _ _ ⟨a0,c0,a1,c1,a2,c2,a3,c3,a7,c7,a8,c8,rfl,_⟩;rfl
  jc:=by rintro _ _ _ _ ⟨a0,c0,a1,c1,a2,c2,a3,c3,a7,c7,a8,c8,rfl,_⟩;rfl
  lg:=by rintro _ _ _ _ _ ⟨a0,c0,a1,c1,a2,c2,a3,c3,a7,c7,a8,c8,rfl,h0,h1,h2,h3,h7,h8⟩ hk;exact ⟨a0,c0,a1,c1,a2,c2,a3,c3,a7,c7,a8,c8,rfl,h0.lE hk,h1.lE hk,h2.lE hk,h3.lE hk,h7.lE hk,h8.lE hk⟩
  lh:=by rintro _ _ _ _ _ ⟨a0,c0,a1,c1,a2,c2,a3,c3,a7,c7,a8,c8,rfl,h0,h1,h2,h3,h7,h8⟩ hk;exact ⟨a0,c0,a1,c1,a2,c2,a3,c3,a7,c7,a8,c8,rfl,h0.mono hk,h1.mono hk,h2.mono hk,h3.mono hk,h7.mono hk,h8.mono hk⟩
  j8:=by rintro _ _ _ _ _ ⟨a0,c0,a1,c1,a2,c2,a3,c3,a7,c7,a8,c8,rfl,h⟩ hk;exact ⟨a0,c0,a1,c1,a2,c2,a3,c3,a7,c7,a8,c8,rfl,h.frame hk⟩
  lV:=by rintro _ _ _ _ _ ⟨a0,c0,a1,c1,a2,c2,a3,c3,a7,c7,a8,c8,rfl,h⟩ hk;exact ⟨a0,c0,a1,c1,a2,c2,a3,c3,a7,c7,a8,c8,rfl,iP.nn h 0 rfl hk,iP.nn h 1 rfl hk,iP.nn h 2 rfl hk,iP.nn h 3 rfl hk,iP.nn h 4 rfl hk,iP.nn h 5 rfl hk⟩
  kF:=by rintro _ _ _ _ ⟨a0,c0,a1,c1,a2,c2,a3,c3,a7,c7,a8,c8,rfl,_⟩;simp [Value.oneCell']
  jA _:=⟨none,0,none,0,none,0,none,0,none,0,none,0,rfl,⟨[],[],rfl,.inl ⟨rfl,rfl,rfl,rfl⟩,⟨[],[],rfl,.inl ⟨rfl,rfl,rfl,rfl⟩,⟨[],[],rfl,.inl ⟨rfl,rfl,rfl,rfl⟩,⟨[],[],rfl,.inl ⟨rfl,rfl,rfl,rfl⟩,⟨[],[],rfl,.inl ⟨rfl,rfl,rfl,rfl⟩,⟨[],[],rfl,.inl ⟨rfl,rfl,rfl,rfl⟩,rfl⟩⟩⟩⟩⟩⟩⟩
structure g7 where
  Q1:Int
  parts:List cd
  deriving DecidableEq
instance:ia g7 where
  ty:=26
  sz:=2
  zero:=⟨0,[]⟩
  zc:=[.int .i64 0,.slice none 0 0]
  pos:=by omega
  rd S w cs x:=∃ (a1:Option Addr) (c1:Nat),cs=[.int .i64 x.Q1,.slice a1 x.parts.length c1]∧iV S w a1 c1 x.parts
  own w cs F x:=∃ (a1:Option Addr) (c1:Nat),cs=[.int .i64 x.Q1,.slice a1 x.parts.length c1]∧iP [sl a1 c1 x.parts] w F
  lW:=by rintro _ _ _ _ ⟨a1,c1,rfl,_⟩;rfl
  jc:=by rintro _ _ _ _ ⟨a1,c1,rfl,_⟩;rfl
  lg:=by rintro _ _ _ _ _ ⟨a1,c1,rfl,h1⟩ hk;exact ⟨a1,c1,rfl,h1.lE hk⟩
  lh:=by rintro _ _ _ _ _ ⟨a1,c1,rfl,h1⟩ hk;exact ⟨a1,c1,rfl,h1.mono hk⟩
  j8:=by rintro _ _ _ _ _ ⟨a1,c1,rfl,h⟩ hk;exact ⟨a1,c1,rfl,h.frame hk⟩
  lV:=by rintro _ _ _ _ _ ⟨a1,c1,rfl,h⟩ hk;exact ⟨a1,c1,rfl,iP.nn h 0 rfl hk⟩
  kF:=by rintro _ _ _ _ ⟨a1,c1,rfl,_⟩;simp [Value.oneCell']
  jA _:=⟨none,0,rfl,⟨[],[],rfl,.inl ⟨rfl,rfl,rfl,rfl⟩,rfl⟩⟩
structure im where
  b:List U8
  i:Int
  h:Int
  deriving DecidableEq
structure jS where
  QQ:kj
  own:List Int
  QR:Hd
  heap:gV
  gR:List i7
  QZ:Int
  QY:Int
  gP:gT
  hY:Int
  QX:Int
instance:ia jS where
  ty:=50
  sz:=16
  zero:=⟨⟨[]⟩,[],⟨none,0,0⟩,⟨[],⟨0,0,0,[]⟩⟩,[],0,0,⟨0,0,0⟩,0,0⟩
  zc:=[.slice none 0 0,.slice none 0 0,.slice none 0 0,.slice none 0 0,.int .i64 0,.int .i64 0,.int .i64 0,.slice none 0 0,.slice none 0 0,.int .i64 0,.int .i64 0,.int .i64 0,.int .i64 0,.int .i64 0,.int .i64 0,.int .i64 0]
  pos:=by omega
  rd S w cs x:=∃ (a0:Option Addr) (c0:Nat) (a1:Option Addr) (c1:Nat) (a3:Option Addr) (c3:Nat) (a7:Option Addr) (c7:Nat) (a8:Option Addr) (c8:Nat),cs=[.slice a0 x.QQ.so.length c0,.slice a1 x.own.length c1,.slice x.QR.a x.QR.n x.QR.c,.slice a3 x.heap.ag.length c3,.int .i64 x.heap.gc.QS,.int .i64 x.heap.gc.Q0,.int .i64 x.heap.gc.QT,.slice a7 x.heap.gc.gQ.length c7,.slice a8 x.gR.length c8,.int .i64 x.QZ,.int .i64 x.QY,.int .i64 x.gP.bh,.int .i64 x.gP.gS,.int .i64 x.gP.gW,.int .i64 x.hY,.int .i64 x.QX]∧iV S w a0 c0 x.QQ.so∧iV S w a1 c1 x.own∧iV S w a3 c3 x.heap.ag∧iV S w a7 c7 x.heap.gc.gQ∧iV S w a8 c8 x.gR
  own w cs F x:=∃ (a0:Option Addr) (c0:Nat) (a1:Option Addr) (c1:Nat) (a3:Option Addr) (c3:Nat) (a7:Option Addr) (c7:Nat) (a8:Option Addr) (c8:Nat),cs=[.slice a0 x.QQ.so.length c0,.slice a1 x.own.length c1,.slice x.QR.a x.QR.n x.QR.c,.slice a3 x.heap.ag.length c3,.int .i64 x.heap.gc.QS,.int .i64 x.heap.gc.Q0,.int .i64 x.heap.gc.QT,.slice a7 x.heap.gc.gQ.length c7,.slice a8 x.gR.length c8,.int .i64 x.QZ,.int .i64 x.QY,.int .i64 x.gP.bh,.int .i64 x.gP.gS,.int .i64 x.gP.gW,.int .i64 x.hY,.int .i64 x.QX]∧iP [sl a0 c0 x.QQ.so,sl a1 c1 x.own,sl a3 c3 x.heap.ag,sl a7 c7 x.heap.gc.gQ,sl a8 c8 x.gR] w F
  lW:=by rintro _ _ _ _ ⟨a0,c0,a1,c1,a3,c3,a7,c7,a8,c8,rfl,_⟩;rfl
  jc:=by rintro _ _ _ _ ⟨a0,c0,a1,c1,a3,c3,a7,c7,a8,c8,rfl,_⟩;rfl
  lg:=by rintro _ _ _ _ _ ⟨a0,c0,a1,c1,a3,c3,a7,c7,a8,c8,rfl,h0,h1,h3,h7,h8⟩ hk;exact ⟨a0,c0,a1,c1,a3,c3,a7,c7,a8,c8,rfl,h0.lE hk,h1.lE hk,h3.lE hk,h7.lE hk,h8.lE hk⟩
  lh:=by rintro _ _ _ _ _ ⟨a0,c0,a1,c1,a3,c3,a7,c7,a8,c8,rfl,h0,h1,h3,h7,h8⟩ hk;exact ⟨a0,c0,a1,c1,a3,c3,a7,c7,a8,c8,rfl,h0.mono hk,h1.mono hk,h3.mono hk,h7.mono hk,h8.mono hk⟩
  j8:=by rintro _ _ _ _ _ ⟨a0,c0,a1,c1,a3,c3,a7,c7,a8,c8,rfl,h⟩ hk;exact ⟨a0,c0,a1,c1,a3,c3,a7,c7,a8,c8,rfl,h.frame hk⟩
  lV:=by rintro _ _ _ _ _ ⟨a0,c0,a1,c1,a3,c3,a7,c7,a8,c8,rfl,h⟩ hk;exact ⟨a0,c0,a1,c1,a3,c3,a7,c7,a8,c8,rfl,iP.nn h 0 rfl hk,iP.nn h 1 rfl hk,iP.nn h 2 rfl hk,iP.nn h 3 rfl hk,iP.nn h 4 rfl hk⟩
  kF:=by rintro _ _ _ _ ⟨a0,c0,a1,c1,a3,c3,a7,c7,a8,c8,rfl,_⟩;simp [Value.oneCell']
  jA _:=⟨none,0,none,0,none,0,none,0,none,0,rfl,⟨[],[],rfl,.inl ⟨rfl,rfl,rfl,rfl⟩,⟨[],[],rfl,.inl ⟨rfl,rfl,rfl,rfl⟩,⟨[],[],rfl,.inl ⟨rfl,rfl,rfl,rfl⟩,⟨[],[],rfl,.inl ⟨rfl,rfl,rfl,rfl⟩,⟨[],[],rfl,.inl ⟨rfl,rfl,rfl,rfl⟩,rfl⟩⟩⟩⟩⟩⟩
structure kl where
  list:Hd
instance:ia kl where
  ty:=228
  sz:=1
  zero:=⟨⟨none,0,0⟩⟩
  zc:=[.slice none 0 0]
  pos:=by omega
  rd _ _ cs x:=cs=[.slice x.list.a x.list.n x.list.c]
  own _ cs F x:=cs=[.slice x.list.a x.list.n x.list.c]∧F=[]
  lW:=by rintro _ _ _ _ rfl;rfl
  jc:=by rintro _ _ _ _ ⟨rfl,_⟩;rfl
  lg h _:=h
  lh h _:=h
  j8 h _:=h
  lV h _:=h.1
  kF:=by rintro _ _ _ _ ⟨rfl,_⟩;simp [Value.oneCell']
  jA _:=⟨rfl,rfl⟩
instance:Flat kl:=⟨fun h=>⟨h,rfl⟩⟩
structure qt where
  Q3:Int
  py:Int
  box:Int
  res:Int
  iF:Int
  bh:Int
  QW:Int
  iK:Int
  iG:Int
  mark:Bool
  deriving DecidableEq
instance:ia qt where
  ty:=101
  sz:=13
  zero:=⟨0,0,0,0,0,0,0,0,0,false⟩
  zc:=[.int .i64 0,.int .i64 0,.int .i64 0,.int .i64 0,.int .i64 0,.int .i64 0,.int .i64 0,.int .i64 0,.int .i64 0,.bool false,.slice none 0 0,.slice none 0 0,.slice none 0 0]
  pos:=by omega
  rd _ _ cs x:=∃ (a0:Option Addr) (n0 c0:Nat) (a1:Option Addr) (n1 c1:Nat) (a2:Option Addr) (n2 c2:Nat),cs=[.int .i64 x.Q3,.int .i64 x.py,.int .i64 x.box,.int .i64 x.res,.int .i64 x.iF,.int .i64 x.bh,.int .i64 x.QW,.int .i64 x.iK,.int .i64 x.iG,.bool x.mark,.slice a0 n0 c0,.slice a1 n1 c1,.slice a2 n2 c2]
  own _ cs F x:=(∃ (a0:Option Addr) (n0 c0:Nat) (a1:Option Addr) (n1 c1:Nat) (a2:Option Addr) (n2 c2:Nat),cs=[.int .i64 x.Q3,.int .i64 x.py,.int .i64 x.box,.int .i64 x.res,.int .i64 x.iF,.int .i64 x.bh,.int .i64 x.QW,.int .i64 x.iK,.int .i64 x.iG,.bool x.mark,.slice a0 n0 c0,.slice a1 n1 c1,.slice a2 n2 c2])∧F=[]
  lW:=by rintro _ _ _ _ ⟨a0,n0,c0,a1,n1,c1,a2,n2,c2,rfl⟩;rfl
  jc:=by rintro _ _ _ _ ⟨⟨a0,n0,c0,a1,n1,c1,a2,n2,c2,rfl⟩,_⟩;rfl
  lg h _:=h
  lh h _:=h
  j8 h _:=h
  lV h _:=h.1
  kF:=by rintro _ _ _ _ ⟨⟨a0,n0,c0,a1,n1,c1,a2,n2,c2,rfl⟩,_⟩;simp [Value.oneCell']
  jA _:=⟨⟨_,_,_,_,_,_,_,_,_,rfl⟩,rfl⟩
def kr (l:List cd):List (List g6):=l.map fun p=>p.QR
def jf (l:List iB):List (List g6):=l.map fun t=>t.list
def j6 (l:List cd):List iB:=(kr l).map iB.mk
def nV (p:cd) (t:List g6):cd:=cd.mk p.QQ p.own t p.heap p.gR p.QZ p.QY p.gP p.hY p.QX
def je (l:List cd) (ts:List (List g6)):List cd:=List.zipWith nV l ts
def gd (b:Bool):Option Unit:=bif b then some () else none
class Fit (α:Type) where
  fit:α→Prop
instance:Fit Int:=⟨fun x=>-9223372036854775808≤x∧x≤9223372036854775807⟩
instance:Fit Bool:=⟨fun _=>True⟩
instance:Fit U8:=⟨fun x=>0≤x.v∧x.v≤255⟩
instance {α:Type} [Fit α]:Fit (List α):=⟨fun l=>l.length≤maxLen∧∀ y,y ∈ l→Fit.fit y⟩
instance:Fit gT:=⟨fun x=>Fit.fit x.bh∧Fit.fit x.gS∧Fit.fit x.gW⟩
instance:Fit iA:=⟨fun x=>Fit.fit x.py∧Fit.fit x.a∧Fit.fit x.b∧Fit.fit x.c∧Fit.fit x.d∧Fit.fit x.e⟩
instance:Fit ja:=⟨fun x=>Fit.fit x.py∧Fit.fit x.Q5∧Fit.fit x.lj∧Fit.fit x.call⟩
instance:Fit il:=⟨fun x=>Fit.fit x.code∧Fit.fit x.Q7⟩
instance:Fit g6:=⟨fun x=>Fit.fit x.Q2∧Fit.fit x.Q4∧Fit.fit x.iw⟩
instance:Fit i7:=⟨fun x=>Fit.fit x.res∧Fit.fit x.jz∧Fit.fit x.nD∧Fit.fit x.kH∧Fit.fit x.py∧Fit.fit x.mb⟩
instance:Fit jw:=⟨fun x=>Fit.fit x.Q6∧Fit.fit x.n⟩
instance:Fit kj:=⟨fun x=>Fit.fit x.so⟩
instance:Fit iO:=⟨fun x=>Fit.fit x.QQ∧Fit.fit x.own∧Fit.fit x.jq⟩
instance:Fit iB:=⟨fun x=>Fit.fit x.list⟩
instance:Fit gE:=⟨fun x=>Fit.fit x.Q3∧Fit.fit x.py∧Fit.fit x.box∧Fit.fit x.res∧Fit.fit x.iF∧Fit.fit x.bh∧Fit.fit x.QW∧Fit.fit x.iK∧Fit.fit x.iG∧Fit.fit x.mark∧Fit.fit x.gZ∧Fit.fit x.QV∧Fit.fit x.QU⟩
instance:Fit ka:=⟨fun x=>Fit.fit x.QS∧Fit.fit x.Q0∧Fit.fit x.QT∧Fit.fit x.gQ⟩
instance:Fit gV:=⟨fun x=>Fit.fit x.ag∧Fit.fit x.gc⟩
instance:Fit cd:=⟨fun x=>Fit.fit x.QQ∧Fit.fit x.own∧Fit.fit x.QR∧Fit.fit x.heap∧Fit.fit x.gR∧Fit.fit x.QZ∧Fit.fit x.QY∧Fit.fit x.gP∧Fit.fit x.hY∧Fit.fit x.QX⟩
instance:Fit g7:=⟨fun x=>Fit.fit x.Q1∧Fit.fit x.parts⟩
instance:Fit im:=⟨fun x=>Fit.fit x.b∧Fit.fit x.i∧Fit.fit x.h⟩
end Go.Kx
