import Derived.Test.YtdlodpchnaojhaaGreatOwn
namespace Go.Kx
open Go Go.RowKit
set_option linter.unusedVariables false
set_option linter.unusedSimpArgs false
instance:hD Int where
  ty:=3
  sz:=1
  zero:=0
  zc:=[.int .i64 0]
  pos:=by omega
  rd _ _ cs x:=cs=[.int .i64 x]
  own _ cs F x:=cs=[.int .i64 x]∧F=[]
  kQ:=by rintro _ _ _ _ rfl;rfl
  iU:=by rintro _ _ _ _ ⟨rfl,_⟩;rfl
  km h _:=h
  kh h _:=h
  jB h _:=h
  kT h _:=h.1
  ke:=by rintro _ _ _ _ ⟨rfl,_⟩;simp [Value.oneCell']
  jq _:=⟨rfl,rfl⟩
instance:Flat Int:=⟨fun h=>⟨h,rfl⟩⟩
instance:hD Bool where
  ty:=4
  sz:=1
  zero:=false
  zc:=[.bool false]
  pos:=by omega
  rd _ _ cs x:=cs=[.bool x]
  own _ cs F x:=cs=[.bool x]∧F=[]
  kQ:=by rintro _ _ _ _ rfl;rfl
  iU:=by rintro _ _ _ _ ⟨rfl,_⟩;rfl
  km h _:=h
  kh h _:=h
  jB h _:=h
  kT h _:=h.1
  ke:=by rintro _ _ _ _ ⟨rfl,_⟩;simp [Value.oneCell']
  jq _:=⟨rfl,rfl⟩
instance:Flat Bool:=⟨fun h=>⟨h,rfl⟩⟩
abbrev M4:=ByteArray
instance:hD M4 where
  ty:=9
  sz:=1
  zero:=⟨#[]⟩
  zc:=[.string ⟨#[]⟩]
  pos:=by omega
  rd _ _ cs x:=cs=[.string x]
  own _ cs F x:=cs=[.string x]∧F=[]
  kQ:=by rintro _ _ _ _ rfl;rfl
  iU:=by rintro _ _ _ _ ⟨rfl,_⟩;rfl
  km h _:=h
  kh h _:=h
  jB h _:=h
  kT h _:=h.1
  ke:=by rintro _ _ _ _ ⟨rfl,_⟩;simp [Value.oneCell']
  jq _:=⟨rfl,rfl⟩
instance:Flat M4:=⟨fun h=>⟨h,rfl⟩⟩
structure U8 where
  v:Int
  deriving DecidableEq
instance:hD U8 where
  ty:=5
  sz:=1
  zero:=⟨0⟩
  zc:=[.int .u8 0]
  pos:=by omega
  rd _ _ cs x:=cs=[.int .u8 x.v]
  own _ cs F x:=cs=[.int .u8 x.v]∧F=[]
  kQ:=by rintro _ _ _ _ rfl;rfl
  iU:=by rintro _ _ _ _ ⟨rfl,_⟩;rfl
  km h _:=h
  kh h _:=h
  jB h _:=h
  kT h _:=h.1
  ke:=by rintro _ _ _ _ ⟨rfl,_⟩;simp [Value.oneCell']
  jq _:=⟨rfl,rfl⟩
instance:Flat U8:=⟨fun h=>⟨h,rfl⟩⟩
structure Hd where
  a:Option Addr
  n:Nat
  c:Nat
structure hJ where
  gE:Int
  gT:Int
  g8:Int
  deriving DecidableEq
instance:hD hJ where
  ty:=43
  sz:=3
  zero:=⟨0,0,0⟩
  zc:=[.int .i64 0,.int .i64 0,.int .i64 0]
  pos:=by omega
  rd _ _ cs x:=cs=[.int .i64 x.gE,.int .i64 x.gT,.int .i64 x.g8]
  own _ cs F x:=cs=[.int .i64 x.gE,.int .i64 x.gT,.int .i64 x.g8]∧F=[]
  kQ:=by rintro _ _ _ _ rfl;rfl
  iU:=by rintro _ _ _ _ ⟨rfl,_⟩;rfl
  km h _:=h
  kh h _:=h
  jB h _:=h
  kT h _:=h.1
  ke:=by rintro _ _ _ _ ⟨rfl,_⟩;simp [Value.oneCell']
  jq _:=⟨rfl,rfl⟩
instance:Flat hJ:=⟨fun h=>⟨h,rfl⟩⟩
structure ir where
  N0:Int
  a:Int
  b:Int
  c:Int
  d:Int
  e:Int
  deriving DecidableEq
instance:hD ir where
  ty:=49
  sz:=6
  zero:=⟨0,0,0,0,0,0⟩
  zc:=[.int .i64 0,.int .i64 0,.int .i64 0,.int .i64 0,.int .i64 0,.int .i64 0]
  pos:=by omega
  rd _ _ cs x:=cs=[.int .i64 x.N0,.int .i64 x.a,.int .i64 x.b,.int .i64 x.c,.int .i64 x.d,.int .i64 x.e]
  own _ cs F x:=cs=[.int .i64 x.N0,.int .i64 x.a,.int .i64 x.b,.int .i64 x.c,.int .i64 x.d,.int .i64 x.e]∧F=[]
  kQ:=by rintro _ _ _ _ rfl;rfl
  iU:=by rintro _ _ _ _ ⟨rfl,_⟩;rfl
  km h _:=h
  kh h _:=h
  jB h _:=h
  kT h _:=h.1
  ke:=by rintro _ _ _ _ ⟨rfl,_⟩;simp [Value.oneCell']
  jq _:=⟨rfl,rfl⟩
instance:Flat ir:=⟨fun h=>⟨h,rfl⟩⟩
structure iA where
  N0:Int
  NX:Int
  ig:Int
  call:ir
  deriving DecidableEq
instance:hD iA where
  ty:=88
  sz:=9
  zero:=⟨0,0,0,⟨0,0,0,0,0,0⟩⟩
  zc:=[.int .i64 0,.int .i64 0,.int .i64 0,.int .i64 0,.int .i64 0,.int .i64 0,.int .i64 0,.int .i64 0,.int .i64 0]
  pos:=by omega
  rd _ _ cs x:=cs=[.int .i64 x.N0,.int .i64 x.NX,.int .i64 x.ig,.int .i64 x.call.N0,.int .i64 x.call.a,.int .i64 x.call.b,.int .i64 x.call.c,.int .i64 x.call.d,.int .i64 x.call.e]
  own _ cs F x:=cs=[.int .i64 x.N0,.int .i64 x.NX,.int .i64 x.ig,.int .i64 x.call.N0,.int .i64 x.call.a,.int .i64 x.call.b,.int .i64 x.call.c,.int .i64 x.call.d,.int .i64 x.call.e]∧F=[]
  kQ:=by rintro _ _ _ _ rfl;rfl
  iU:=by rintro _ _ _ _ ⟨rfl,_⟩;rfl
  km h _:=h
  kh h _:=h
  jB h _:=h
  kT h _:=h.1
  ke:=by rintro _ _ _ _ ⟨rfl,_⟩;simp [Value.oneCell']
  jq _:=⟨rfl,rfl⟩
instance:Flat iA:=⟨fun h=>⟨h,rfl⟩⟩
structure g6 where
  code:Int
  Oi:Int
  deriving DecidableEq
instance:hD g6 where
  ty:=53
  sz:=2
  zero:=⟨0,0⟩
  zc:=[.int .i64 0,.int .i64 0]
  pos:=by omega
  rd _ _ cs x:=cs=[.int .i64 x.code,.int .i64 x.Oi]
  own _ cs F x:=cs=[.int .i64 x.code,.int .i64 x.Oi]∧F=[]
  kQ:=by rintro _ _ _ _ rfl;rfl
  iU:=by rintro _ _ _ _ ⟨rfl,_⟩;rfl
  km h _:=h
  kh h _:=h
  jB h _:=h
  kT h _:=h.1
  ke:=by rintro _ _ _ _ ⟨rfl,_⟩;simp [Value.oneCell']
  jq _:=⟨rfl,rfl⟩
instance:Flat g6:=⟨fun h=>⟨h,rfl⟩⟩
structure g7 where
  Of:Bool
  Og:Int
  iG:hJ
  deriving DecidableEq
instance:hD g7 where
  ty:=176
  sz:=5
  zero:=⟨false,0,⟨0,0,0⟩⟩
  zc:=[.bool false,.int .i64 0,.int .i64 0,.int .i64 0,.int .i64 0]
  pos:=by omega
  rd _ _ cs x:=cs=[.bool x.Of,.int .i64 x.Og,.int .i64 x.iG.gE,.int .i64 x.iG.gT,.int .i64 x.iG.g8]
  own _ cs F x:=cs=[.bool x.Of,.int .i64 x.Og,.int .i64 x.iG.gE,.int .i64 x.iG.gT,.int .i64 x.iG.g8]∧F=[]
  kQ:=by rintro _ _ _ _ rfl;rfl
  iU:=by rintro _ _ _ _ ⟨rfl,_⟩;rfl
  km h _:=h
  kh h _:=h
  jB h _:=h
  kT h _:=h.1
  ke:=by rintro _ _ _ _ ⟨rfl,_⟩;simp [Value.oneCell']
  jq _:=⟨rfl,rfl⟩
instance:Flat g7:=⟨fun h=>⟨h,rfl⟩⟩
structure iL where
  Od:Int
  jI:Int
  mN:Int
  kc:Int
  N0:Int
  kK:Int
  deriving DecidableEq
instance:hD iL where
  ty:=155
  sz:=6
  zero:=⟨0,0,0,0,0,0⟩
  zc:=[.int .i64 0,.int .i64 0,.int .i64 0,.int .i64 0,.int .i64 0,.int .i64 0]
  pos:=by omega
  rd _ _ cs x:=cs=[.int .i64 x.Od,.int .i64 x.jI,.int .i64 x.mN,.int .i64 x.kc,.int .i64 x.N0,.int .i64 x.kK]
  own _ cs F x:=cs=[.int .i64 x.Od,.int .i64 x.jI,.int .i64 x.mN,.int .i64 x.kc,.int .i64 x.N0,.int .i64 x.kK]∧F=[]
  kQ:=by rintro _ _ _ _ rfl;rfl
  iU:=by rintro _ _ _ _ ⟨rfl,_⟩;rfl
  km h _:=h
  kh h _:=h
  jB h _:=h
  kT h _:=h.1
  ke:=by rintro _ _ _ _ ⟨rfl,_⟩;simp [Value.oneCell']
  jq _:=⟨rfl,rfl⟩
instance:Flat iL:=⟨fun h=>⟨h,rfl⟩⟩
structure iS where
  Oj:Int
  n:Int
  deriving DecidableEq
instance:hD iS where
  ty:=193
  sz:=2
  zero:=⟨0,0⟩
  zc:=[.int .i64 0,.int .i64 0]
  pos:=by omega
  rd _ _ cs x:=cs=[.int .i64 x.Oj,.int .i64 x.n]
  own _ cs F x:=cs=[.int .i64 x.Oj,.int .i64 x.n]∧F=[]
  kQ:=by rintro _ _ _ _ rfl;rfl
  iU:=by rintro _ _ _ _ ⟨rfl,_⟩;rfl
  km h _:=h
  kh h _:=h
  jB h _:=h
  kT h _:=h.1
  ke:=by rintro _ _ _ _ ⟨rfl,_⟩;simp [Value.oneCell']
  jq _:=⟨rfl,rfl⟩
instance:Flat iS:=⟨fun h=>⟨h,rfl⟩⟩
structure iI where
  NY:List Int
  deriving DecidableEq
instance:hD iI where
  ty:=34
  sz:=1
  zero:=⟨[]⟩
  zc:=[.slice none 0 0]
  pos:=by omega
  rd S w cs x:=∃ (a0:Option Addr) (c0:Nat),cs=[.slice a0 x.NY.length c0]∧iM S w a0 c0 x.NY
  own w cs F x:=∃ (a0:Option Addr) (c0:Nat),cs=[.slice a0 x.NY.length c0]∧iP [sl a0 c0 x.NY] w F
  kQ:=by rintro _ _ _ _ ⟨a0,c0,rfl,_⟩;rfl
  iU:=by rintro _ _ _ _ ⟨a0,c0,rfl,_⟩;rfl
  km:=by rintro _ _ _ _ _ ⟨a0,c0,rfl,h0⟩ hk;exact ⟨a0,c0,rfl,h0.mf hk⟩
  kh:=by rintro _ _ _ _ _ ⟨a0,c0,rfl,h0⟩ hk;exact ⟨a0,c0,rfl,h0.mono hk⟩
  jB:=by rintro _ _ _ _ _ ⟨a0,c0,rfl,h⟩ hk;exact ⟨a0,c0,rfl,h.frame hk⟩
  kT:=by rintro _ _ _ _ _ ⟨a0,c0,rfl,h⟩ hk;exact ⟨a0,c0,rfl,iP.lY h 0 rfl hk⟩
  ke:=by rintro _ _ _ _ ⟨a0,c0,rfl,_⟩;simp [Value.oneCell']
  jq _:=⟨none,0,rfl,⟨[],[],rfl,.inl ⟨rfl,rfl,rfl,rfl⟩,rfl⟩⟩
structure iC where
  NZ:iI
  own:List Int
  jU:hJ
  deriving DecidableEq
instance:hD iC where
  ty:=134
  sz:=5
  zero:=⟨⟨[]⟩,[],⟨0,0,0⟩⟩
  zc:=[.slice none 0 0,.slice none 0 0,.int .i64 0,.int .i64 0,.int .i64 0]
  pos:=by omega
  rd S w cs x:=∃ (a0:Option Addr) (c0:Nat) (a1:Option Addr) (c1:Nat),cs=[.slice a0 x.NZ.NY.length c0,.slice a1 x.own.length c1,.int .i64 x.jU.gE,.int .i64 x.jU.gT,.int .i64 x.jU.g8]∧iM S w a0 c0 x.NZ.NY∧iM S w a1 c1 x.own
  own w cs F x:=∃ (a0:Option Addr) (c0:Nat) (a1:Option Addr) (c1:Nat),cs=[.slice a0 x.NZ.NY.length c0,.slice a1 x.own.length c1,.int .i64 x.jU.gE,.int .i64 x.jU.gT,.int .i64 x.jU.g8]∧iP [sl a0 c0 x.NZ.NY,sl a1 c1 x.own] w F
  kQ:=by rintro _ _ _ _ ⟨a0,c0,a1,c1,rfl,_⟩;rfl
  iU:=by rintro _ _ _ _ ⟨a0,c0,a1,c1,rfl,_⟩;rfl
  km:=by rintro _ _ _ _ _ ⟨a0,c0,a1,c1,rfl,h0,h1⟩ hk;exact ⟨a0,c0,a1,c1,rfl,h0.mf hk,h1.mf hk⟩
  kh:=by rintro _ _ _ _ _ ⟨a0,c0,a1,c1,rfl,h0,h1⟩ hk;exact ⟨a0,c0,a1,c1,rfl,h0.mono hk,h1.mono hk⟩
  jB:=by rintro _ _ _ _ _ ⟨a0,c0,a1,c1,rfl,h⟩ hk;exact ⟨a0,c0,a1,c1,rfl,h.frame hk⟩
  kT:=by rintro _ _ _ _ _ ⟨a0,c0,a1,c1,rfl,h⟩ hk;exact ⟨a0,c0,a1,c1,rfl,iP.lY h 0 rfl hk,iP.lY h 1 rfl hk⟩
  ke:=by rintro _ _ _ _ ⟨a0,c0,a1,c1,rfl,_⟩;simp [Value.oneCell']
  jq _:=⟨none,0,none,0,rfl,⟨[],[],rfl,.inl ⟨rfl,rfl,rfl,rfl⟩,⟨[],[],rfl,.inl ⟨rfl,rfl,rfl,rfl⟩,rfl⟩⟩⟩
structure iy where
  Oh:List g7
  deriving DecidableEq
instance:hD iy where
  ty:=153
  sz:=1
  zero:=⟨[]⟩
  zc:=[.slice none 0 0]
  pos:=by omega
  rd S w cs x:=∃ (a0:Option Addr) (c0:Nat),cs=[.slice a0 x.Oh.length c0]∧iM S w a0 c0 x.Oh
  own w cs F x:=∃ (a0:Option Addr) (c0:Nat),cs=[.slice a0 x.Oh.length c0]∧iP [sl a0 c0 x.Oh] w F
  kQ:=by rintro _ _ _ _ ⟨a0,c0,rfl,_⟩;rfl
  iU:=by rintro _ _ _ _ ⟨a0,c0,rfl,_⟩;rfl
  km:=by rintro _ _ _ _ _ ⟨a0,c0,rfl,h0⟩ hk;exact ⟨a0,c0,rfl,h0.mf hk⟩
  kh:=by rintro _ _ _ _ _ ⟨a0,c0,rfl,h0⟩ hk;exact ⟨a0,c0,rfl,h0.mono hk⟩
  jB:=by rintro _ _ _ _ _ ⟨a0,c0,rfl,h⟩ hk;exact ⟨a0,c0,rfl,h.frame hk⟩
  kT:=by rintro _ _ _ _ _ ⟨a0,c0,rfl,h⟩ hk;exact ⟨a0,c0,rfl,iP.lY h 0 rfl hk⟩
  ke:=by rintro _ _ _ _ ⟨a0,c0,rfl,_⟩;simp [Value.oneCell']
  jq _:=⟨none,0,rfl,⟨[],[],rfl,.inl ⟨rfl,rfl,rfl,rfl⟩,rfl⟩⟩
structure gP where
  Oe:Int
  N0:Int
  box:Int
  Od:Int
  iw:Int
  gE:Int
  N9:Int
  iv:Int
  iu:Int
  Ob:Bool
  gX:List Int
  N8:List Int
  N4:List iS
  deriving DecidableEq
instance:hD gP where
  ty:=160
  sz:=13
  zero:=⟨0,0,0,0,0,0,0,0,0,false,[],[],[]⟩
  zc:=[.int .i64 0,.int .i64 0,.int .i64 0,.int .i64 0,.int .i64 0,.int .i64 0,.int .i64 0,.int .i64 0,.int .i64 0,.bool false,.slice none 0 0,.slice none 0 0,.slice none 0 0]
  pos:=by omega
  rd S w cs x:=∃ (a10:Option Addr) (c10:Nat) (a11:Option Addr) (c11:Nat) (a12:Option Addr) (c12:Nat),cs=[.int .i64 x.Oe,.int .i64 x.N0,.int .i64 x.box,.int .i64 x.Od,.int .i64 x.iw,.int .i64 x.gE,.int .i64 x.N9,.int .i64 x.iv,.int .i64 x.iu,.bool x.Ob,.slice a10 x.gX.length c10,.slice a11 x.N8.length c11,.slice a12 x.N4.length c12]∧iM S w a10 c10 x.gX∧iM S w a11 c11 x.N8∧iM S w a12 c12 x.N4
  own w cs F x:=∃ (a10:Option Addr) (c10:Nat) (a11:Option Addr) (c11:Nat) (a12:Option Addr) (c12:Nat),cs=[.int .i64 x.Oe,.int .i64 x.N0,.int .i64 x.box,.int .i64 x.Od,.int .i64 x.iw,.int .i64 x.gE,.int .i64 x.N9,.int .i64 x.iv,.int .i64 x.iu,.bool x.Ob,.slice a10 x.gX.length c10,.slice a11 x.N8.length c11,.slice a12 x.N4.length c12]∧iP [sl a10 c10 x.gX,sl a11 c11 x.N8,sl a12 c12 x.N4] w F
  kQ:=by rintro _ _ _ _ ⟨a10,c10,a11,c11,a12,c12,rfl,_⟩;rfl
  iU:=by rintro _ _ _ _ ⟨a10,c10,a11,c11,a12,c12,rfl,_⟩;rfl
  km:=by rintro _ _ _ _ _ ⟨a10,c10,a11,c11,a12,c12,rfl,h10,h11,h12⟩ hk;exact ⟨a10,c10,a11,c11,a12,c12,rfl,h10.mf hk,h11.mf hk,h12.mf hk⟩
  kh:=by rintro _ _ _ _ _ ⟨a10,c10,a11,c11,a12,c12,rfl,h10,h11,h12⟩ hk;exact ⟨a10,c10,a11,c11,a12,c12,rfl,h10.mono hk,h11.mono hk,h12.mono hk⟩
  jB:=by rintro _ _ _ _ _ ⟨a10,c10,a11,c11,a12,c12,rfl,h⟩ hk;exact ⟨a10,c10,a11,c11,a12,c12,rfl,h.frame hk⟩
  kT:=by rintro _ _ _ _ _ ⟨a10,c10,a11,c11,a12,c12,rfl,h⟩ hk;exact ⟨a10,c10,a11,c11,a12,c12,rfl,iP.lY h 0 rfl hk,iP.lY h 1 rfl hk,iP.lY h 2 rfl hk⟩
  ke:=by rintro _ _ _ _ ⟨a10,c10,a11,c11,a12,c12,rfl,_⟩;simp [Value.oneCell']
  jq _:=⟨none,0,none,0,none,0,rfl,⟨[],[],rfl,.inl ⟨rfl,rfl,rfl,rfl⟩,⟨[],[],rfl,.inl ⟨rfl,rfl,rfl,rfl⟩,⟨[],[],rfl,.inl ⟨rfl,rfl,rfl,rfl⟩,rfl⟩⟩⟩⟩
structure iW where
  N2:Int
  Oa:Int
  N3:Int
  gQ:List Int
  deriving DecidableEq
instance:hD iW where
  ty:=38
  sz:=4
  zero:=⟨0,0,0,[]⟩
  zc:=[.int .i64 0,.int .i64 0,.int .i64 0,.slice none 0 0]
  pos:=by omega
  rd S w cs x:=∃ (a3:Option Addr) (c3:Nat),cs=[.int .i64 x.N2,.int .i64 x.Oa,.int .i64 x.N3,.slice a3 x.gQ.length c3]∧iM S w a3 c3 x.gQ
  own w cs F x:=∃ (a3:Option Addr) (c3:Nat),cs=[.int .i64 x.N2,.int .i64 x.Oa,.int .i64 x.N3,.slice a3 x.gQ.length c3]∧iP [sl a3 c3 x.gQ] w F
  kQ:=by rintro _ _ _ _ ⟨a3,c3,rfl,_⟩;rfl
  iU:=by rintro _ _ _ _ ⟨a3,c3,rfl,_⟩;rfl
  km:=by rintro _ _ _ _ _ ⟨a3,c3,rfl,h3⟩ hk;exact ⟨a3,c3,rfl,h3.mf hk⟩
  kh:=by rintro _ _ _ _ _ ⟨a3,c3,rfl,h3⟩ hk;exact ⟨a3,c3,rfl,h3.mono hk⟩
  jB:=by rintro _ _ _ _ _ ⟨a3,c3,rfl,h⟩ hk;exact ⟨a3,c3,rfl,h.frame hk⟩
  kT:=by rintro _ _ _ _ _ ⟨a3,c3,rfl,h⟩ hk;exact ⟨a3,c3,rfl,iP.lY h 0 rfl hk⟩
  ke:=by rintro _ _ _ _ ⟨a3,c3,rfl,_⟩;simp [Value.oneCell']
  jq _:=⟨none,0,rfl,⟨[],[],rfl,.inl ⟨rfl,rfl,rfl,rfl⟩,rfl⟩⟩
structure g5 where
  ag:List gP
  gc:iW
  deriving DecidableEq
instance:hD g5 where
  ty:=40
  sz:=5
  zero:=⟨[],⟨0,0,0,[]⟩⟩
  zc:=[.slice none 0 0,.int .i64 0,.int .i64 0,.int .i64 0,.slice none 0 0]
  pos:=by omega
  rd S w cs x:=∃ (a0:Option Addr) (c0:Nat) (a4:Option Addr) (c4:Nat),cs=[.slice a0 x.ag.length c0,.int .i64 x.gc.N2,.int .i64 x.gc.Oa,.int .i64 x.gc.N3,.slice a4 x.gc.gQ.length c4]∧iM S w a0 c0 x.ag∧iM S w a4 c4 x.gc.gQ
  own w cs F x:=∃ (a0:Option Addr) (c0:Nat) (a4:Option Addr) (c4:Nat),cs=[.slice a0 x.ag.length c0,.int .i64 x.gc.N2,.int .i64 x.gc.Oa,.int .i64 x.gc.N3,.slice a4 x.gc.gQ.length c4]∧iP [sl a0 c0 x.ag,sl a4 c4 x.gc.gQ] w F
  kQ:=by rintro _ _ _ _ ⟨a0,c0,a4,c4,rfl,_⟩;rfl
  iU:=by rintro _ _ _ _ ⟨a0,c0,a4,c4,rfl,_⟩;rfl
  km:=by rintro _ _ _ _ _ ⟨a0,c0,a4,c4,rfl,h0,h4⟩ hk;exact ⟨a0,c0,a4,c4,rfl,h0.mf hk,h4.mf hk⟩
  kh:=by rintro _ _ _ _ _ ⟨a0,c0,a4,c4,rfl,h0,h4⟩ hk;exact ⟨a0,c0,a4,c4,rfl,h0.mono hk,h4.mono hk⟩
  jB:=by rintro _ _ _ _ _ ⟨a0,c0,a4,c4,rfl,h⟩ hk;exact ⟨a0,c0,a4,c4,rfl,h.frame hk⟩
  kT:=by rintro _ _ _ _ _ ⟨a0,c0,a4,c4,rfl,h⟩ hk;exact ⟨a0,c0,a4,c4,rfl,iP.lY h 0 rfl hk,iP.lY h 1 rfl hk⟩
  ke:=by rintro _ _ _ _ ⟨a0,c0,a4,c4,rfl,_⟩;simp [Value.oneCell']
  jq _:=⟨none,0,none,0,rfl,⟨[],[],rfl,.inl ⟨rfl,rfl,rfl,rfl⟩,⟨[],[],rfl,.inl ⟨rfl,rfl,rfl,rfl⟩,rfl⟩⟩⟩
structure cd where
  NZ:iI
  own:List Int
  N1:List g7
  py:g5
  gR:List iL
  N6:Int
  N7:Int
  bh:hJ
  gW:Int
  N5:Int
  deriving DecidableEq
instance:hD cd where
  ty:=45
  sz:=16
  zero:=⟨⟨[]⟩,[],[],⟨[],⟨0,0,0,[]⟩⟩,[],0,0,⟨0,0,0⟩,0,0⟩
  zc:=[.slice none 0 0,.slice none 0 0,.slice none 0 0,.slice none 0 0,.int .i64 0,.int .i64 0,.int .i64 0,.slice none 0 0,.slice none 0 0,.int .i64 0,.int .i64 0,.int .i64 0,.int .i64 0,.int .i64 0,.int .i64 0,.int .i64 0]
  pos:=by omega
  rd S w cs x:=∃ (a0:Option Addr) (c0:Nat) (a1:Option Addr) (c1:Nat) (a2:Option Addr) (c2:Nat) (a3:Option Addr) (c3:Nat) (a7:Option Addr) (c7:Nat) (a8:Option Addr) (c8:Nat),cs=[.slice a0 x.NZ.NY.length c0,.slice a1 x.own.length c1,.slice a2 x.N1.length c2,.slice a3 x.py.ag.length c3,.int .i64 x.py.gc.N2,.int .i64 x.py.gc.Oa,.int .i64 x.py.gc.N3,.slice a7 x.py.gc.gQ.length c7,.slice a8 x.gR.length c8,.int .i64 x.N6,.int .i64 x.N7,.int .i64 x.bh.gE,.int .i64 x.bh.gT,.int .i64 x.bh.g8,.int .i64 x.gW,.int .i64 x.N5]∧iM S w a0 c0 x.NZ.NY∧iM S w a1 c1 x.own∧iM S w a2 c2 x.N1∧iM S w a3 c3 x.py.ag∧iM S w a7 c7 x.py.gc.gQ∧iM S w a8 c8 x.gR
  own w cs F x:=∃ (a0:Option Addr) (c0:Nat) (a1:Option Addr) (c1:Nat) (a2:Option Addr) (c2:Nat) (a3:Option Addr) (c3:Nat) (a7:Option Addr) (c7:Nat) (a8:Option Addr) (c8:Nat),cs=[.slice a0 x.NZ.NY.length c0,.slice a1 x.own.length c1,.slice a2 x.N1.length c2,.slice a3 x.py.ag.length c3,.int .i64 x.py.gc.N2,.int .i64 x.py.gc.Oa,.int .i64 x.py.gc.N3,.slice a7 x.py.gc.gQ.length c7,.slice a8 x.gR.length c8,.int .i64 x.N6,.int .i64 x.N7,.int .i64 x.bh.gE,.int .i64 x.bh.gT,.int .i64 x.bh.g8,.int .i64 x.gW,.int .i64 x.N5]∧iP [sl a0 c0 x.NZ.NY,sl a1 c1 x.own,sl a2 c2 x.N1,sl a3 c3 x.py.ag,sl a7 c7 x.py.gc.gQ,sl a8 c8 x.gR] w F
  kQ:=by rintro _ _ _ _ ⟨a0,c0,a1,c1,a2,c2,a3,c3,a7,c7,a8,c8,rfl,_⟩;rfl
  iU:=by rintro _ _ _ _ ⟨a0,c0,a1,c1,a2,c2,a3,c3,a7,c7,a8,c8,rfl,_⟩;rfl
  km:=by rintro _ _ _ _ _ ⟨a0,c0,a1,c1,a2,c2,a3,c3,a7,c7,a8,c8,rfl,h0,h1,h2,h3,h7,h8⟩ hk;exact ⟨a0,c0,a1,c1,a2,c2,a3,c3,a7,c7,a8,c8,rfl,h0.mf hk,h1.mf hk,h2.mf hk,h3.mf hk,h7.mf hk,h8.mf hk⟩
  kh:=by rintro _ _ _ _ _ ⟨a0,c0,a1,c1,a2,c2,a3,c3,a7,c7,a8,c8,rfl,h0,h1,h2,h3,h7,h8⟩ hk;exact ⟨a0,c0,a1,c1,a2,c2,a3,c3,a7,c7,a8,c8,rfl,h0.mono hk,h1.mono hk,h2.mono hk,h3.mono hk,h7.mono hk,h8.mono hk⟩
  jB:=by rintro _ _ _ _ _ ⟨a0,c0,a1,c1,a2,c2,a3,c3,a7,c7,a8,c8,rfl,h⟩ hk;exact ⟨a0,c0,a1,c1,a2,c2,a3,c3,a7,c7,a8,c8,rfl,h.frame hk⟩
  kT:=by rintro _ _ _ _ _ ⟨a0,c0,a1,c1,a2,c2,a3,c3,a7,c7,a8,c8,rfl,h⟩ hk;exact ⟨a0,c0,a1,c1,a2,c2,a3,c3,a7,c7,a8,c8,rfl,iP.lY h 0 rfl hk,iP.lY h 1 rfl hk,iP.lY h 2 rfl hk,iP.lY h 3 rfl hk,iP.lY h 4 rfl hk,iP.lY h 5 rfl hk⟩
  ke:=by rintro _ _ _ _ ⟨a0,c0,a1,c1,a2,c2,a3,c3,a7,c7,a8,c8,rfl,_⟩;simp [Value.oneCell']
  jq _:=⟨none,0,none,0,none,0,none,0,none,0,none,0,rfl,⟨[],[],rfl,.inl ⟨rfl,rfl,rfl,rfl⟩,⟨[],[],rfl,.inl ⟨rfl,rfl,rfl,rfl⟩,⟨[],[],rfl,.inl ⟨rfl,rfl,rfl,rfl⟩,⟨[],[],rfl,.inl ⟨rfl,rfl,rfl,rfl⟩,⟨[],[],rfl,.inl ⟨rfl,rfl,rfl,rfl⟩,⟨[],[],rfl,.inl ⟨rfl,rfl,rfl,rfl⟩,rfl⟩⟩⟩⟩⟩⟩⟩
structure hO where
  Oc:Int
  parts:List cd
  deriving DecidableEq
instance:hD hO where
  ty:=26
  sz:=2
  zero:=⟨0,[]⟩
  zc:=[.int .i64 0,.slice none 0 0]
  pos:=by omega
  rd S w cs x:=∃ (a1:Option Addr) (c1:Nat),cs=[.int .i64 x.Oc,.slice a1 x.parts.length c1]∧iM S w a1 c1 x.parts
  own w cs F x:=∃ (a1:Option Addr) (c1:Nat),cs=[.int .i64 x.Oc,.slice a1 x.parts.length c1]∧iP [sl a1 c1 x.parts] w F
  kQ:=by rintro _ _ _ _ ⟨a1,c1,rfl,_⟩;rfl
  iU:=by rintro _ _ _ _ ⟨a1,c1,rfl,_⟩;rfl
  km:=by rintro _ _ _ _ _ ⟨a1,c1,rfl,h1⟩ hk;exact ⟨a1,c1,rfl,h1.mf hk⟩
  kh:=by rintro _ _ _ _ _ ⟨a1,c1,rfl,h1⟩ hk;exact ⟨a1,c1,rfl,h1.mono hk⟩
  jB:=by rintro _ _ _ _ _ ⟨a1,c1,rfl,h⟩ hk;exact ⟨a1,c1,rfl,h.frame hk⟩
  kT:=by rintro _ _ _ _ _ ⟨a1,c1,rfl,h⟩ hk;exact ⟨a1,c1,rfl,iP.lY h 0 rfl hk⟩
  ke:=by rintro _ _ _ _ ⟨a1,c1,rfl,_⟩;simp [Value.oneCell']
  jq _:=⟨none,0,rfl,⟨[],[],rfl,.inl ⟨rfl,rfl,rfl,rfl⟩,rfl⟩⟩
structure ik where
  NX:cd
  me:Int
  Oc:Int
  ig:Int
  deriving DecidableEq
structure jx where
  NZ:iI
  own:List Int
  N1:Hd
  py:g5
  gR:List iL
  N6:Int
  N7:Int
  bh:hJ
  gW:Int
  N5:Int
instance:hD jx where
  ty:=45
  sz:=16
  zero:=⟨⟨[]⟩,[],⟨none,0,0⟩,⟨[],⟨0,0,0,[]⟩⟩,[],0,0,⟨0,0,0⟩,0,0⟩
  zc:=[.slice none 0 0,.slice none 0 0,.slice none 0 0,.slice none 0 0,.int .i64 0,.int .i64 0,.int .i64 0,.slice none 0 0,.slice none 0 0,.int .i64 0,.int .i64 0,.int .i64 0,.int .i64 0,.int .i64 0,.int .i64 0,.int .i64 0]
  pos:=by omega
  rd S w cs x:=∃ (a0:Option Addr) (c0:Nat) (a1:Option Addr) (c1:Nat) (a3:Option Addr) (c3:Nat) (a7:Option Addr) (c7:Nat) (a8:Option Addr) (c8:Nat),cs=[.slice a0 x.NZ.NY.length c0,.slice a1 x.own.length c1,.slice x.N1.a x.N1.n x.N1.c,.slice a3 x.py.ag.length c3,.int .i64 x.py.gc.N2,.int .i64 x.py.gc.Oa,.int .i64 x.py.gc.N3,.slice a7 x.py.gc.gQ.length c7,.slice a8 x.gR.length c8,.int .i64 x.N6,.int .i64 x.N7,.int .i64 x.bh.gE,.int .i64 x.bh.gT,.int .i64 x.bh.g8,.int .i64 x.gW,.int .i64 x.N5]∧iM S w a0 c0 x.NZ.NY∧iM S w a1 c1 x.own∧iM S w a3 c3 x.py.ag∧iM S w a7 c7 x.py.gc.gQ∧iM S w a8 c8 x.gR
  own w cs F x:=∃ (a0:Option Addr) (c0:Nat) (a1:Option Addr) (c1:Nat) (a3:Option Addr) (c3:Nat) (a7:Option Addr) (c7:Nat) (a8:Option Addr) (c8:Nat),cs=[.slice a0 x.NZ.NY.length c0,.slice a1 x.own.length c1,.slice x.N1.a x.N1.n x.N1.c,.slice a3 x.py.ag.length c3,.int .i64 x.py.gc.N2,.int .i64 x.py.gc.Oa,.int .i64 x.py.gc.N3,.slice a7 x.py.gc.gQ.length c7,.slice a8 x.gR.length c8,.int .i64 x.N6,.int .i64 x.N7,.int .i64 x.bh.gE,.int .i64 x.bh.gT,.int .i64 x.bh.g8,.int .i64 x.gW,.int .i64 x.N5]∧iP [sl a0 c0 x.NZ.NY,sl a1 c1 x.own,sl a3 c3 x.py.ag,sl a7 c7 x.py.gc.gQ,sl a8 c8 x.gR] w F
  kQ:=by rintro _ _ _ _ ⟨a0,c0,a1,c1,a3,c3,a7,c7,a8,c8,rfl,_⟩;rfl
  iU:=by rintro _ _ _ _ ⟨a0,c0,a1,c1,a3,c3,a7,c7,a8,c8,rfl,_⟩;rfl
  km:=by rintro _ _ _ _ _ ⟨a0,c0,a1,c1,a3,c3,a7,c7,a8,c8,rfl,h0,h1,h3,h7,h8⟩ hk;exact ⟨a0,c0,a1,c1,a3,c3,a7,c7,a8,c8,rfl,h0.mf hk,h1.mf hk,h3.mf hk,h7.mf hk,h8.mf hk⟩
  kh:=by rintro _ _ _ _ _ ⟨a0,c0,a1,c1,a3,c3,a7,c7,a8,c8,rfl,h0,h1,h3,h7,h8⟩ hk;exact ⟨a0,c0,a1,c1,a3,c3,a7,c7,a8,c8,rfl,h0.mono hk,h1.mono hk,h3.mono hk,h7.mono hk,h8.mono hk⟩
  jB:=by rintro _ _ _ _ _ ⟨a0,c0,a1,c1,a3,c3,a7,c7,a8,c8,rfl,h⟩ hk;exact ⟨a0,c0,a1,c1,a3,c3,a7,c7,a8,c8,rfl,h.frame hk⟩
  kT:=by rintro _ _ _ _ _ ⟨a0,c0,a1,c1,a3,c3,a7,c7,a8,c8,rfl,h⟩ hk;exact ⟨a0,c0,a1,c1,a3,c3,a7,c7,a8,c8,rfl,iP.lY h 0 rfl hk,iP.lY h 1 rfl hk,iP.lY h 2 rfl hk,iP.lY h 3 rfl hk,iP.lY h 4 rfl hk⟩
  ke:=by rintro _ _ _ _ ⟨a0,c0,a1,c1,a3,c3,a7,c7,a8,c8,rfl,_⟩;simp [Value.oneCell']
  jq _:=⟨none,0,none,0,none,0,none,0,none,0,rfl,⟨[],[],rfl,.inl ⟨rfl,rfl,rfl,rfl⟩,⟨[],[],rfl,.inl ⟨rfl,rfl,rfl,rfl⟩,⟨[],[],rfl,.inl ⟨rfl,rfl,rfl,rfl⟩,⟨[],[],rfl,.inl ⟨rfl,rfl,rfl,rfl⟩,⟨[],[],rfl,.inl ⟨rfl,rfl,rfl,rfl⟩,rfl⟩⟩⟩⟩⟩⟩
structure jD where
  Oh:Hd
instance:hD jD where
  ty:=153
  sz:=1
  zero:=⟨⟨none,0,0⟩⟩
  zc:=[.slice none 0 0]
  pos:=by omega
  rd _ _ cs x:=cs=[.slice x.Oh.a x.Oh.n x.Oh.c]
  own _ cs F x:=cs=[.slice x.Oh.a x.Oh.n x.Oh.c]∧F=[]
  kQ:=by rintro _ _ _ _ rfl;rfl
  iU:=by rintro _ _ _ _ ⟨rfl,_⟩;rfl
  km h _:=h
  kh h _:=h
  jB h _:=h
  kT h _:=h.1
  ke:=by rintro _ _ _ _ ⟨rfl,_⟩;simp [Value.oneCell']
  jq _:=⟨rfl,rfl⟩
instance:Flat jD:=⟨fun h=>⟨h,rfl⟩⟩
structure pF where
  Oe:Int
  N0:Int
  box:Int
  Od:Int
  iw:Int
  gE:Int
  N9:Int
  iv:Int
  iu:Int
  Ob:Bool
  deriving DecidableEq
instance:hD pF where
  ty:=160
  sz:=13
  zero:=⟨0,0,0,0,0,0,0,0,0,false⟩
  zc:=[.int .i64 0,.int .i64 0,.int .i64 0,.int .i64 0,.int .i64 0,.int .i64 0,.int .i64 0,.int .i64 0,.int .i64 0,.bool false,.slice none 0 0,.slice none 0 0,.slice none 0 0]
  pos:=by omega
  rd _ _ cs x:=∃ (a0:Option Addr) (n0 c0:Nat) (a1:Option Addr) (n1 c1:Nat) (a2:Option Addr) (n2 c2:Nat),cs=[.int .i64 x.Oe,.int .i64 x.N0,.int .i64 x.box,.int .i64 x.Od,.int .i64 x.iw,.int .i64 x.gE,.int .i64 x.N9,.int .i64 x.iv,.int .i64 x.iu,.bool x.Ob,.slice a0 n0 c0,.slice a1 n1 c1,.slice a2 n2 c2]
  own _ cs F x:=(∃ (a0:Option Addr) (n0 c0:Nat) (a1:Option Addr) (n1 c1:Nat) (a2:Option Addr) (n2 c2:Nat),cs=[.int .i64 x.Oe,.int .i64 x.N0,.int .i64 x.box,.int .i64 x.Od,.int .i64 x.iw,.int .i64 x.gE,.int .i64 x.N9,.int .i64 x.iv,.int .i64 x.iu,.bool x.Ob,.slice a0 n0 c0,.slice a1 n1 c1,.slice a2 n2 c2])∧F=[]
  kQ:=by rintro _ _ _ _ ⟨a0,n0,c0,a1,n1,c1,a2,n2,c2,rfl⟩;rfl
  iU:=by rintro _ _ _ _ ⟨⟨a0,n0,c0,a1,n1,c1,a2,n2,c2,rfl⟩,_⟩;rfl
  km h _:=h
  kh h _:=h
  jB h _:=h
  kT h _:=h.1
  ke:=by rintro _ _ _ _ ⟨⟨a0,n0,c0,a1,n1,c1,a2,n2,c2,rfl⟩,_⟩;simp [Value.oneCell']
  jq _:=⟨⟨_,_,_,_,_,_,_,_,_,rfl⟩,rfl⟩
def kB (l:List cd):List (List g7):=l.map fun p=>p.N1
def k8 (l:List iy):List (List g7):=l.map fun t=>t.Oh
def kl (l:List cd):List iy:=(kB l).map iy.mk
def sQ (p:cd) (t:List g7):cd:=cd.mk p.NZ p.own t p.py p.gR p.N6 p.N7 p.bh p.gW p.N5
def ki (l:List cd) (ts:List (List g7)):List cd:=List.zipWith sQ l ts
def gd (b:Bool):Option Unit:=bif b then some () else none
class Fit (α:Type) where
  fit:α→Prop
instance:Fit Int:=⟨fun x=>-9223372036854775808≤x∧x≤9223372036854775807⟩
instance:Fit Bool:=⟨fun _=>True⟩
instance:Fit U8:=⟨fun x=>0≤x.v∧x.v≤255⟩
instance {α:Type} [Fit α]:Fit (List α):=⟨fun l=>l.length≤maxLen∧∀ y,y ∈ l→Fit.fit y⟩
instance:Fit hJ:=⟨fun x=>Fit.fit x.gE∧Fit.fit x.gT∧Fit.fit x.g8⟩
instance:Fit ir:=⟨fun x=>Fit.fit x.N0∧Fit.fit x.a∧Fit.fit x.b∧Fit.fit x.c∧Fit.fit x.d∧Fit.fit x.e⟩
instance:Fit iA:=⟨fun x=>Fit.fit x.N0∧Fit.fit x.NX∧Fit.fit x.ig∧Fit.fit x.call⟩
instance:Fit g6:=⟨fun x=>Fit.fit x.code∧Fit.fit x.Oi⟩
instance:Fit g7:=⟨fun x=>Fit.fit x.Of∧Fit.fit x.Og∧Fit.fit x.iG⟩
instance:Fit iL:=⟨fun x=>Fit.fit x.Od∧Fit.fit x.jI∧Fit.fit x.mN∧Fit.fit x.kc∧Fit.fit x.N0∧Fit.fit x.kK⟩
instance:Fit iS:=⟨fun x=>Fit.fit x.Oj∧Fit.fit x.n⟩
instance:Fit iI:=⟨fun x=>Fit.fit x.NY⟩
instance:Fit iC:=⟨fun x=>Fit.fit x.NZ∧Fit.fit x.own∧Fit.fit x.jU⟩
instance:Fit iy:=⟨fun x=>Fit.fit x.Oh⟩
instance:Fit gP:=⟨fun x=>Fit.fit x.Oe∧Fit.fit x.N0∧Fit.fit x.box∧Fit.fit x.Od∧Fit.fit x.iw∧Fit.fit x.gE∧Fit.fit x.N9∧Fit.fit x.iv∧Fit.fit x.iu∧Fit.fit x.Ob∧Fit.fit x.gX∧Fit.fit x.N8∧Fit.fit x.N4⟩
instance:Fit iW:=⟨fun x=>Fit.fit x.N2∧Fit.fit x.Oa∧Fit.fit x.N3∧Fit.fit x.gQ⟩
instance:Fit g5:=⟨fun x=>Fit.fit x.ag∧Fit.fit x.gc⟩
instance:Fit cd:=⟨fun x=>Fit.fit x.NZ∧Fit.fit x.own∧Fit.fit x.N1∧Fit.fit x.py∧Fit.fit x.gR∧Fit.fit x.N6∧Fit.fit x.N7∧Fit.fit x.bh∧Fit.fit x.gW∧Fit.fit x.N5⟩
instance:Fit hO:=⟨fun x=>Fit.fit x.Oc∧Fit.fit x.parts⟩
instance:Fit ik:=⟨fun x=>Fit.fit x.NX∧Fit.fit x.me∧Fit.fit x.Oc∧Fit.fit x.ig⟩
end Go.Kx
