import Derived.Test.YtlcgibcdiikheaaGreatEnv
namespace Go.Kx
open Go Go.RowKit
set_option linter.unusedVariables false
set_option linter.unusedSimpArgs false
instance:hD Int where
  ty:=3
  sz:=1
  zero:=0
  zc:=[.int .i64 0]
  pos:=by omega
  rd _ _ cs x:=cs=[.int .i64 x]
  own _ cs F x:=cs=[.int .i64 x]∧F=[]
  kY:=by rintro _ _ _ _ rfl;rfl
  ja:=by rintro _ _ _ _ ⟨rfl,_⟩;rfl
  kn h _:=h
  ko h _:=h
  jI h _:=h
  kX h _:=h.1
  kb:=by rintro _ _ _ _ ⟨rfl,_⟩;simp [Value.oneCell']
  jl _:=⟨rfl,rfl⟩
instance:Flat Int:=⟨fun h=>⟨h,rfl⟩⟩
instance:hD Bool where
  ty:=4
  sz:=1
  zero:=false
  zc:=[.bool false]
  pos:=by omega
  rd _ _ cs x:=cs=[.bool x]
  own _ cs F x:=cs=[.bool x]∧F=[]
  kY:=by rintro _ _ _ _ rfl;rfl
  ja:=by rintro _ _ _ _ ⟨rfl,_⟩;rfl
  kn h _:=h
  ko h _:=h
  jI h _:=h
  kX h _:=h.1
  kb:=by rintro _ _ _ _ ⟨rfl,_⟩;simp [Value.oneCell']
  jl _:=⟨rfl,rfl⟩
instance:Flat Bool:=⟨fun h=>⟨h,rfl⟩⟩
abbrev Ov:=ByteArray
instance:hD Ov where
  ty:=9
  sz:=1
  zero:=⟨#[]⟩
  zc:=[.string ⟨#[]⟩]
  pos:=by omega
  rd _ _ cs x:=cs=[.string x]
  own _ cs F x:=cs=[.string x]∧F=[]
  kY:=by rintro _ _ _ _ rfl;rfl
  ja:=by rintro _ _ _ _ ⟨rfl,_⟩;rfl
  kn h _:=h
  ko h _:=h
  jI h _:=h
  kX h _:=h.1
  kb:=by rintro _ _ _ _ ⟨rfl,_⟩;simp [Value.oneCell']
  jl _:=⟨rfl,rfl⟩
instance:Flat Ov:=⟨fun h=>⟨h,rfl⟩⟩
structure U8 where
  v:Int
  deriving DecidableEq
instance:hD U8 where
  ty:=5
  sz:=1
  zero:=⟨0⟩
  zc:=[.int .u8 0]
  pos:=by omega
  rd _ _ cs x:=cs=[.int .u8 x.v]
  own _ cs F x:=cs=[.int .u8 x.v]∧F=[]
  kY:=by rintro _ _ _ _ rfl;rfl
  ja:=by rintro _ _ _ _ ⟨rfl,_⟩;rfl
  kn h _:=h
  ko h _:=h
  jI h _:=h
  kX h _:=h.1
  kb:=by rintro _ _ _ _ ⟨rfl,_⟩;simp [Value.oneCell']
  jl _:=⟨rfl,rfl⟩
instance:Flat U8:=⟨fun h=>⟨h,rfl⟩⟩
structure Hd where
  a:Option Addr
  n:Nat
  c:Nat
structure hO where
  gE:Int
  gX:Int
  g8:Int
  deriving DecidableEq
instance:hD hO where
  ty:=48
  sz:=3
  zero:=⟨0,0,0⟩
  zc:=[.int .i64 0,.int .i64 0,.int .i64 0]
  pos:=by omega
  rd _ _ cs x:=cs=[.int .i64 x.gE,.int .i64 x.gX,.int .i64 x.g8]
  own _ cs F x:=cs=[.int .i64 x.gE,.int .i64 x.gX,.int .i64 x.g8]∧F=[]
  kY:=by rintro _ _ _ _ rfl;rfl
  ja:=by rintro _ _ _ _ ⟨rfl,_⟩;rfl
  kn h _:=h
  ko h _:=h
  jI h _:=h
  kX h _:=h.1
  kb:=by rintro _ _ _ _ ⟨rfl,_⟩;simp [Value.oneCell']
  jl _:=⟨rfl,rfl⟩
instance:Flat hO:=⟨fun h=>⟨h,rfl⟩⟩
structure iA where
  Pf:Int
  a:Int
  b:Int
  c:Int
  d:Int
  e:Int
  deriving DecidableEq
instance:hD iA where
  ty:=28
  sz:=6
  zero:=⟨0,0,0,0,0,0⟩
  zc:=[.int .i64 0,.int .i64 0,.int .i64 0,.int .i64 0,.int .i64 0,.int .i64 0]
  pos:=by omega
  rd _ _ cs x:=cs=[.int .i64 x.Pf,.int .i64 x.a,.int .i64 x.b,.int .i64 x.c,.int .i64 x.d,.int .i64 x.e]
  own _ cs F x:=cs=[.int .i64 x.Pf,.int .i64 x.a,.int .i64 x.b,.int .i64 x.c,.int .i64 x.d,.int .i64 x.e]∧F=[]
  kY:=by rintro _ _ _ _ rfl;rfl
  ja:=by rintro _ _ _ _ ⟨rfl,_⟩;rfl
  kn h _:=h
  ko h _:=h
  jI h _:=h
  kX h _:=h.1
  kb:=by rintro _ _ _ _ ⟨rfl,_⟩;simp [Value.oneCell']
  jl _:=⟨rfl,rfl⟩
instance:Flat iA:=⟨fun h=>⟨h,rfl⟩⟩
structure iK where
  Pf:Int
  Pc:Int
  ir:Int
  call:iA
  deriving DecidableEq
instance:hD iK where
  ty:=62
  sz:=9
  zero:=⟨0,0,0,⟨0,0,0,0,0,0⟩⟩
  zc:=[.int .i64 0,.int .i64 0,.int .i64 0,.int .i64 0,.int .i64 0,.int .i64 0,.int .i64 0,.int .i64 0,.int .i64 0]
  pos:=by omega
  rd _ _ cs x:=cs=[.int .i64 x.Pf,.int .i64 x.Pc,.int .i64 x.ir,.int .i64 x.call.Pf,.int .i64 x.call.a,.int .i64 x.call.b,.int .i64 x.call.c,.int .i64 x.call.d,.int .i64 x.call.e]
  own _ cs F x:=cs=[.int .i64 x.Pf,.int .i64 x.Pc,.int .i64 x.ir,.int .i64 x.call.Pf,.int .i64 x.call.a,.int .i64 x.call.b,.int .i64 x.call.c,.int .i64 x.call.d,.int .i64 x.call.e]∧F=[]
  kY:=by rintro _ _ _ _ rfl;rfl
  ja:=by rintro _ _ _ _ ⟨rfl,_⟩;rfl
  kn h _:=h
  ko h _:=h
  jI h _:=h
  kX h _:=h.1
  kb:=by rintro _ _ _ _ ⟨rfl,_⟩;simp [Value.oneCell']
  jl _:=⟨rfl,rfl⟩
instance:Flat iK:=⟨fun h=>⟨h,rfl⟩⟩
structure hX where
  code:Int
  Pz:Int
  deriving DecidableEq
instance:hD hX where
  ty:=32
  sz:=2
  zero:=⟨0,0⟩
  zc:=[.int .i64 0,.int .i64 0]
  pos:=by omega
  rd _ _ cs x:=cs=[.int .i64 x.code,.int .i64 x.Pz]
  own _ cs F x:=cs=[.int .i64 x.code,.int .i64 x.Pz]∧F=[]
  kY:=by rintro _ _ _ _ rfl;rfl
  ja:=by rintro _ _ _ _ ⟨rfl,_⟩;rfl
  kn h _:=h
  ko h _:=h
  jI h _:=h
  kX h _:=h.1
  kb:=by rintro _ _ _ _ ⟨rfl,_⟩;simp [Value.oneCell']
  jl _:=⟨rfl,rfl⟩
instance:Flat hX:=⟨fun h=>⟨h,rfl⟩⟩
structure g6 where
  Px:Bool
  Pv:Int
  iH:hO
  deriving DecidableEq
instance:hD g6 where
  ty:=172
  sz:=5
  zero:=⟨false,0,⟨0,0,0⟩⟩
  zc:=[.bool false,.int .i64 0,.int .i64 0,.int .i64 0,.int .i64 0]
  pos:=by omega
  rd _ _ cs x:=cs=[.bool x.Px,.int .i64 x.Pv,.int .i64 x.iH.gE,.int .i64 x.iH.gX,.int .i64 x.iH.g8]
  own _ cs F x:=cs=[.bool x.Px,.int .i64 x.Pv,.int .i64 x.iH.gE,.int .i64 x.iH.gX,.int .i64 x.iH.g8]∧F=[]
  kY:=by rintro _ _ _ _ rfl;rfl
  ja:=by rintro _ _ _ _ ⟨rfl,_⟩;rfl
  kn h _:=h
  ko h _:=h
  jI h _:=h
  kX h _:=h.1
  kb:=by rintro _ _ _ _ ⟨rfl,_⟩;simp [Value.oneCell']
  jl _:=⟨rfl,rfl⟩
instance:Flat g6:=⟨fun h=>⟨h,rfl⟩⟩
structure iB where
  Pu:Int
  jy:Int
  kJ:Int
  jR:Int
  Pf:Int
  ka:Int
  deriving DecidableEq
instance:hD iB where
  ty:=174
  sz:=6
  zero:=⟨0,0,0,0,0,0⟩
  zc:=[.int .i64 0,.int .i64 0,.int .i64 0,.int .i64 0,.int .i64 0,.int .i64 0]
  pos:=by omega
  rd _ _ cs x:=cs=[.int .i64 x.Pu,.int .i64 x.jy,.int .i64 x.kJ,.int .i64 x.jR,.int .i64 x.Pf,.int .i64 x.ka]
  own _ cs F x:=cs=[.int .i64 x.Pu,.int .i64 x.jy,.int .i64 x.kJ,.int .i64 x.jR,.int .i64 x.Pf,.int .i64 x.ka]∧F=[]
  kY:=by rintro _ _ _ _ rfl;rfl
  ja:=by rintro _ _ _ _ ⟨rfl,_⟩;rfl
  kn h _:=h
  ko h _:=h
  jI h _:=h
  kX h _:=h.1
  kb:=by rintro _ _ _ _ ⟨rfl,_⟩;simp [Value.oneCell']
  jl _:=⟨rfl,rfl⟩
instance:Flat iB:=⟨fun h=>⟨h,rfl⟩⟩
structure iM where
  PA:Int
  n:Int
  deriving DecidableEq
instance:hD iM where
  ty:=193
  sz:=2
  zero:=⟨0,0⟩
  zc:=[.int .i64 0,.int .i64 0]
  pos:=by omega
  rd _ _ cs x:=cs=[.int .i64 x.PA,.int .i64 x.n]
  own _ cs F x:=cs=[.int .i64 x.PA,.int .i64 x.n]∧F=[]
  kY:=by rintro _ _ _ _ rfl;rfl
  ja:=by rintro _ _ _ _ ⟨rfl,_⟩;rfl
  kn h _:=h
  ko h _:=h
  jI h _:=h
  kX h _:=h.1
  kb:=by rintro _ _ _ _ ⟨rfl,_⟩;simp [Value.oneCell']
  jl _:=⟨rfl,rfl⟩
instance:Flat iM:=⟨fun h=>⟨h,rfl⟩⟩
structure iY where
  Pd:List Int
  deriving DecidableEq
instance:hD iY where
  ty:=39
  sz:=1
  zero:=⟨[]⟩
  zc:=[.slice none 0 0]
  pos:=by omega
  rd S w cs x:=∃ (a0:Option Addr) (c0:Nat),cs=[.slice a0 x.Pd.length c0]∧iR S w a0 c0 x.Pd
  own w cs F x:=∃ (a0:Option Addr) (c0:Nat),cs=[.slice a0 x.Pd.length c0]∧iT [sl a0 c0 x.Pd] w F
  kY:=by rintro _ _ _ _ ⟨a0,c0,rfl,_⟩;rfl
  ja:=by rintro _ _ _ _ ⟨a0,c0,rfl,_⟩;rfl
  kn:=by rintro _ _ _ _ _ ⟨a0,c0,rfl,h0⟩ hk;exact ⟨a0,c0,rfl,h0.mw hk⟩
  ko:=by rintro _ _ _ _ _ ⟨a0,c0,rfl,h0⟩ hk;exact ⟨a0,c0,rfl,h0.mono hk⟩
  jI:=by rintro _ _ _ _ _ ⟨a0,c0,rfl,h⟩ hk;exact ⟨a0,c0,rfl,h.frame hk⟩
  kX:=by rintro _ _ _ _ _ ⟨a0,c0,rfl,h⟩ hk;exact ⟨a0,c0,rfl,iT.mg h 0 rfl hk⟩
  kb:=by rintro _ _ _ _ ⟨a0,c0,rfl,_⟩;simp [Value.oneCell']
  jl _:=⟨none,0,rfl,⟨[],[],rfl,.inl ⟨rfl,rfl,rfl,rfl⟩,rfl⟩⟩
structure iO where
  Pe:iY
  own:List Int
  j6:hO
  deriving DecidableEq
instance:hD iO where
  ty:=108
  sz:=5
  zero:=⟨⟨[]⟩,[],⟨0,0,0⟩⟩
  zc:=[.slice none 0 0,.slice none 0 0,.int .i64 0,.int .i64 0,.int .i64 0]
  pos:=by omega
  rd S w cs x:=∃ (a0:Option Addr) (c0:Nat) (a1:Option Addr) (c1:Nat),cs=[.slice a0 x.Pe.Pd.length c0,.slice a1 x.own.length c1,.int .i64 x.j6.gE,.int .i64 x.j6.gX,.int .i64 x.j6.g8]∧iR S w a0 c0 x.Pe.Pd∧iR S w a1 c1 x.own
  own w cs F x:=∃ (a0:Option Addr) (c0:Nat) (a1:Option Addr) (c1:Nat),cs=[.slice a0 x.Pe.Pd.length c0,.slice a1 x.own.length c1,.int .i64 x.j6.gE,.int .i64 x.j6.gX,.int .i64 x.j6.g8]∧iT [sl a0 c0 x.Pe.Pd,sl a1 c1 x.own] w F
  kY:=by rintro _ _ _ _ ⟨a0,c0,a1,c1,rfl,_⟩;rfl
  ja:=by rintro _ _ _ _ ⟨a0,c0,a1,c1,rfl,_⟩;rfl
  kn:=by rintro _ _ _ _ _ ⟨a0,c0,a1,c1,rfl,h0,h1⟩ hk;exact ⟨a0,c0,a1,c1,rfl,h0.mw hk,h1.mw hk⟩
  ko:=by rintro _ _ _ _ _ ⟨a0,c0,a1,c1,rfl,h0,h1⟩ hk;exact ⟨a0,c0,a1,c1,rfl,h0.mono hk,h1.mono hk⟩
  jI:=by rintro _ _ _ _ _ ⟨a0,c0,a1,c1,rfl,h⟩ hk;exact ⟨a0,c0,a1,c1,rfl,h.frame hk⟩
  kX:=by rintro _ _ _ _ _ ⟨a0,c0,a1,c1,rfl,h⟩ hk;exact ⟨a0,c0,a1,c1,rfl,iT.mg h 0 rfl hk,iT.mg h 1 rfl hk⟩
  kb:=by rintro _ _ _ _ ⟨a0,c0,a1,c1,rfl,_⟩;simp [Value.oneCell']
  jl _:=⟨none,0,none,0,rfl,⟨[],[],rfl,.inl ⟨rfl,rfl,rfl,rfl⟩,⟨[],[],rfl,.inl ⟨rfl,rfl,rfl,rfl⟩,rfl⟩⟩⟩
structure iC where
  Py:List g6
  deriving DecidableEq
instance:hD iC where
  ty:=228
  sz:=1
  zero:=⟨[]⟩
  zc:=[.slice none 0 0]
  pos:=by omega
  rd S w cs x:=∃ (a0:Option Addr) (c0:Nat),cs=[.slice a0 x.Py.length c0]∧iR S w a0 c0 x.Py
  own w cs F x:=∃ (a0:Option Addr) (c0:Nat),cs=[.slice a0 x.Py.length c0]∧iT [sl a0 c0 x.Py] w F
  kY:=by rintro _ _ _ _ ⟨a0,c0,rfl,_⟩;rfl
  ja:=by rintro _ _ _ _ ⟨a0,c0,rfl,_⟩;rfl
  kn:=by rintro _ _ _ _ _ ⟨a0,c0,rfl,h0⟩ hk;exact ⟨a0,c0,rfl,h0.mw hk⟩
  ko:=by rintro _ _ _ _ _ ⟨a0,c0,rfl,h0⟩ hk;exact ⟨a0,c0,rfl,h0.mono hk⟩
  jI:=by rintro _ _ _ _ _ ⟨a0,c0,rfl,h⟩ hk;exact ⟨a0,c0,rfl,h.frame hk⟩
  kX:=by rintro _ _ _ _ _ ⟨a0,c0,rfl,h⟩ hk;exact ⟨a0,c0,rfl,iT.mg h 0 rfl hk⟩
  kb:=by rintro _ _ _ _ ⟨a0,c0,rfl,_⟩;simp [Value.oneCell']
  jl _:=⟨none,0,rfl,⟨[],[],rfl,.inl ⟨rfl,rfl,rfl,rfl⟩,rfl⟩⟩
structure gP where
  Pw:Int
  Pf:Int
  box:Int
  Pu:Int
  iz:Int
  gE:Int
  Pq:Int
  iy:Int
  im:Int
  Ps:Bool
  gZ:List Int
  Po:List Int
  Pk:List iM
  deriving DecidableEq
instance:hD gP where
  ty:=101
  sz:=13
  zero:=⟨0,0,0,0,0,0,0,0,0,false,[],[],[]⟩
  zc:=[.int .i64 0,.int .i64 0,.int .i64 0,.int .i64 0,.int .i64 0,.int .i64 0,.int .i64 0,.int .i64 0,.int .i64 0,.bool false,.slice none 0 0,.slice none 0 0,.slice none 0 0]
  pos:=by omega
  rd S w cs x:=∃ (a10:Option Addr) (c10:Nat) (a11:Option Addr) (c11:Nat) (a12:Option Addr) (c12:Nat),cs=[.int .i64 x.Pw,.int .i64 x.Pf,.int .i64 x.box,.int .i64 x.Pu,.int .i64 x.iz,.int .i64 x.gE,.int .i64 x.Pq,.int .i64 x.iy,.int .i64 x.im,.bool x.Ps,.slice a10 x.gZ.length c10,.slice a11 x.Po.length c11,.slice a12 x.Pk.length c12]∧iR S w a10 c10 x.gZ∧iR S w a11 c11 x.Po∧iR S w a12 c12 x.Pk
  own w cs F x:=∃ (a10:Option Addr) (c10:Nat) (a11:Option Addr) (c11:Nat) (a12:Option Addr) (c12:Nat),cs=[.int .i64 x.Pw,.int .i64 x.Pf,.int .i64 x.box,.int .i64 x.Pu,.int .i64 x.iz,.int .i64 x.gE,.int .i64 x.Pq,.int .i64 x.iy,.int .i64 x.im,.bool x.Ps,.slice a10 x.gZ.length c10,.slice a11 x.Po.length c11,.slice a12 x.Pk.length c12]∧iT [sl a10 c10 x.gZ,sl a11 c11 x.Po,sl a12 c12 x.Pk] w F
  kY:=by rintro _ _ _ _ ⟨a10,c10,a11,c11,a12,c12,rfl,_⟩;rfl
  ja:=by rintro _ _ _ _ ⟨a10,c10,a11,c11,a12,c12,rfl,_⟩;rfl
  kn:=by rintro _ _ _ _ _ ⟨a10,c10,a11,c11,a12,c12,rfl,h10,h11,h12⟩ hk;exact ⟨a10,c10,a11,c11,a12,c12,rfl,h10.mw hk,h11.mw hk,h12.mw hk⟩
  ko:=by rintro _ _ _ _ _ ⟨a10,c10,a11,c11,a12,c12,rfl,h10,h11,h12⟩ hk;exact ⟨a10,c10,a11,c11,a12,c12,rfl,h10.mono hk,h11.mono hk,h12.mono hk⟩
  jI:=by rintro _ _ _ _ _ ⟨a10,c10,a11,c11,a12,c12,rfl,h⟩ hk;exact ⟨a10,c10,a11,c11,a12,c12,rfl,h.frame hk⟩
  kX:=by rintro _ _ _ _ _ ⟨a10,c10,a11,c11,a12,c12,rfl,h⟩ hk;exact ⟨a10,c10,a11,c11,a12,c12,rfl,iT.mg h 0 rfl hk,iT.mg h 1 rfl hk,iT.mg h 2 rfl hk⟩
  kb:=by rintro _ _ _ _ ⟨a10,c10,a11,c11,a12,c12,rfl,_⟩;simp [Value.oneCell']
  jl _:=⟨none,0,none,0,none,0,rfl,⟨[],[],rfl,.inl ⟨rfl,rfl,rfl,rfl⟩,⟨[],[],rfl,.inl ⟨rfl,rfl,rfl,rfl⟩,⟨[],[],rfl,.inl ⟨rfl,rfl,rfl,rfl⟩,rfl⟩⟩⟩⟩
structure i7 where
  Ph:Int
  Pr:Int
  Pj:Int
  gQ:List Int
  deriving DecidableEq
instance:hD i7 where
  ty:=43
  sz:=4
  zero:=⟨0,0,0,[]⟩
  zc:=[.int .i64 0,.int .i64 0,.int .i64 0,.slice none 0 0]
  pos:=by omega
  rd S w cs x:=∃ (a3:Option Addr) (c3:Nat),cs=[.int .i64 x.Ph,.int .i64 x.Pr,.int .i64 x.Pj,.slice a3 x.gQ.length c3]∧iR S w a3 c3 x.gQ
  own w cs F x:=∃ (a3:Option Addr) (c3:Nat),cs=[.int .i64 x.Ph,.int .i64 x.Pr,.int .i64 x.Pj,.slice a3 x.gQ.length c3]∧iT [sl a3 c3 x.gQ] w F
  kY:=by rintro _ _ _ _ ⟨a3,c3,rfl,_⟩;rfl
  ja:=by rintro _ _ _ _ ⟨a3,c3,rfl,_⟩;rfl
  kn:=by rintro _ _ _ _ _ ⟨a3,c3,rfl,h3⟩ hk;exact ⟨a3,c3,rfl,h3.mw hk⟩
  ko:=by rintro _ _ _ _ _ ⟨a3,c3,rfl,h3⟩ hk;exact ⟨a3,c3,rfl,h3.mono hk⟩
  jI:=by rintro _ _ _ _ _ ⟨a3,c3,rfl,h⟩ hk;exact ⟨a3,c3,rfl,h.frame hk⟩
  kX:=by rintro _ _ _ _ _ ⟨a3,c3,rfl,h⟩ hk;exact ⟨a3,c3,rfl,iT.mg h 0 rfl hk⟩
  kb:=by rintro _ _ _ _ ⟨a3,c3,rfl,_⟩;simp [Value.oneCell']
  jl _:=⟨none,0,rfl,⟨[],[],rfl,.inl ⟨rfl,rfl,rfl,rfl⟩,rfl⟩⟩
structure g7 where
  ag:List gP
  gc:i7
  deriving DecidableEq
instance:hD g7 where
  ty:=45
  sz:=5
  zero:=⟨[],⟨0,0,0,[]⟩⟩
  zc:=[.slice none 0 0,.int .i64 0,.int .i64 0,.int .i64 0,.slice none 0 0]
  pos:=by omega
  rd S w cs x:=∃ (a0:Option Addr) (c0:Nat) (a4:Option Addr) (c4:Nat),cs=[.slice a0 x.ag.length c0,.int .i64 x.gc.Ph,.int .i64 x.gc.Pr,.int .i64 x.gc.Pj,.slice a4 x.gc.gQ.length c4]∧iR S w a0 c0 x.ag∧iR S w a4 c4 x.gc.gQ
  own w cs F x:=∃ (a0:Option Addr) (c0:Nat) (a4:Option Addr) (c4:Nat),cs=[.slice a0 x.ag.length c0,.int .i64 x.gc.Ph,.int .i64 x.gc.Pr,.int .i64 x.gc.Pj,.slice a4 x.gc.gQ.length c4]∧iT [sl a0 c0 x.ag,sl a4 c4 x.gc.gQ] w F
  kY:=by rintro _ _ _ _ ⟨a0,c0,a4,c4,rfl,_⟩;rfl
  ja:=by rintro _ _ _ _ ⟨a0,c0,a4,c4,rfl,_⟩;rfl
  kn:=by rintro _ _ _ _ _ ⟨a0,c0,a4,c4,rfl,h0,h4⟩ hk;exact ⟨a0,c0,a4,c4,rfl,h0.mw hk,h4.mw hk⟩
  ko:=by rintro _ _ _ _ _ ⟨a0,c0,a4,c4,rfl,h0,h4⟩ hk;exact ⟨a0,c0,a4,c4,rfl,h0.mono hk,h4.mono hk⟩
  jI:=by rintro _ _ _ _ _ ⟨a0,c0,a4,c4,rfl,h⟩ hk;exact ⟨a0,c0,a4,c4,rfl,h.frame hk⟩
  kX:=by rintro _ _ _ _ _ ⟨a0,c0,a4,c4,rfl,h⟩ hk;exact ⟨a0,c0,a4,c4,rfl,iT.mg h 0 rfl hk,iT.mg h 1 rfl hk⟩
  kb:=by rintro _ _ _ _ ⟨a0,c0,a4,c4,rfl,_⟩;simp [Value.oneCell']
  jl _:=⟨none,0,none,0,rfl,⟨[],[],rfl,.inl ⟨rfl,rfl,rfl,rfl⟩,⟨[],[],rfl,.inl ⟨rfl,rfl,rfl,rfl⟩,rfl⟩⟩⟩
structure bh where
  Pe:iY
  own:List Int
  Pg:List g6
  py:g7
  gR:List iB
  Pn:Int
  Pp:Int
  cd:hO
  g5:Int
  Pm:Int
  deriving DecidableEq
instance:hD bh where
  ty:=50
  sz:=16
  zero:=⟨⟨[]⟩,[],[],⟨[],⟨0,0,0,[]⟩⟩,[],0,0,⟨0,0,0⟩,0,0⟩
  zc:=[.slice none 0 0,.slice none 0 0,.slice none 0 0,.slice none 0 0,.int .i64 0,.int .i64 0,.int .i64 0,.slice none 0 0,.slice none 0 0,.int .i64 0,.int .i64 0,.int .i64 0,.int .i64 0,.int .i64 0,.int .i64 0,.int .i64 0]
  pos:=by omega
  rd S w cs x:=∃ (a0:Option Addr) (c0:Nat) (a1:Option Addr) (c1:Nat) (a2:Option Addr) (c2:Nat) (a3:Option Addr) (c3:Nat) (a7:Option Addr) (c7:Nat) (a8:Option Addr) (c8:Nat),cs=[.slice a0 x.Pe.Pd.length c0,.slice a1 x.own.length c1,.slice a2 x.Pg.length c2,.slice a3 x.py.ag.length c3,.int .i64 x.py.gc.Ph,.int .i64 x.py.gc.Pr,.int .i64 x.py.gc.Pj,.slice a7 x.py.gc.gQ.length c7,.slice a8 x.gR.length c8,.int .i64 x.Pn,.int .i64 x.Pp,.int .i64 x.cd.gE,.int .i64 x.cd.gX,.int .i64 x.cd.g8,.int .i64 x.g5,.int .i64 x.Pm]∧iR S w a0 c0 x.Pe.Pd∧iR S w a1 c1 x.own∧iR S w a2 c2 x.Pg∧iR S w a3 c3 x.py.ag∧iR S w a7 c7 x.py.gc.gQ∧iR S w a8 c8 x.gR
  own w cs F x:=∃ (a0:Option Addr) (c0:Nat) (a1:Option Addr) (c1:Nat) (a2:Option Addr) (c2:Nat) (a3:Option Addr) (c3:Nat) (a7:Option Addr) (c7:Nat) (a8:Option Addr) (c8:Nat),cs=[.slice a0 x.Pe.Pd.length c0,.slice a1 x.own.length c1,.slice a2 x.Pg.length c2,.slice a3 x.py.ag.length c3,.int .i64 x.py.gc.Ph,.int .i64 x.py.gc.Pr,.int .i64 x.py.gc.Pj,.slice a7 x.py.gc.gQ.length c7,.slice a8 x.gR.length c8,.int .i64 x.Pn,.int .i64 x.Pp,.int .i64 x.cd.gE,.int .i64 x.cd.gX,.int .i64 x.cd.g8,.int .i64 x.g5,.int .i64 x.Pm]∧iT [sl a0 c0 x.Pe.Pd,sl a1 c1 x.own,sl a2 c2 x.Pg,sl a3 c3 x.py.ag,sl a7 c7 x.py.gc.gQ,sl a8 c8 x.gR] w F
  kY:=by rintro _ _ _ _ ⟨a0,c0,a1,c1,a2,c2,a3,c3,a7,c7,a8,c8,rfl,_⟩;rfl
  ja:=by rintro _ _ _ _ ⟨a0,c0,a1,c1,a2,c2,a3,c3,a7,c7,a8,c8,rfl,_⟩;rfl
  kn:=by rintro _ _ _ _ _ ⟨a0,c0,a1,c1,a2,c2,a3,c3,a7,c7,a8,c8,rfl,h0,h1,h2,h3,h7,h8⟩ hk;exact ⟨a0,c0,a1,c1,a2,c2,a3,c3,a7,c7,a8,c8,rfl,h0.mw hk,h1.mw hk,h2.mw hk,h3.mw hk,h7.mw hk,h8.mw hk⟩
  ko:=by rintro _ _ _ _ _ ⟨a0,c0,a1,c1,a2,c2,a3,c3,a7,c7,a8,c8,rfl,h0,h1,h2,h3,h7,h8⟩ hk;exact ⟨a0,c0,a1,c1,a2,c2,a3,c3,a7,c7,a8,c8,rfl,h0.mono hk,h1.mono hk,h2.mono hk,h3.mono hk,h7.mono hk,h8.mono hk⟩
  jI:=by rintro _ _ _ _ _ ⟨a0,c0,a1,c1,a2,c2,a3,c3,a7,c7,a8,c8,rfl,h⟩ hk;exact ⟨a0,c0,a1,c1,a2,c2,a3,c3,a7,c7,a8,c8,rfl,h.frame hk⟩
  kX:=by rintro _ _ _ _ _ ⟨a0,c0,a1,c1,a2,c2,a3,c3,a7,c7,a8,c8,rfl,h⟩ hk;exact ⟨a0,c0,a1,c1,a2,c2,a3,c3,a7,c7,a8,c8,rfl,iT.mg h 0 rfl hk,iT.mg h 1 rfl hk,iT.mg h 2 rfl hk,iT.mg h 3 rfl hk,iT.mg h 4 rfl hk,iT.mg h 5 rfl hk⟩
  kb:=by rintro _ _ _ _ ⟨a0,c0,a1,c1,a2,c2,a3,c3,a7,c7,a8,c8,rfl,_⟩;simp [Value.oneCell']
  jl _:=⟨none,0,none,0,none,0,none,0,none,0,none,0,rfl,⟨[],[],rfl,.inl ⟨rfl,rfl,rfl,rfl⟩,⟨[],[],rfl,.inl ⟨rfl,rfl,rfl,rfl⟩,⟨[],[],rfl,.inl ⟨rfl,rfl,rfl,rfl⟩,⟨[],[],rfl,.inl ⟨rfl,rfl,rfl,rfl⟩,⟨[],[],rfl,.inl ⟨rfl,rfl,rfl,rfl⟩,⟨[],[],rfl,.inl ⟨rfl,rfl,rfl,rfl⟩,rfl⟩⟩⟩⟩⟩⟩⟩
structure hJ where
  Pt:Int
  parts:List bh
  deriving DecidableEq
instance:hD hJ where
  ty:=26
  sz:=2
  zero:=⟨0,[]⟩
  zc:=[.int .i64 0,.slice none 0 0]
  pos:=by omega
  rd S w cs x:=∃ (a1:Option Addr) (c1:Nat),cs=[.int .i64 x.Pt,.slice a1 x.parts.length c1]∧iR S w a1 c1 x.parts
  own w cs F x:=∃ (a1:Option Addr) (c1:Nat),cs=[.int .i64 x.Pt,.slice a1 x.parts.length c1]∧iT [sl a1 c1 x.parts] w F
  kY:=by rintro _ _ _ _ ⟨a1,c1,rfl,_⟩;rfl
  ja:=by rintro _ _ _ _ ⟨a1,c1,rfl,_⟩;rfl
  kn:=by rintro _ _ _ _ _ ⟨a1,c1,rfl,h1⟩ hk;exact ⟨a1,c1,rfl,h1.mw hk⟩
  ko:=by rintro _ _ _ _ _ ⟨a1,c1,rfl,h1⟩ hk;exact ⟨a1,c1,rfl,h1.mono hk⟩
  jI:=by rintro _ _ _ _ _ ⟨a1,c1,rfl,h⟩ hk;exact ⟨a1,c1,rfl,h.frame hk⟩
  kX:=by rintro _ _ _ _ _ ⟨a1,c1,rfl,h⟩ hk;exact ⟨a1,c1,rfl,iT.mg h 0 rfl hk⟩
  kb:=by rintro _ _ _ _ ⟨a1,c1,rfl,_⟩;simp [Value.oneCell']
  jl _:=⟨none,0,rfl,⟨[],[],rfl,.inl ⟨rfl,rfl,rfl,rfl⟩,rfl⟩⟩
structure iu where
  Pc:bh
  me:Int
  Pt:Int
  ir:Int
  deriving DecidableEq
structure jH where
  Pe:iY
  own:List Int
  Pg:Hd
  py:g7
  gR:List iB
  Pn:Int
  Pp:Int
  cd:hO
  g5:Int
  Pm:Int
instance:hD jH where
  ty:=50
  sz:=16
  zero:=⟨⟨[]⟩,[],⟨none,0,0⟩,⟨[],⟨0,0,0,[]⟩⟩,[],0,0,⟨0,0,0⟩,0,0⟩
  zc:=[.slice none 0 0,.slice none 0 0,.slice none 0 0,.slice none 0 0,.int .i64 0,.int .i64 0,.int .i64 0,.slice none 0 0,.slice none 0 0,.int .i64 0,.int .i64 0,.int .i64 0,.int .i64 0,.int .i64 0,.int .i64 0,.int .i64 0]
  pos:=by omega
  rd S w cs x:=∃ (a0:Option Addr) (c0:Nat) (a1:Option Addr) (c1:Nat) (a3:Option Addr) (c3:Nat) (a7:Option Addr) (c7:Nat) (a8:Option Addr) (c8:Nat),cs=[.slice a0 x.Pe.Pd.length c0,.slice a1 x.own.length c1,.slice x.Pg.a x.Pg.n x.Pg.c,.slice a3 x.py.ag.length c3,.int .i64 x.py.gc.Ph,.int .i64 x.py.gc.Pr,.int .i64 x.py.gc.Pj,.slice a7 x.py.gc.gQ.length c7,.slice a8 x.gR.length c8,.int .i64 x.Pn,.int .i64 x.Pp,.int .i64 x.cd.gE,.int .i64 x.cd.gX,.int .i64 x.cd.g8,.int .i64 x.g5,.int .i64 x.Pm]∧iR S w a0 c0 x.Pe.Pd∧iR S w a1 c1 x.own∧iR S w a3 c3 x.py.ag∧iR S w a7 c7 x.py.gc.gQ∧iR S w a8 c8 x.gR
  own w cs F x:=∃ (a0:Option Addr) (c0:Nat) (a1:Option Addr) (c1:Nat) (a3:Option Addr) (c3:Nat) (a7:Option Addr) (c7:Nat) (a8:Option Addr) (c8:Nat),cs=[.slice a0 x.Pe.Pd.length c0,.slice a1 x.own.length c1,.slice x.Pg.a x.Pg.n x.Pg.c,.slice a3 x.py.ag.length c3,.int .i64 x.py.gc.Ph,.int .i64 x.py.gc.Pr,.int .i64 x.py.gc.Pj,.slice a7 x.py.gc.gQ.length c7,.slice a8 x.gR.length c8,.int .i64 x.Pn,.int .i64 x.Pp,.int .i64 x.cd.gE,.int .i64 x.cd.gX,.int .i64 x.cd.g8,.int .i64 x.g5,.int .i64 x.Pm]∧iT [sl a0 c0 x.Pe.Pd,sl a1 c1 x.own,sl a3 c3 x.py.ag,sl a7 c7 x.py.gc.gQ,sl a8 c8 x.gR] w F
  kY:=by rintro _ _ _ _ ⟨a0,c0,a1,c1,a3,c3,a7,c7,a8,c8,rfl,_⟩;rfl
  ja:=by rintro _ _ _ _ ⟨a0,c0,a1,c1,a3,c3,a7,c7,a8,c8,rfl,_⟩;rfl
  kn:=by rintro _ _ _ _ _ ⟨a0,c0,a1,c1,a3,c3,a7,c7,a8,c8,rfl,h0,h1,h3,h7,h8⟩ hk;exact ⟨a0,c0,a1,c1,a3,c3,a7,c7,a8,c8,rfl,h0.mw hk,h1.mw hk,h3.mw hk,h7.mw hk,h8.mw hk⟩
  ko:=by rintro _ _ _ _ _ ⟨a0,c0,a1,c1,a3,c3,a7,c7,a8,c8,rfl,h0,h1,h3,h7,h8⟩ hk;exact ⟨a0,c0,a1,c1,a3,c3,a7,c7,a8,c8,rfl,h0.mono hk,h1.mono hk,h3.mono hk,h7.mono hk,h8.mono hk⟩
  jI:=by rintro _ _ _ _ _ ⟨a0,c0,a1,c1,a3,c3,a7,c7,a8,c8,rfl,h⟩ hk;exact ⟨a0,c0,a1,c1,a3,c3,a7,c7,a8,c8,rfl,h.frame hk⟩
  kX:=by rintro _ _ _ _ _ ⟨a0,c0,a1,c1,a3,c3,a7,c7,a8,c8,rfl,h⟩ hk;exact ⟨a0,c0,a1,c1,a3,c3,a7,c7,a8,c8,rfl,iT.mg h 0 rfl hk,iT.mg h 1 rfl hk,iT.mg h 2 rfl hk,iT.mg h 3 rfl hk,iT.mg h 4 rfl hk⟩
  kb:=by rintro _ _ _ _ ⟨a0,c0,a1,c1,a3,c3,a7,c7,a8,c8,rfl,_⟩;simp [Value.oneCell']
  jl _:=⟨none,0,none,0,none,0,none,0,none,0,rfl,⟨[],[],rfl,.inl ⟨rfl,rfl,rfl,rfl⟩,⟨[],[],rfl,.inl ⟨rfl,rfl,rfl,rfl⟩,⟨[],[],rfl,.inl ⟨rfl,rfl,rfl,rfl⟩,⟨[],[],rfl,.inl ⟨rfl,rfl,rfl,rfl⟩,⟨[],[],rfl,.inl ⟨rfl,rfl,rfl,rfl⟩,rfl⟩⟩⟩⟩⟩⟩
structure jM where
  Py:Hd
instance:hD jM where
  ty:=228
  sz:=1
  zero:=⟨⟨none,0,0⟩⟩
  zc:=[.slice none 0 0]
  pos:=by omega
  rd _ _ cs x:=cs=[.slice x.Py.a x.Py.n x.Py.c]
  own _ cs F x:=cs=[.slice x.Py.a x.Py.n x.Py.c]∧F=[]
  kY:=by rintro _ _ _ _ rfl;rfl
  ja:=by rintro _ _ _ _ ⟨rfl,_⟩;rfl
  kn h _:=h
  ko h _:=h
  jI h _:=h
  kX h _:=h.1
  kb:=by rintro _ _ _ _ ⟨rfl,_⟩;simp [Value.oneCell']
  jl _:=⟨rfl,rfl⟩
instance:Flat jM:=⟨fun h=>⟨h,rfl⟩⟩
structure pP where
  Pw:Int
  Pf:Int
  box:Int
  Pu:Int
  iz:Int
  gE:Int
  Pq:Int
  iy:Int
  im:Int
  Ps:Bool
  deriving DecidableEq
instance:hD pP where
  ty:=101
  sz:=13
  zero:=⟨0,0,0,0,0,0,0,0,0,false⟩
  zc:=[.int .i64 0,.int .i64 0,.int .i64 0,.int .i64 0,.int .i64 0,.int .i64 0,.int .i64 0,.int .i64 0,.int .i64 0,.bool false,.slice none 0 0,.slice none 0 0,.slice none 0 0]
  pos:=by omega
  rd _ _ cs x:=∃ (a0:Option Addr) (n0 c0:Nat) (a1:Option Addr) (n1 c1:Nat) (a2:Option Addr) (n2 c2:Nat),cs=[.int .i64 x.Pw,.int .i64 x.Pf,.int .i64 x.box,.int .i64 x.Pu,.int .i64 x.iz,.int .i64 x.gE,.int .i64 x.Pq,.int .i64 x.iy,.int .i64 x.im,.bool x.Ps,.slice a0 n0 c0,.slice a1 n1 c1,.slice a2 n2 c2]
  own _ cs F x:=(∃ (a0:Option Addr) (n0 c0:Nat) (a1:Option Addr) (n1 c1:Nat) (a2:Option Addr) (n2 c2:Nat),cs=[.int .i64 x.Pw,.int .i64 x.Pf,.int .i64 x.box,.int .i64 x.Pu,.int .i64 x.iz,.int .i64 x.gE,.int .i64 x.Pq,.int .i64 x.iy,.int .i64 x.im,.bool x.Ps,.slice a0 n0 c0,.slice a1 n1 c1,.slice a2 n2 c2])∧F=[]
  kY:=by rintro _ _ _ _ ⟨a0,n0,c0,a1,n1,c1,a2,n2,c2,rfl⟩;rfl
  ja:=by rintro _ _ _ _ ⟨⟨a0,n0,c0,a1,n1,c1,a2,n2,c2,rfl⟩,_⟩;rfl
  kn h _:=h
  ko h _:=h
  jI h _:=h
  kX h _:=h.1
  kb:=by rintro _ _ _ _ ⟨⟨a0,n0,c0,a1,n1,c1,a2,n2,c2,rfl⟩,_⟩;simp [Value.oneCell']
  jl _:=⟨⟨_,_,_,_,_,_,_,_,_,rfl⟩,rfl⟩
def kQ (l:List bh):List (List g6):=l.map fun p=>p.Pg
def lr (l:List iC):List (List g6):=l.map fun t=>t.Py
def ku (l:List bh):List iC:=(kQ l).map iC.mk
def tJ (p:bh) (t:List g6):bh:=bh.mk p.Pe p.own t p.py p.gR p.Pn p.Pp p.cd p.g5 p.Pm
def ky (l:List bh) (ts:List (List g6)):List bh:=List.zipWith tJ l ts
def gd (b:Bool):Option Unit:=bif b then some () else none
class Fit (α:Type) where
  fit:α→Prop
instance:Fit Int:=⟨fun x=>-9223372036854775808≤x∧x≤9223372036854775807⟩
instance:Fit Bool:=⟨fun _=>True⟩
instance:Fit U8:=⟨fun x=>0≤x.v∧x.v≤255⟩
instance {α:Type} [Fit α]:Fit (List α):=⟨fun l=>l.length≤maxLen∧∀ y,y ∈ l→Fit.fit y⟩
instance:Fit hO:=⟨fun x=>Fit.fit x.gE∧Fit.fit x.gX∧Fit.fit x.g8⟩
instance:Fit iA:=⟨fun x=>Fit.fit x.Pf∧Fit.fit x.a∧Fit.fit x.b∧Fit.fit x.c∧Fit.fit x.d∧Fit.fit x.e⟩
instance:Fit iK:=⟨fun x=>Fit.fit x.Pf∧Fit.fit x.Pc∧Fit.fit x.ir∧Fit.fit x.call⟩
instance:Fit hX:=⟨fun x=>Fit.fit x.code∧Fit.fit x.Pz⟩
instance:Fit g6:=⟨fun x=>Fit.fit x.Px∧Fit.fit x.Pv∧Fit.fit x.iH⟩
instance:Fit iB:=⟨fun x=>Fit.fit x.Pu∧Fit.fit x.jy∧Fit.fit x.kJ∧Fit.fit x.jR∧Fit.fit x.Pf∧Fit.fit x.ka⟩
instance:Fit iM:=⟨fun x=>Fit.fit x.PA∧Fit.fit x.n⟩
instance:Fit iY:=⟨fun x=>Fit.fit x.Pd⟩
instance:Fit iO:=⟨fun x=>Fit.fit x.Pe∧Fit.fit x.own∧Fit.fit x.j6⟩
instance:Fit iC:=⟨fun x=>Fit.fit x.Py⟩
instance:Fit gP:=⟨fun x=>Fit.fit x.Pw∧Fit.fit x.Pf∧Fit.fit x.box∧Fit.fit x.Pu∧Fit.fit x.iz∧Fit.fit x.gE∧Fit.fit x.Pq∧Fit.fit x.iy∧Fit.fit x.im∧Fit.fit x.Ps∧Fit.fit x.gZ∧Fit.fit x.Po∧Fit.fit x.Pk⟩
instance:Fit i7:=⟨fun x=>Fit.fit x.Ph∧Fit.fit x.Pr∧Fit.fit x.Pj∧Fit.fit x.gQ⟩
instance:Fit g7:=⟨fun x=>Fit.fit x.ag∧Fit.fit x.gc⟩
instance:Fit bh:=⟨fun x=>Fit.fit x.Pe∧Fit.fit x.own∧Fit.fit x.Pg∧Fit.fit x.py∧Fit.fit x.gR∧Fit.fit x.Pn∧Fit.fit x.Pp∧Fit.fit x.cd∧Fit.fit x.g5∧Fit.fit x.Pm⟩
instance:Fit hJ:=⟨fun x=>Fit.fit x.Pt∧Fit.fit x.parts⟩
instance:Fit iu:=⟨fun x=>Fit.fit x.Pc∧Fit.fit x.me∧Fit.fit x.Pt∧Fit.fit x.ir⟩
end Go.Kx
