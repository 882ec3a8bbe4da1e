import Derived.Test.YtlcgibcdiikheaaGreatOwn
namespace Go.Kx
open Go Go.RowKit
open Go.IntKind (i64)
set_option linter.unusedVariables false
set_option linter.unusedSimpArgs false
instance:gT Int where
  ty:=3
  sz:=1
  zero:=0
  zc:=[.int .i64 0]
  pos:=by omega
  rd _ _ cs x:=cs=[.int .i64 x]
  own _ cs F x:=cs=[.int .i64 x]∧F=[]
  j5:=by rintro _ _ _ _ rfl;rfl
  iJ:=by rintro _ _ _ _ ⟨rfl,_⟩;rfl
  jE h _:=h
  jI h _:=h
  jd h _:=h
  j4 h _:=h.1
  jt:=by rintro _ _ _ _ ⟨rfl,_⟩;simp [Value.oneCell']
  iV _:=⟨rfl,rfl⟩
instance:Flat Int:=⟨fun h=>⟨h,rfl⟩⟩
instance:gT Bool where
  ty:=4
  sz:=1
  zero:=false
  zc:=[.bool false]
  pos:=by omega
  rd _ _ cs x:=cs=[.bool x]
  own _ cs F x:=cs=[.bool x]∧F=[]
  j5:=by rintro _ _ _ _ rfl;rfl
  iJ:=by rintro _ _ _ _ ⟨rfl,_⟩;rfl
  jE h _:=h
  jI h _:=h
  jd h _:=h
  j4 h _:=h.1
  jt:=by rintro _ _ _ _ ⟨rfl,_⟩;simp [Value.oneCell']
  iV _:=⟨rfl,rfl⟩
instance:Flat Bool:=⟨fun h=>⟨h,rfl⟩⟩
abbrev Gw:=ByteArray
instance:gT Gw where
  ty:=9
  sz:=1
  zero:=⟨#[]⟩
  zc:=[.string ⟨#[]⟩]
  pos:=by omega
  rd _ _ cs x:=cs=[.string x]
  own _ cs F x:=cs=[.string x]∧F=[]
  j5:=by rintro _ _ _ _ rfl;rfl
  iJ:=by rintro _ _ _ _ ⟨rfl,_⟩;rfl
  jE h _:=h
  jI h _:=h
  jd h _:=h
  j4 h _:=h.1
  jt:=by rintro _ _ _ _ ⟨rfl,_⟩;simp [Value.oneCell']
  iV _:=⟨rfl,rfl⟩
instance:Flat Gw:=⟨fun h=>⟨h,rfl⟩⟩
structure U8 where
  v:Int
  deriving DecidableEq
instance:gT U8 where
  ty:=5
  sz:=1
  zero:=⟨0⟩
  zc:=[.int .u8 0]
  pos:=by omega
  rd _ _ cs x:=cs=[.int .u8 x.v]
  own _ cs F x:=cs=[.int .u8 x.v]∧F=[]
  j5:=by rintro _ _ _ _ rfl;rfl
  iJ:=by rintro _ _ _ _ ⟨rfl,_⟩;rfl
  jE h _:=h
  jI h _:=h
  jd h _:=h
  j4 h _:=h.1
  jt:=by rintro _ _ _ _ ⟨rfl,_⟩;simp [Value.oneCell']
  iV _:=⟨rfl,rfl⟩
instance:Flat U8:=⟨fun h=>⟨h,rfl⟩⟩
def tj (a b:Int):Int:=i64.wrap ((BitVec.ofInt IntKind.i64.bits a &&& BitVec.ofInt IntKind.i64.bits b).toNat:Int)
def FO (a b:Int):Int:=i64.wrap ((BitVec.ofInt IntKind.i64.bits a ^^^ BitVec.ofInt IntKind.i64.bits b).toNat:Int)
def A4 (a b:Int):Int:=a.fdiv (2 ^ (min b.toNat IntKind.i64.bits))
structure Hd where
  a:Option Addr
  n:Nat
  c:Nat
structure ig where
  gE:Int
  gV:Int
  hY:Int
  deriving DecidableEq
instance:gT ig where
  ty:=48
  sz:=3
  zero:=⟨0,0,0⟩
  zc:=[.int .i64 0,.int .i64 0,.int .i64 0]
  pos:=by omega
  rd _ _ cs x:=cs=[.int .i64 x.gE,.int .i64 x.gV,.int .i64 x.hY]
  own _ cs F x:=cs=[.int .i64 x.gE,.int .i64 x.gV,.int .i64 x.hY]∧F=[]
  j5:=by rintro _ _ _ _ rfl;rfl
  iJ:=by rintro _ _ _ _ ⟨rfl,_⟩;rfl
  jE h _:=h
  jI h _:=h
  jd h _:=h
  j4 h _:=h.1
  jt:=by rintro _ _ _ _ ⟨rfl,_⟩;simp [Value.oneCell']
  iV _:=⟨rfl,rfl⟩
instance:Flat ig:=⟨fun h=>⟨h,rfl⟩⟩
structure il where
  HA:Int
  a:Int
  b:Int
  c:Int
  d:Int
  e:Int
  deriving DecidableEq
instance:gT il where
  ty:=28
  sz:=6
  zero:=⟨0,0,0,0,0,0⟩
  zc:=[.int .i64 0,.int .i64 0,.int .i64 0,.int .i64 0,.int .i64 0,.int .i64 0]
  pos:=by omega
  rd _ _ cs x:=cs=[.int .i64 x.HA,.int .i64 x.a,.int .i64 x.b,.int .i64 x.c,.int .i64 x.d,.int .i64 x.e]
  own _ cs F x:=cs=[.int .i64 x.HA,.int .i64 x.a,.int .i64 x.b,.int .i64 x.c,.int .i64 x.d,.int .i64 x.e]∧F=[]
  j5:=by rintro _ _ _ _ rfl;rfl
  iJ:=by rintro _ _ _ _ ⟨rfl,_⟩;rfl
  jE h _:=h
  jI h _:=h
  jd h _:=h
  j4 h _:=h.1
  jt:=by rintro _ _ _ _ ⟨rfl,_⟩;simp [Value.oneCell']
  iV _:=⟨rfl,rfl⟩
instance:Flat il:=⟨fun h=>⟨h,rfl⟩⟩
structure iq where
  HA:Int
  HS:Int
  jC:Int
  call:il
  deriving DecidableEq
instance:gT iq where
  ty:=62
  sz:=9
  zero:=⟨0,0,0,⟨0,0,0,0,0,0⟩⟩
  zc:=[.int .i64 0,.int .i64 0,.int .i64 0,.int .i64 0,.int .i64 0,.int .i64 0,.int .i64 0,.int .i64 0,.int .i64 0]
  pos:=by omega
  rd _ _ cs x:=cs=[.int .i64 x.HA,.int .i64 x.HS,.int .i64 x.jC,.int .i64 x.call.HA,.int .i64 x.call.a,.int .i64 x.call.b,.int .i64 x.call.c,.int .i64 x.call.d,.int .i64 x.call.e]
  own _ cs F x:=cs=[.int .i64 x.HA,.int .i64 x.HS,.int .i64 x.jC,.int .i64 x.call.HA,.int .i64 x.call.a,.int .i64 x.call.b,.int .i64 x.call.c,.int .i64 x.call.d,.int .i64 x.call.e]∧F=[]
  j5:=by rintro _ _ _ _ rfl;rfl
  iJ:=by rintro _ _ _ _ ⟨rfl,_⟩;rfl
  jE h _:=h
  jI h _:=h
  jd h _:=h
  j4 h _:=h.1
  jt:=by rintro _ _ _ _ ⟨rfl,_⟩;simp [Value.oneCell']
  iV _:=⟨rfl,rfl⟩
instance:Flat iq:=⟨fun h=>⟨h,rfl⟩⟩
structure hZ where
  code:Int
  HU:Int
  deriving DecidableEq
instance:gT hZ where
  ty:=32
  sz:=2
  zero:=⟨0,0⟩
  zc:=[.int .i64 0,.int .i64 0]
  pos:=by omega
  rd _ _ cs x:=cs=[.int .i64 x.code,.int .i64 x.HU]
  own _ cs F x:=cs=[.int .i64 x.code,.int .i64 x.HU]∧F=[]
  j5:=by rintro _ _ _ _ rfl;rfl
  iJ:=by rintro _ _ _ _ ⟨rfl,_⟩;rfl
  jE h _:=h
  jI h _:=h
  jd h _:=h
  j4 h _:=h.1
  jt:=by rintro _ _ _ _ ⟨rfl,_⟩;simp [Value.oneCell']
  iV _:=⟨rfl,rfl⟩
instance:Flat hZ:=⟨fun h=>⟨h,rfl⟩⟩
structure gW where
  HN:Bool
  HO:Int
  iB:ig
  deriving DecidableEq
instance:gT gW where
  ty:=172
  sz:=5
  zero:=⟨false,0,⟨0,0,0⟩⟩
  zc:=[.bool false,.int .i64 0,.int .i64 0,.int .i64 0,.int .i64 0]
  pos:=by omega
  rd _ _ cs x:=cs=[.bool x.HN,.int .i64 x.HO,.int .i64 x.iB.gE,.int .i64 x.iB.gV,.int .i64 x.iB.hY]
  own _ cs F x:=cs=[.bool x.HN,.int .i64 x.HO,.int .i64 x.iB.gE,.int .i64 x.iB.gV,.int .i64 x.iB.hY]∧F=[]
  j5:=by rintro _ _ _ _ rfl;rfl
  iJ:=by rintro _ _ _ _ ⟨rfl,_⟩;rfl
  jE h _:=h
  jI h _:=h
  jd h _:=h
  j4 h _:=h.1
  jt:=by rintro _ _ _ _ ⟨rfl,_⟩;simp [Value.oneCell']
  iV _:=⟨rfl,rfl⟩
instance:Flat gW:=⟨fun h=>⟨h,rfl⟩⟩
structure iS where
  HP:Int
  j6:Int
  oq:Int
  mg:Int
  HA:Int
  mV:Int
  deriving DecidableEq
instance:gT iS where
  ty:=174
  sz:=6
  zero:=⟨0,0,0,0,0,0⟩
  zc:=[.int .i64 0,.int .i64 0,.int .i64 0,.int .i64 0,.int .i64 0,.int .i64 0]
  pos:=by omega
  rd _ _ cs x:=cs=[.int .i64 x.HP,.int .i64 x.j6,.int .i64 x.oq,.int .i64 x.mg,.int .i64 x.HA,.int .i64 x.mV]
  own _ cs F x:=cs=[.int .i64 x.HP,.int .i64 x.j6,.int .i64 x.oq,.int .i64 x.mg,.int .i64 x.HA,.int .i64 x.mV]∧F=[]
  j5:=by rintro _ _ _ _ rfl;rfl
  iJ:=by rintro _ _ _ _ ⟨rfl,_⟩;rfl
  jE h _:=h
  jI h _:=h
  jd h _:=h
  j4 h _:=h.1
  jt:=by rintro _ _ _ _ ⟨rfl,_⟩;simp [Value.oneCell']
  iV _:=⟨rfl,rfl⟩
instance:Flat iS:=⟨fun h=>⟨h,rfl⟩⟩
structure jg where
  HV:Int
  n:Int
  deriving DecidableEq
instance:gT jg where
  ty:=193
  sz:=2
  zero:=⟨0,0⟩
  zc:=[.int .i64 0,.int .i64 0]
  pos:=by omega
  rd _ _ cs x:=cs=[.int .i64 x.HV,.int .i64 x.n]
  own _ cs F x:=cs=[.int .i64 x.HV,.int .i64 x.n]∧F=[]
  j5:=by rintro _ _ _ _ rfl;rfl
  iJ:=by rintro _ _ _ _ ⟨rfl,_⟩;rfl
  jE h _:=h
  jI h _:=h
  jd h _:=h
  j4 h _:=h.1
  jt:=by rintro _ _ _ _ ⟨rfl,_⟩;simp [Value.oneCell']
  iV _:=⟨rfl,rfl⟩
instance:Flat jg:=⟨fun h=>⟨h,rfl⟩⟩
structure iO where
  Hz:List Int
  deriving DecidableEq
instance:gT iO where
  ty:=39
  sz:=1
  zero:=⟨[]⟩
  zc:=[.slice none 0 0]
  pos:=by omega
  rd S w cs x:=∃ (a0:Option Addr) (c0:Nat),cs=[.slice a0 x.Hz.length c0]∧iy S w a0 c0 x.Hz
  own w cs F x:=∃ (a0:Option Addr) (c0:Nat),cs=[.slice a0 x.Hz.length c0]∧iv [sl a0 c0 x.Hz] w F
  j5:=by rintro _ _ _ _ ⟨a0,c0,rfl,_⟩;rfl
  iJ:=by rintro _ _ _ _ ⟨a0,c0,rfl,_⟩;rfl
  jE:=by rintro _ _ _ _ _ ⟨a0,c0,rfl,h0⟩ hk;exact ⟨a0,c0,rfl,h0.kT hk⟩
  jI:=by rintro _ _ _ _ _ ⟨a0,c0,rfl,h0⟩ hk;exact ⟨a0,c0,rfl,h0.mono hk⟩
  jd:=by rintro _ _ _ _ _ ⟨a0,c0,rfl,h⟩ hk;exact ⟨a0,c0,rfl,h.frame hk⟩
  j4:=by rintro _ _ _ _ _ ⟨a0,c0,rfl,h⟩ hk;exact ⟨a0,c0,rfl,iv.kV h 0 rfl hk⟩
  jt:=by rintro _ _ _ _ ⟨a0,c0,rfl,_⟩;simp [Value.oneCell']
  iV _:=⟨none,0,rfl,⟨[],[],rfl,.inl ⟨rfl,rfl,rfl,rfl⟩,rfl⟩⟩
structure iu where
  HB:iO
  own:List Int
  i7:ig
  deriving DecidableEq
instance:gT iu where
  ty:=108
  sz:=5
  zero:=⟨⟨[]⟩,[],⟨0,0,0⟩⟩
  zc:=[.slice none 0 0,.slice none 0 0,.int .i64 0,.int .i64 0,.int .i64 0]
  pos:=by omega
  rd S w cs x:=∃ (a0:Option Addr) (c0:Nat) (a1:Option Addr) (c1:Nat),cs=[.slice a0 x.HB.Hz.length c0,.slice a1 x.own.length c1,.int .i64 x.i7.gE,.int .i64 x.i7.gV,.int .i64 x.i7.hY]∧iy S w a0 c0 x.HB.Hz∧iy S w a1 c1 x.own
  own w cs F x:=∃ (a0:Option Addr) (c0:Nat) (a1:Option Addr) (c1:Nat),cs=[.slice a0 x.HB.Hz.length c0,.slice a1 x.own.length c1,.int .i64 x.i7.gE,.int .i64 x.i7.gV,.int .i64 x.i7.hY]∧iv [sl a0 c0 x.HB.Hz,sl a1 c1 x.own] w F
  j5:=by rintro _ _ _ _ ⟨a0,c0,a1,c1,rfl,_⟩;rfl
  iJ:=by rintro _ _ _ _ ⟨a0,c0,a1,c1,rfl,_⟩;rfl
  jE:=by rintro _ _ _ _ _ ⟨a0,c0,a1,c1,rfl,h0,h1⟩ hk;exact ⟨a0,c0,a1,c1,rfl,h0.kT hk,h1.kT hk⟩
  jI:=by rintro _ _ _ _ _ ⟨a0,c0,a1,c1,rfl,h0,h1⟩ hk;exact ⟨a0,c0,a1,c1,rfl,h0.mono hk,h1.mono hk⟩
  jd:=by rintro _ _ _ _ _ ⟨a0,c0,a1,c1,rfl,h⟩ hk;exact ⟨a0,c0,a1,c1,rfl,h.frame hk⟩
  j4:=by rintro _ _ _ _ _ ⟨a0,c0,a1,c1,rfl,h⟩ hk;exact ⟨a0,c0,a1,c1,rfl,iv.kV h 0 rfl hk,iv.kV h 1 rfl hk⟩
  jt:=by rintro _ _ _ _ ⟨a0,c0,a1,c1,rfl,_⟩;simp [Value.oneCell']
  iV _:=⟨none,0,none,0,rfl,⟨[],[],rfl,.inl ⟨rfl,rfl,rfl,rfl⟩,⟨[],[],rfl,.inl ⟨rfl,rfl,rfl,rfl⟩,rfl⟩⟩⟩
structure iA where
  HT:List gW
  deriving DecidableEq
instance:gT iA where
  ty:=228
  sz:=1
  zero:=⟨[]⟩
  zc:=[.slice none 0 0]
  pos:=by omega
  rd S w cs x:=∃ (a0:Option Addr) (c0:Nat),cs=[.slice a0 x.HT.length c0]∧iy S w a0 c0 x.HT
  own w cs F x:=∃ (a0:Option Addr) (c0:Nat),cs=[.slice a0 x.HT.length c0]∧iv [sl a0 c0 x.HT] w F
  j5:=by rintro _ _ _ _ ⟨a0,c0,rfl,_⟩;rfl
  iJ:=by rintro _ _ _ _ ⟨a0,c0,rfl,_⟩;rfl
  jE:=by rintro _ _ _ _ _ ⟨a0,c0,rfl,h0⟩ hk;exact ⟨a0,c0,rfl,h0.kT hk⟩
  jI:=by rintro _ _ _ _ _ ⟨a0,c0,rfl,h0⟩ hk;exact ⟨a0,c0,rfl,h0.mono hk⟩
  jd:=by rintro _ _ _ _ _ ⟨a0,c0,rfl,h⟩ hk;exact ⟨a0,c0,rfl,h.frame hk⟩
  j4:=by rintro _ _ _ _ _ ⟨a0,c0,rfl,h⟩ hk;exact ⟨a0,c0,rfl,iv.kV h 0 rfl hk⟩
  jt:=by rintro _ _ _ _ ⟨a0,c0,rfl,_⟩;simp [Value.oneCell']
  iV _:=⟨none,0,rfl,⟨[],[],rfl,.inl ⟨rfl,rfl,rfl,rfl⟩,rfl⟩⟩
structure cd where
  HR:Int
  HA:Int
  box:Int
  HP:Int
  iK:Int
  gE:Int
  HK:Int
  iF:Int
  iE:Int
  HM:Bool
  g5:List Int
  HI:List Int
  HE:List jg
  deriving DecidableEq
instance:gT cd where
  ty:=101
  sz:=13
  zero:=⟨0,0,0,0,0,0,0,0,0,false,[],[],[]⟩
  zc:=[.int .i64 0,.int .i64 0,.int .i64 0,.int .i64 0,.int .i64 0,.int .i64 0,.int .i64 0,.int .i64 0,.int .i64 0,.bool false,.slice none 0 0,.slice none 0 0,.slice none 0 0]
  pos:=by omega
  rd S w cs x:=∃ (a10:Option Addr) (c10:Nat) (a11:Option Addr) (c11:Nat) (a12:Option Addr) (c12:Nat),cs=[.int .i64 x.HR,.int .i64 x.HA,.int .i64 x.box,.int .i64 x.HP,.int .i64 x.iK,.int .i64 x.gE,.int .i64 x.HK,.int .i64 x.iF,.int .i64 x.iE,.bool x.HM,.slice a10 x.g5.length c10,.slice a11 x.HI.length c11,.slice a12 x.HE.length c12]∧iy S w a10 c10 x.g5∧iy S w a11 c11 x.HI∧iy S w a12 c12 x.HE
  own w cs F x:=∃ (a10:Option Addr) (c10:Nat) (a11:Option Addr) (c11:Nat) (a12:Option Addr) (c12:Nat),cs=[.int .i64 x.HR,.int .i64 x.HA,.int .i64 x.box,.int .i64 x.HP,.int .i64 x.iK,.int .i64 x.gE,.int .i64 x.HK,.int .i64 x.iF,.int .i64 x.iE,.bool x.HM,.slice a10 x.g5.length c10,.slice a11 x.HI.length c11,.slice a12 x.HE.length c12]∧iv [sl a10 c10 x.g5,sl a11 c11 x.HI,sl a12 c12 x.HE] w F
  j5:=by rintro _ _ _ _ ⟨a10,c10,a11,c11,a12,c12,rfl,_⟩;rfl
  iJ:=by rintro _ _ _ _ ⟨a10,c10,a11,c11,a12,c12,rfl,_⟩;rfl
  jE:=by rintro _ _ _ _ _ ⟨a10,c10,a11,c11,a12,c12,rfl,h10,h11,h12⟩ hk;exact ⟨a10,c10,a11,c11,a12,c12,rfl,h10.kT hk,h11.kT hk,h12.kT hk⟩
  jI:=by rintro _ _ _ _ _ ⟨a10,c10,a11,c11,a12,c12,rfl,h10,h11,h12⟩ hk;exact ⟨a10,c10,a11,c11,a12,c12,rfl,h10.mono hk,h11.mono hk,h12.mono hk⟩
  jd:=by rintro _ _ _ _ _ ⟨a10,c10,a11,c11,a12,c12,rfl,h⟩ hk;exact ⟨a10,c10,a11,c11,a12,c12,rfl,h.frame hk⟩
  j4:=by rintro _ _ _ _ _ ⟨a10,c10,a11,c11,a12,c12,rfl,h⟩ hk;exact ⟨a10,c10,a11,c11,a12,c12,rfl,iv.kV h 0 rfl hk,iv.kV h 1 rfl hk,iv.kV h 2 rfl hk⟩
  jt:=by rintro _ _ _ _ ⟨a10,c10,a11,c11,a12,c12,rfl,_⟩;simp [Value.oneCell']
  iV _:=⟨none,0,none,0,none,0,rfl,⟨[],[],rfl,.inl ⟨rfl,rfl,rfl,rfl⟩,⟨[],[],rfl,.inl ⟨rfl,rfl,rfl,rfl⟩,⟨[],[],rfl,.inl ⟨rfl,rfl,rfl,rfl⟩,rfl⟩⟩⟩⟩
structure jK where
  HD:Int
  HL:Int
  HF:Int
  gQ:List Int
  deriving DecidableEq
instance:gT jK where
  ty:=43
  sz:=4
  zero:=⟨0,0,0,[]⟩
  zc:=[.int .i64 0,.int .i64 0,.int .i64 0,.slice none 0 0]
  pos:=by omega
  rd S w cs x:=∃ (a3:Option Addr) (c3:Nat),cs=[.int .i64 x.HD,.int .i64 x.HL,.int .i64 x.HF,.slice a3 x.gQ.length c3]∧iy S w a3 c3 x.gQ
  own w cs F x:=∃ (a3:Option Addr) (c3:Nat),cs=[.int .i64 x.HD,.int .i64 x.HL,.int .i64 x.HF,.slice a3 x.gQ.length c3]∧iv [sl a3 c3 x.gQ] w F
  j5:=by rintro _ _ _ _ ⟨a3,c3,rfl,_⟩;rfl
  iJ:=by rintro _ _ _ _ ⟨a3,c3,rfl,_⟩;rfl
  jE:=by rintro _ _ _ _ _ ⟨a3,c3,rfl,h3⟩ hk;exact ⟨a3,c3,rfl,h3.kT hk⟩
  jI:=by rintro _ _ _ _ _ ⟨a3,c3,rfl,h3⟩ hk;exact ⟨a3,c3,rfl,h3.mono hk⟩
  jd:=by rintro _ _ _ _ _ ⟨a3,c3,rfl,h⟩ hk;exact ⟨a3,c3,rfl,h.frame hk⟩
  j4:=by rintro _ _ _ _ _ ⟨a3,c3,rfl,h⟩ hk;exact ⟨a3,c3,rfl,iv.kV h 0 rfl hk⟩
  jt:=by rintro _ _ _ _ ⟨a3,c3,rfl,_⟩;simp [Value.oneCell']
  iV _:=⟨none,0,rfl,⟨[],[],rfl,.inl ⟨rfl,rfl,rfl,rfl⟩,rfl⟩⟩
structure g7 where
  ag:List cd
  gc:jK
  deriving DecidableEq
instance:gT g7 where
  ty:=45
  sz:=5
  zero:=⟨[],⟨0,0,0,[]⟩⟩
  zc:=[.slice none 0 0,.int .i64 0,.int .i64 0,.int .i64 0,.slice none 0 0]
  pos:=by omega
  rd S w cs x:=∃ (a0:Option Addr) (c0:Nat) (a4:Option Addr) (c4:Nat),cs=[.slice a0 x.ag.length c0,.int .i64 x.gc.HD,.int .i64 x.gc.HL,.int .i64 x.gc.HF,.slice a4 x.gc.gQ.length c4]∧iy S w a0 c0 x.ag∧iy S w a4 c4 x.gc.gQ
  own w cs F x:=∃ (a0:Option Addr) (c0:Nat) (a4:Option Addr) (c4:Nat),cs=[.slice a0 x.ag.length c0,.int .i64 x.gc.HD,.int .i64 x.gc.HL,.int .i64 x.gc.HF,.slice a4 x.gc.gQ.length c4]∧iv [sl a0 c0 x.ag,sl a4 c4 x.gc.gQ] w F
  j5:=by rintro _ _ _ _ ⟨a0,c0,a4,c4,rfl,_⟩;rfl
  iJ:=by rintro _ _ _ _ ⟨a0,c0,a4,c4,rfl,_⟩;rfl
  jE:=by rintro _ _ _ _ _ ⟨a0,c0,a4,c4,rfl,h0,h4⟩ hk;exact ⟨a0,c0,a4,c4,rfl,h0.kT hk,h4.kT hk⟩
  jI:=by rintro _ _ _ _ _ ⟨a0,c0,a4,c4,rfl,h0,h4⟩ hk;exact ⟨a0,c0,a4,c4,rfl,h0.mono hk,h4.mono hk⟩
  jd:=by rintro _ _ _ _ _ ⟨a0,c0,a4,c4,rfl,h⟩ hk;exact ⟨a0,c0,a4,c4,rfl,h.frame hk⟩
  j4:=by rintro _ _ _ _ _ ⟨a0,c0,a4,c4,rfl,h⟩ hk;exact ⟨a0,c0,a4,c4,rfl,iv.kV h 0 rfl hk,iv.kV h 1 rfl hk⟩
  jt:=by rintro _ _ _ _ ⟨a0,c0,a4,c4,rfl,_⟩;simp [Value.oneCell']
  iV _:=⟨none,0,none,0,rfl,⟨[],[],rfl,.inl ⟨rfl,rfl,rfl,rfl⟩,⟨[],[],rfl,.inl ⟨rfl,rfl,rfl,rfl⟩,rfl⟩⟩⟩
structure bh where
  HB:iO
  own:List Int
  HC:List gW
  py:g7
  gR:List iS
  HH:Int
  HJ:Int
  gP:ig
  g8:Int
  HG:Int
  deriving DecidableEq
instance:gT bh where
  ty:=50
  sz:=16
  zero:=⟨⟨[]⟩,[],[],⟨[],⟨0,0,0,[]⟩⟩,[],0,0,⟨0,0,0⟩,0,0⟩
  zc:=[.slice none 0 0,.slice none 0 0,.slice none 0 0,.slice none 0 0,.int .i64 0,.int .i64 0,.int .i64 0,.slice none 0 0,.slice none 0 0,.int .i64 0,.int .i64 0,.int .i64 0,.int .i64 0,.int .i64 0,.int .i64 0,.int .i64 0]
  pos:=by omega
  rd S w cs x:=∃ (a0:Option Addr) (c0:Nat) (a1:Option Addr) (c1:Nat) (a2:Option Addr) (c2:Nat) (a3:Option Addr) (c3:Nat) (a7:Option Addr) (c7:Nat) (a8:Option Addr) (c8:Nat),cs=[.slice a0 x.HB.Hz.length c0,.slice a1 x.own.length c1,.slice a2 x.HC.length c2,.slice a3 x.py.ag.length c3,.int .i64 x.py.gc.HD,.int .i64 x.py.gc.HL,.int .i64 x.py.gc.HF,.slice a7 x.py.gc.gQ.length c7,.slice a8 x.gR.length c8,.int .i64 x.HH,.int .i64 x.HJ,.int .i64 x.gP.gE,.int .i64 x.gP.gV,.int .i64 x.gP.hY,.int .i64 x.g8,.int .i64 x.HG]∧iy S w a0 c0 x.HB.Hz∧iy S w a1 c1 x.own∧iy S w a2 c2 x.HC∧iy S w a3 c3 x.py.ag∧iy S w a7 c7 x.py.gc.gQ∧iy S w a8 c8 x.gR
  own w cs F x:=∃ (a0:Option Addr) (c0:Nat) (a1:Option Addr) (c1:Nat) (a2:Option Addr) (c2:Nat) (a3:Option Addr) (c3:Nat) (a7:Option Addr) (c7:Nat) (a8:Option Addr) (c8:Nat),cs=[.slice a0 x.HB.Hz.length c0,.slice a1 x.own.length c1,.slice a2 x.HC.length c2,.slice a3 x.py.ag.length c3,.int .i64 x.py.gc.HD,.int .i64 x.py.gc.HL,.int .i64 x.py.gc.HF,.slice a7 x.py.gc.gQ.length c7,.slice a8 x.gR.length c8,.int .i64 x.HH,.int .i64 x.HJ,.int .i64 x.gP.gE,.int .i64 x.gP.gV,.int .i64 x.gP.hY,.int .i64 x.g8,.int .i64 x.HG]∧iv [sl a0 c0 x.HB.Hz,sl a1 c1 x.own,sl a2 c2 x.HC,sl a3 c3 x.py.ag,sl a7 c7 x.py.gc.gQ,sl a8 c8 x.gR] w F
  j5:=by rintro _ _ _ _ ⟨a0,c0,a1,c1,a2,c2,a3,c3,a7,c7,a8,c8,rfl,_⟩;rfl
  iJ:=by rintro _ _ _ _ ⟨a0,c0,a1,c1,a2,c2,a3,c3,a7,c7,a8,c8,rfl,_⟩;rfl
  jE:=by rintro _ _ _ _ _ ⟨a0,c0,a1,c1,a2,c2,a3,c3,a7,c7,a8,c8,rfl,h0,h1,h2,h3,h7,h8⟩ hk;exact ⟨a0,c0,a1,c1,a2,c2,a3,c3,a7,c7,a8,c8,rfl,h0.kT hk,h1.kT hk,h2.kT hk,h3.kT hk,h7.kT hk,h8.kT hk⟩
  jI:=by rintro _ _ _ _ _ ⟨a0,c0,a1,c1,a2,c2,a3,c3,a7,c7,a8,c8,rfl,h0,h1,h2,h3,h7,h8⟩ hk;exact ⟨a0,c0,a1,c1,a2,c2,a3,c3,a7,c7,a8,c8,rfl,h0.mono hk,h1.mono hk,h2.mono hk,h3.mono hk,h7.mono hk,h8.mono hk⟩
  jd:=by rintro _ _ _ _ _ ⟨a0,c0,a1,c1,a2,c2,a3,c3,a7,c7,a8,c8,rfl,h⟩ hk;exact ⟨a0,c0,a1,c1,a2,c2,a3,c3,a7,c7,a8,c8,rfl,h.frame hk⟩
  j4:=by rintro _ _ _ _ _ ⟨a0,c0,a1,c1,a2,c2,a3,c3,a7,c7,a8,c8,rfl,h⟩ hk;exact ⟨a0,c0,a1,c1,a2,c2,a3,c3,a7,c7,a8,c8,rfl,iv.kV h 0 rfl hk,iv.kV h 1 rfl hk,iv.kV h 2 rfl hk,iv.kV h 3 rfl hk,iv.kV h 4 rfl hk,iv.kV h 5 rfl hk⟩
  jt:=by rintro _ _ _ _ ⟨a0,c0,a1,c1,a2,c2,a3,c3,a7,c7,a8,c8,rfl,_⟩;simp [Value.oneCell']
  iV _:=⟨none,0,none,0,none,0,none,0,none,0,none,0,rfl,⟨[],[],rfl,.inl ⟨rfl,rfl,rfl,rfl⟩,⟨[],[],rfl,.inl ⟨rfl,rfl,rfl,rfl⟩,⟨[],[],rfl,.inl ⟨rfl,rfl,rfl,rfl⟩,⟨[],[],rfl,.inl ⟨rfl,rfl,rfl,rfl⟩,⟨[],[],rfl,.inl ⟨rfl,rfl,rfl,rfl⟩,⟨[],[],rfl,.inl ⟨rfl,rfl,rfl,rfl⟩,rfl⟩⟩⟩⟩⟩⟩⟩
structure g6 where
  HQ:Int
  parts:List bh
  deriving DecidableEq
instance:gT g6 where
  ty:=26
  sz:=2
  zero:=⟨0,[]⟩
  zc:=[.int .i64 0,.slice none 0 0]
  pos:=by omega
  rd S w cs x:=∃ (a1:Option Addr) (c1:Nat),cs=[.int .i64 x.HQ,.slice a1 x.parts.length c1]∧iy S w a1 c1 x.parts
  own w cs F x:=∃ (a1:Option Addr) (c1:Nat),cs=[.int .i64 x.HQ,.slice a1 x.parts.length c1]∧iv [sl a1 c1 x.parts] w F
  j5:=by rintro _ _ _ _ ⟨a1,c1,rfl,_⟩;rfl
  iJ:=by rintro _ _ _ _ ⟨a1,c1,rfl,_⟩;rfl
  jE:=by rintro _ _ _ _ _ ⟨a1,c1,rfl,h1⟩ hk;exact ⟨a1,c1,rfl,h1.kT hk⟩
  jI:=by rintro _ _ _ _ _ ⟨a1,c1,rfl,h1⟩ hk;exact ⟨a1,c1,rfl,h1.mono hk⟩
  jd:=by rintro _ _ _ _ _ ⟨a1,c1,rfl,h⟩ hk;exact ⟨a1,c1,rfl,h.frame hk⟩
  j4:=by rintro _ _ _ _ _ ⟨a1,c1,rfl,h⟩ hk;exact ⟨a1,c1,rfl,iv.kV h 0 rfl hk⟩
  jt:=by rintro _ _ _ _ ⟨a1,c1,rfl,_⟩;simp [Value.oneCell']
  iV _:=⟨none,0,rfl,⟨[],[],rfl,.inl ⟨rfl,rfl,rfl,rfl⟩,rfl⟩⟩
structure hD where
  b:List U8
  i:Int
  h:Int
  deriving DecidableEq
structure jA where
  HB:iO
  own:List Int
  HC:Hd
  py:g7
  gR:List iS
  HH:Int
  HJ:Int
  gP:ig
  g8:Int
  HG:Int
instance:gT jA where
  ty:=50
  sz:=16
  zero:=⟨⟨[]⟩,[],⟨none,0,0⟩,⟨[],⟨0,0,0,[]⟩⟩,[],0,0,⟨0,0,0⟩,0,0⟩
  zc:=[.slice none 0 0,.slice none 0 0,.slice none 0 0,.slice none 0 0,.int .i64 0,.int .i64 0,.int .i64 0,.slice none 0 0,.slice none 0 0,.int .i64 0,.int .i64 0,.int .i64 0,.int .i64 0,.int .i64 0,.int .i64 0,.int .i64 0]
  pos:=by omega
  rd S w cs x:=∃ (a0:Option Addr) (c0:Nat) (a1:Option Addr) (c1:Nat) (a3:Option Addr) (c3:Nat) (a7:Option Addr) (c7:Nat) (a8:Option Addr) (c8:Nat),cs=[.slice a0 x.HB.Hz.length c0,.slice a1 x.own.length c1,.slice x.HC.a x.HC.n x.HC.c,.slice a3 x.py.ag.length c3,.int .i64 x.py.gc.HD,.int .i64 x.py.gc.HL,.int .i64 x.py.gc.HF,.slice a7 x.py.gc.gQ.length c7,.slice a8 x.gR.length c8,.int .i64 x.HH,.int .i64 x.HJ,.int .i64 x.gP.gE,.int .i64 x.gP.gV,.int .i64 x.gP.hY,.int .i64 x.g8,.int .i64 x.HG]∧iy S w a0 c0 x.HB.Hz∧iy S w a1 c1 x.own∧iy S w a3 c3 x.py.ag∧iy S w a7 c7 x.py.gc.gQ∧iy S w a8 c8 x.gR
  own w cs F x:=∃ (a0:Option Addr) (c0:Nat) (a1:Option Addr) (c1:Nat) (a3:Option Addr) (c3:Nat) (a7:Option Addr) (c7:Nat) (a8:Option Addr) (c8:Nat),cs=[.slice a0 x.HB.Hz.length c0,.slice a1 x.own.length c1,.slice x.HC.a x.HC.n x.HC.c,.slice a3 x.py.ag.length c3,.int .i64 x.py.gc.HD,.int .i64 x.py.gc.HL,.int .i64 x.py.gc.HF,.slice a7 x.py.gc.gQ.length c7,.slice a8 x.gR.length c8,.int .i64 x.HH,.int .i64 x.HJ,.int .i64 x.gP.gE,.int .i64 x.gP.gV,.int .i64 x.gP.hY,.int .i64 x.g8,.int .i64 x.HG]∧iv [sl a0 c0 x.HB.Hz,sl a1 c1 x.own,sl a3 c3 x.py.ag,sl a7 c7 x.py.gc.gQ,sl a8 c8 x.gR] w F
  j5:=by rintro _ _ _ _ ⟨a0,c0,a1,c1,a3,c3,a7,c7,a8,c8,rfl,_⟩;rfl
  iJ:=by rintro _ _ _ _ ⟨a0,c0,a1,c1,a3,c3,a7,c7,a8,c8,rfl,_⟩;rfl
  jE:=by rintro _ _ _ _ _ ⟨a0,c0,a1,c1,a3,c3,a7,c7,a8,c8,rfl,h0,h1,h3,h7,h8⟩ hk;exact ⟨a0,c0,a1,c1,a3,c3,a7,c7,a8,c8,rfl,h0.kT hk,h1.kT hk,h3.kT hk,h7.kT hk,h8.kT hk⟩
  jI:=by rintro _ _ _ _ _ ⟨a0,c0,a1,c1,a3,c3,a7,c7,a8,c8,rfl,h0,h1,h3,h7,h8⟩ hk;exact ⟨a0,c0,a1,c1,a3,c3,a7,c7,a8,c8,rfl,h0.mono hk,h1.mono hk,h3.mono hk,h7.mono hk,h8.mono hk⟩
  jd:=by rintro _ _ _ _ _ ⟨a0,c0,a1,c1,a3,c3,a7,c7,a8,c8,rfl,h⟩ hk;exact ⟨a0,c0,a1,c1,a3,c3,a7,c7,a8,c8,rfl,h.frame hk⟩
  j4:=by rintro _ _ _ _ _ ⟨a0,c0,a1,c1,a3,c3,a7,c7,a8,c8,rfl,h⟩ hk;exact ⟨a0,c0,a1,c1,a3,c3,a7,c7,a8,c8,rfl,iv.kV h 0 rfl hk,iv.kV h 1 rfl hk,iv.kV h 2 rfl hk,iv.kV h 3 rfl hk,iv.kV h 4 rfl hk⟩
  jt:=by rintro _ _ _ _ ⟨a0,c0,a1,c1,a3,c3,a7,c7,a8,c8,rfl,_⟩;simp [Value.oneCell']
  iV _:=⟨none,0,none,0,none,0,none,0,none,0,rfl,⟨[],[],rfl,.inl ⟨rfl,rfl,rfl,rfl⟩,⟨[],[],rfl,.inl ⟨rfl,rfl,rfl,rfl⟩,⟨[],[],rfl,.inl ⟨rfl,rfl,rfl,rfl⟩,⟨[],[],rfl,.inl ⟨rfl,rfl,rfl,rfl⟩,⟨[],[],rfl,.inl ⟨rfl,rfl,rfl,rfl⟩,rfl⟩⟩⟩⟩⟩⟩
structure ku where
  HT:Hd
instance:gT ku where
  ty:=228
  sz:=1
  zero:=⟨⟨none,0,0⟩⟩
  zc:=[.slice none 0 0]
  pos:=by omega
  rd _ _ cs x:=cs=[.slice x.HT.a x.HT.n x.HT.c]
  own _ cs F x:=cs=[.slice x.HT.a x.HT.n x.HT.c]∧F=[]
  j5:=by rintro _ _ _ _ rfl;rfl
  iJ:=by rintro _ _ _ _ ⟨rfl,_⟩;rfl
  jE h _:=h
  jI h _:=h
  jd h _:=h
  j4 h _:=h.1
  jt:=by rintro _ _ _ _ ⟨rfl,_⟩;simp [Value.oneCell']
  iV _:=⟨rfl,rfl⟩
instance:Flat ku:=⟨fun h=>⟨h,rfl⟩⟩
def kS (l:List bh):List (List gW):=l.map fun p=>p.HC
def pD (l:List iA):List (List gW):=l.map fun t=>t.HT
def kf (l:List bh):List iA:=(kS l).map iA.mk
def qZ (p:bh) (t:List gW):bh:=bh.mk p.HB p.own t p.py p.gR p.HH p.HJ p.gP p.g8 p.HG
def kZ (l:List bh) (ts:List (List gW)):List bh:=List.zipWith qZ l ts
def gd (b:Bool):Option Unit:=bif b then some () else none
class Fit (α:Type) where
  fit:α→Prop
instance:Fit Int:=⟨fun x=>-9223372036854775808≤x∧x≤9223372036854775807⟩
instance:Fit Bool:=⟨fun _=>True⟩
instance:Fit U8:=⟨fun x=>0≤x.v∧x.v≤255⟩
instance {α:Type} [Fit α]:Fit (List α):=⟨fun l=>l.length≤maxLen∧∀ y,y ∈ l→Fit.fit y⟩
instance:Fit ig:=⟨fun x=>Fit.fit x.gE∧Fit.fit x.gV∧Fit.fit x.hY⟩
instance:Fit il:=⟨fun x=>Fit.fit x.HA∧Fit.fit x.a∧Fit.fit x.b∧Fit.fit x.c∧Fit.fit x.d∧Fit.fit x.e⟩
instance:Fit iq:=⟨fun x=>Fit.fit x.HA∧Fit.fit x.HS∧Fit.fit x.jC∧Fit.fit x.call⟩
instance:Fit hZ:=⟨fun x=>Fit.fit x.code∧Fit.fit x.HU⟩
instance:Fit gW:=⟨fun x=>Fit.fit x.HN∧Fit.fit x.HO∧Fit.fit x.iB⟩
instance:Fit iS:=⟨fun x=>Fit.fit x.HP∧Fit.fit x.j6∧Fit.fit x.oq∧Fit.fit x.mg∧Fit.fit x.HA∧Fit.fit x.mV⟩
instance:Fit jg:=⟨fun x=>Fit.fit x.HV∧Fit.fit x.n⟩
instance:Fit iO:=⟨fun x=>Fit.fit x.Hz⟩
instance:Fit iu:=⟨fun x=>Fit.fit x.HB∧Fit.fit x.own∧Fit.fit x.i7⟩
instance:Fit iA:=⟨fun x=>Fit.fit x.HT⟩
instance:Fit cd:=⟨fun x=>Fit.fit x.HR∧Fit.fit x.HA∧Fit.fit x.box∧Fit.fit x.HP∧Fit.fit x.iK∧Fit.fit x.gE∧Fit.fit x.HK∧Fit.fit x.iF∧Fit.fit x.iE∧Fit.fit x.HM∧Fit.fit x.g5∧Fit.fit x.HI∧Fit.fit x.HE⟩
instance:Fit jK:=⟨fun x=>Fit.fit x.HD∧Fit.fit x.HL∧Fit.fit x.HF∧Fit.fit x.gQ⟩
instance:Fit g7:=⟨fun x=>Fit.fit x.ag∧Fit.fit x.gc⟩
instance:Fit bh:=⟨fun x=>Fit.fit x.HB∧Fit.fit x.own∧Fit.fit x.HC∧Fit.fit x.py∧Fit.fit x.gR∧Fit.fit x.HH∧Fit.fit x.HJ∧Fit.fit x.gP∧Fit.fit x.g8∧Fit.fit x.HG⟩
instance:Fit g6:=⟨fun x=>Fit.fit x.HQ∧Fit.fit x.parts⟩
instance:Fit hD:=⟨fun x=>Fit.fit x.b∧Fit.fit x.i∧Fit.fit x.h⟩
end Go.Kx
