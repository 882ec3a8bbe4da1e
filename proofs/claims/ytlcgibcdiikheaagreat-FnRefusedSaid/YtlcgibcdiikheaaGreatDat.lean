import Derived.Test.YtlcgibcdiikheaaGreatOpa
namespace Go.Kx
open Go Go.RowKit
open Go.IntKind (i64)
set_option linter.unusedVariables false
set_option linter.unusedSimpArgs false
instance:iw Int where
  ty:=3
  sz:=1
  zero:=0
  zc:=[.int .i64 0]
  pos:=by omega
  rd _ _ cs x:=cs=[.int .i64 x]
  own _ cs F x:=cs=[.int .i64 x]∧F=[]
  lZ:=by rintro _ _ _ _ rfl;rfl
  jx:=by rintro _ _ _ _ ⟨rfl,_⟩;rfl
  lk h _:=h
  lj h _:=h
  kl h _:=h
  lW h _:=h.1
  kK:=by rintro _ _ _ _ ⟨rfl,_⟩;simp [Value.oneCell']
  jI _:=⟨rfl,rfl⟩
instance:Flat Int:=⟨fun h=>⟨h,rfl⟩⟩
instance:iw Bool where
  ty:=4
  sz:=1
  zero:=false
  zc:=[.bool false]
  pos:=by omega
  rd _ _ cs x:=cs=[.bool x]
  own _ cs F x:=cs=[.bool x]∧F=[]
  lZ:=by rintro _ _ _ _ rfl;rfl
  jx:=by rintro _ _ _ _ ⟨rfl,_⟩;rfl
  lk h _:=h
  lj h _:=h
  kl h _:=h
  lW h _:=h.1
  kK:=by rintro _ _ _ _ ⟨rfl,_⟩;simp [Value.oneCell']
  jI _:=⟨rfl,rfl⟩
instance:Flat Bool:=⟨fun h=>⟨h,rfl⟩⟩
abbrev Cj:=ByteArray
instance:iw Cj where
  ty:=9
  sz:=1
  zero:=⟨#[]⟩
  zc:=[.string ⟨#[]⟩]
  pos:=by omega
  rd _ _ cs x:=cs=[.string x]
  own _ cs F x:=cs=[.string x]∧F=[]
  lZ:=by rintro _ _ _ _ rfl;rfl
  jx:=by rintro _ _ _ _ ⟨rfl,_⟩;rfl
  lk h _:=h
  lj h _:=h
  kl h _:=h
  lW h _:=h.1
  kK:=by rintro _ _ _ _ ⟨rfl,_⟩;simp [Value.oneCell']
  jI _:=⟨rfl,rfl⟩
instance:Flat Cj:=⟨fun h=>⟨h,rfl⟩⟩
structure U8 where
  v:Int
  deriving DecidableEq
instance:iw U8 where
  ty:=5
  sz:=1
  zero:=⟨0⟩
  zc:=[.int .u8 0]
  pos:=by omega
  rd _ _ cs x:=cs=[.int .u8 x.v]
  own _ cs F x:=cs=[.int .u8 x.v]∧F=[]
  lZ:=by rintro _ _ _ _ rfl;rfl
  jx:=by rintro _ _ _ _ ⟨rfl,_⟩;rfl
  lk h _:=h
  lj h _:=h
  kl h _:=h
  lW h _:=h.1
  kK:=by rintro _ _ _ _ ⟨rfl,_⟩;simp [Value.oneCell']
  jI _:=⟨rfl,rfl⟩
instance:Flat U8:=⟨fun h=>⟨h,rfl⟩⟩
def yD (a b:Int):Int:=i64.wrap ((BitVec.ofInt IntKind.i64.bits a &&& BitVec.ofInt IntKind.i64.bits b).toNat:Int)
def Nz (a b:Int):Int:=i64.wrap ((BitVec.ofInt IntKind.i64.bits a ^^^ BitVec.ofInt IntKind.i64.bits b).toNat:Int)
def Ha (a b:Int):Int:=a.fdiv (2 ^ (min b.toNat IntKind.i64.bits))
structure Hd where
  a:Option Addr
  n:Nat
  c:Nat
structure ic where
  bh:Int
  ib:Int
  ij:Int
  deriving DecidableEq
instance:iw ic where
  ty:=48
  sz:=3
  zero:=⟨0,0,0⟩
  zc:=[.int .i64 0,.int .i64 0,.int .i64 0]
  pos:=by omega
  rd _ _ cs x:=cs=[.int .i64 x.bh,.int .i64 x.ib,.int .i64 x.ij]
  own _ cs F x:=cs=[.int .i64 x.bh,.int .i64 x.ib,.int .i64 x.ij]∧F=[]
  lZ:=by rintro _ _ _ _ rfl;rfl
  jx:=by rintro _ _ _ _ ⟨rfl,_⟩;rfl
  lk h _:=h
  lj h _:=h
  kl h _:=h
  lW h _:=h.1
  kK:=by rintro _ _ _ _ ⟨rfl,_⟩;simp [Value.oneCell']
  jI _:=⟨rfl,rfl⟩
instance:Flat ic:=⟨fun h=>⟨h,rfl⟩⟩
structure iJ where
  Pz:Int
  a:Int
  b:Int
  c:Int
  d:Int
  e:Int
  deriving DecidableEq
instance:iw iJ where
  ty:=28
  sz:=6
  zero:=⟨0,0,0,0,0,0⟩
  zc:=[.int .i64 0,.int .i64 0,.int .i64 0,.int .i64 0,.int .i64 0,.int .i64 0]
  pos:=by omega
  rd _ _ cs x:=cs=[.int .i64 x.Pz,.int .i64 x.a,.int .i64 x.b,.int .i64 x.c,.int .i64 x.d,.int .i64 x.e]
  own _ cs F x:=cs=[.int .i64 x.Pz,.int .i64 x.a,.int .i64 x.b,.int .i64 x.c,.int .i64 x.d,.int .i64 x.e]∧F=[]
  lZ:=by rintro _ _ _ _ rfl;rfl
  jx:=by rintro _ _ _ _ ⟨rfl,_⟩;rfl
  lk h _:=h
  lj h _:=h
  kl h _:=h
  lW h _:=h.1
  kK:=by rintro _ _ _ _ ⟨rfl,_⟩;simp [Value.oneCell']
  jI _:=⟨rfl,rfl⟩
instance:Flat iJ:=⟨fun h=>⟨h,rfl⟩⟩
structure iG where
  code:Int
  PR:Int
  deriving DecidableEq
instance:iw iG where
  ty:=32
  sz:=2
  zero:=⟨0,0⟩
  zc:=[.int .i64 0,.int .i64 0]
  pos:=by omega
  rd _ _ cs x:=cs=[.int .i64 x.code,.int .i64 x.PR]
  own _ cs F x:=cs=[.int .i64 x.code,.int .i64 x.PR]∧F=[]
  lZ:=by rintro _ _ _ _ rfl;rfl
  jx:=by rintro _ _ _ _ ⟨rfl,_⟩;rfl
  lk h _:=h
  lj h _:=h
  kl h _:=h
  lW h _:=h.1
  kK:=by rintro _ _ _ _ ⟨rfl,_⟩;simp [Value.oneCell']
  jI _:=⟨rfl,rfl⟩
instance:Flat iG:=⟨fun h=>⟨h,rfl⟩⟩
structure im where
  PN:Bool
  PM:Int
  iI:ic
  deriving DecidableEq
instance:iw im where
  ty:=172
  sz:=5
  zero:=⟨false,0,⟨0,0,0⟩⟩
  zc:=[.bool false,.int .i64 0,.int .i64 0,.int .i64 0,.int .i64 0]
  pos:=by omega
  rd _ _ cs x:=cs=[.bool x.PN,.int .i64 x.PM,.int .i64 x.iI.bh,.int .i64 x.iI.ib,.int .i64 x.iI.ij]
  own _ cs F x:=cs=[.bool x.PN,.int .i64 x.PM,.int .i64 x.iI.bh,.int .i64 x.iI.ib,.int .i64 x.iI.ij]∧F=[]
  lZ:=by rintro _ _ _ _ rfl;rfl
  jx:=by rintro _ _ _ _ ⟨rfl,_⟩;rfl
  lk h _:=h
  lj h _:=h
  kl h _:=h
  lW h _:=h.1
  kK:=by rintro _ _ _ _ ⟨rfl,_⟩;simp [Value.oneCell']
  jI _:=⟨rfl,rfl⟩
instance:Flat im:=⟨fun h=>⟨h,rfl⟩⟩
structure iZ where
  res:Int
  km:Int
  nu:Int
  kT:Int
  Pz:Int
  mA:Int
  deriving DecidableEq
instance:iw iZ where
  ty:=174
  sz:=6
  zero:=⟨0,0,0,0,0,0⟩
  zc:=[.int .i64 0,.int .i64 0,.int .i64 0,.int .i64 0,.int .i64 0,.int .i64 0]
  pos:=by omega
  rd _ _ cs x:=cs=[.int .i64 x.res,.int .i64 x.km,.int .i64 x.nu,.int .i64 x.kT,.int .i64 x.Pz,.int .i64 x.mA]
  own _ cs F x:=cs=[.int .i64 x.res,.int .i64 x.km,.int .i64 x.nu,.int .i64 x.kT,.int .i64 x.Pz,.int .i64 x.mA]∧F=[]
  lZ:=by rintro _ _ _ _ rfl;rfl
  jx:=by rintro _ _ _ _ ⟨rfl,_⟩;rfl
  lk h _:=h
  lj h _:=h
  kl h _:=h
  lW h _:=h.1
  kK:=by rintro _ _ _ _ ⟨rfl,_⟩;simp [Value.oneCell']
  jI _:=⟨rfl,rfl⟩
instance:Flat iZ:=⟨fun h=>⟨h,rfl⟩⟩
structure je where
  PS:Int
  n:Int
  deriving DecidableEq
instance:iw je where
  ty:=193
  sz:=2
  zero:=⟨0,0⟩
  zc:=[.int .i64 0,.int .i64 0]
  pos:=by omega
  rd _ _ cs x:=cs=[.int .i64 x.PS,.int .i64 x.n]
  own _ cs F x:=cs=[.int .i64 x.PS,.int .i64 x.n]∧F=[]
  lZ:=by rintro _ _ _ _ rfl;rfl
  jx:=by rintro _ _ _ _ ⟨rfl,_⟩;rfl
  lk h _:=h
  lj h _:=h
  kl h _:=h
  lW h _:=h.1
  kK:=by rintro _ _ _ _ ⟨rfl,_⟩;simp [Value.oneCell']
  jI _:=⟨rfl,rfl⟩
instance:Flat je:=⟨fun h=>⟨h,rfl⟩⟩
structure jE where
  PA:List Int
  deriving DecidableEq
instance:iw jE where
  ty:=39
  sz:=1
  zero:=⟨[]⟩
  zc:=[.slice none 0 0]
  pos:=by omega
  rd S w cs x:=∃ (a0:Option Addr) (c0:Nat),cs=[.slice a0 x.PA.length c0]∧iR S w a0 c0 x.PA
  own w cs F x:=∃ (a0:Option Addr) (c0:Nat),cs=[.slice a0 x.PA.length c0]∧jj [sl a0 c0 x.PA] w F
  lZ:=by rintro _ _ _ _ ⟨a0,c0,rfl,_⟩;rfl
  jx:=by rintro _ _ _ _ ⟨a0,c0,rfl,_⟩;rfl
  lk:=by rintro _ _ _ _ _ ⟨a0,c0,rfl,h0⟩ hk;exact ⟨a0,c0,rfl,h0.lO hk⟩
  lj:=by rintro _ _ _ _ _ ⟨a0,c0,rfl,h0⟩ hk;exact ⟨a0,c0,rfl,h0.mono hk⟩
  kl:=by rintro _ _ _ _ _ ⟨a0,c0,rfl,h⟩ hk;exact ⟨a0,c0,rfl,h.frame hk⟩
  lW:=by rintro _ _ _ _ _ ⟨a0,c0,rfl,h⟩ hk;exact ⟨a0,c0,rfl,jj.m9 h 0 rfl hk⟩
  kK:=by rintro _ _ _ _ ⟨a0,c0,rfl,_⟩;simp [Value.oneCell']
  jI _:=⟨none,0,rfl,⟨[],[],rfl,.inl ⟨rfl,rfl,rfl,rfl⟩,rfl⟩⟩
structure ku where
  PB:jE
  own:List Int
  kh:ic
  deriving DecidableEq
instance:iw ku where
  ty:=108
  sz:=5
  zero:=⟨⟨[]⟩,[],⟨0,0,0⟩⟩
  zc:=[.slice none 0 0,.slice none 0 0,.int .i64 0,.int .i64 0,.int .i64 0]
  pos:=by omega
  rd S w cs x:=∃ (a0:Option Addr) (c0:Nat) (a1:Option Addr) (c1:Nat),cs=[.slice a0 x.PB.PA.length c0,.slice a1 x.own.length c1,.int .i64 x.kh.bh,.int .i64 x.kh.ib,.int .i64 x.kh.ij]∧iR S w a0 c0 x.PB.PA∧iR S w a1 c1 x.own
  own w cs F x:=∃ (a0:Option Addr) (c0:Nat) (a1:Option Addr) (c1:Nat),cs=[.slice a0 x.PB.PA.length c0,.slice a1 x.own.length c1,.int .i64 x.kh.bh,.int .i64 x.kh.ib,.int .i64 x.kh.ij]∧jj [sl a0 c0 x.PB.PA,sl a1 c1 x.own] w F
  lZ:=by rintro _ _ _ _ ⟨a0,c0,a1,c1,rfl,_⟩;rfl
  jx:=by rintro _ _ _ _ ⟨a0,c0,a1,c1,rfl,_⟩;rfl
  lk:=by rintro _ _ _ _ _ ⟨a0,c0,a1,c1,rfl,h0,h1⟩ hk;exact ⟨a0,c0,a1,c1,rfl,h0.lO hk,h1.lO hk⟩
  lj:=by rintro _ _ _ _ _ ⟨a0,c0,a1,c1,rfl,h0,h1⟩ hk;exact ⟨a0,c0,a1,c1,rfl,h0.mono hk,h1.mono hk⟩
  kl:=by rintro _ _ _ _ _ ⟨a0,c0,a1,c1,rfl,h⟩ hk;exact ⟨a0,c0,a1,c1,rfl,h.frame hk⟩
  lW:=by rintro _ _ _ _ _ ⟨a0,c0,a1,c1,rfl,h⟩ hk;exact ⟨a0,c0,a1,c1,rfl,jj.m9 h 0 rfl hk,jj.m9 h 1 rfl hk⟩
  kK:=by rintro _ _ _ _ ⟨a0,c0,a1,c1,rfl,_⟩;simp [Value.oneCell']
  jI _:=⟨none,0,none,0,rfl,⟨[],[],rfl,.inl ⟨rfl,rfl,rfl,rfl⟩,⟨[],[],rfl,.inl ⟨rfl,rfl,rfl,rfl⟩,rfl⟩⟩⟩
structure ky where
  list:List im
  deriving DecidableEq
instance:iw ky where
  ty:=228
  sz:=1
  zero:=⟨[]⟩
  zc:=[.slice none 0 0]
  pos:=by omega
  rd S w cs x:=∃ (a0:Option Addr) (c0:Nat),cs=[.slice a0 x.list.length c0]∧iR S w a0 c0 x.list
  own w cs F x:=∃ (a0:Option Addr) (c0:Nat),cs=[.slice a0 x.list.length c0]∧jj [sl a0 c0 x.list] w F
  lZ:=by rintro _ _ _ _ ⟨a0,c0,rfl,_⟩;rfl
  jx:=by rintro _ _ _ _ ⟨a0,c0,rfl,_⟩;rfl
  lk:=by rintro _ _ _ _ _ ⟨a0,c0,rfl,h0⟩ hk;exact ⟨a0,c0,rfl,h0.lO hk⟩
  lj:=by rintro _ _ _ _ _ ⟨a0,c0,rfl,h0⟩ hk;exact ⟨a0,c0,rfl,h0.mono hk⟩
  kl:=by rintro _ _ _ _ _ ⟨a0,c0,rfl,h⟩ hk;exact ⟨a0,c0,rfl,h.frame hk⟩
  lW:=by rintro _ _ _ _ _ ⟨a0,c0,rfl,h⟩ hk;exact ⟨a0,c0,rfl,jj.m9 h 0 rfl hk⟩
  kK:=by rintro _ _ _ _ ⟨a0,c0,rfl,_⟩;simp [Value.oneCell']
  jI _:=⟨none,0,rfl,⟨[],[],rfl,.inl ⟨rfl,rfl,rfl,rfl⟩,rfl⟩⟩
structure gE where
  PO:Int
  Pz:Int
  box:Int
  res:Int
  iK:Int
  bh:Int
  PK:Int
  iP:Int
  iM:Int
  mark:Bool
  ig:List Int
  PG:List Int
  PE:List je
  deriving DecidableEq
instance:iw gE where
  ty:=101
  sz:=13
  zero:=⟨0,0,0,0,0,0,0,0,0,false,[],[],[]⟩
  zc:=[.int .i64 0,.int .i64 0,.int .i64 0,.int .i64 0,.int .i64 0,.int .i64 0,.int .i64 0,.int .i64 0,.int .i64 0,.bool false,.slice none 0 0,.slice none 0 0,.slice none 0 0]
  pos:=by omega
  rd S w cs x:=∃ (a10:Option Addr) (c10:Nat) (a11:Option Addr) (c11:Nat) (a12:Option Addr) (c12:Nat),cs=[.int .i64 x.PO,.int .i64 x.Pz,.int .i64 x.box,.int .i64 x.res,.int .i64 x.iK,.int .i64 x.bh,.int .i64 x.PK,.int .i64 x.iP,.int .i64 x.iM,.bool x.mark,.slice a10 x.ig.length c10,.slice a11 x.PG.length c11,.slice a12 x.PE.length c12]∧iR S w a10 c10 x.ig∧iR S w a11 c11 x.PG∧iR S w a12 c12 x.PE
  own w cs F x:=∃ (a10:Option Addr) (c10:Nat) (a11:Option Addr) (c11:Nat) (a12:Option Addr) (c12:Nat),cs=[.int .i64 x.PO,.int .i64 x.Pz,.int .i64 x.box,.int .i64 x.res,.int .i64 x.iK,.int .i64 x.bh,.int .i64 x.PK,.int .i64 x.iP,.int .i64 x.iM,.bool x.mark,.slice a10 x.ig.length c10,.slice a11 x.PG.length c11,.slice a12 x.PE.length c12]∧jj [sl a10 c10 x.ig,sl a11 c11 x.PG,sl a12 c12 x.PE] w F
  lZ:=by rintro _ _ _ _ ⟨a10,c10,a11,c11,a12,c12,rfl,_⟩;rfl
  jx:=by rintro _ _ _ _ ⟨a10,c10,a11,c11,a12,c12,rfl,_⟩;rfl
  lk:=by rintro _ _ _ _ _ ⟨a10,c10,a11,c11,a12,c12,rfl,h10,h11,h12⟩ hk;exact ⟨a10,c10,a11,c11,a12,c12,rfl,h10.lO hk,h11.lO hk,h12.lO hk⟩
  lj:=by rintro _ _ _ _ _ ⟨a10,c10,a11,c11,a12,c12,rfl,h10,h11,h12⟩ hk;exact ⟨a10,c10,a11,c11,a12,c12,rfl,h10.mono hk,h11.mono hk,h12.mono hk⟩
  kl:=by rintro _ _ _ _ _ ⟨a10,c10,a11,c11,a12,c12,rfl,h⟩ hk;exact ⟨a10,c10,a11,c11,a12,c12,rfl,h.frame hk⟩
  lW:=by rintro _ _ _ _ _ ⟨a10,c10,a11,c11,a12,c12,rfl,h⟩ hk;exact ⟨a10,c10,a11,c11,a12,c12,rfl,jj.m9 h 0 rfl hk,jj.m9 h 1 rfl hk,jj.m9 h 2 rfl hk⟩
  kK:=by rintro _ _ _ _ ⟨a10,c10,a11,c11,a12,c12,rfl,_⟩;simp [Value.oneCell']
  jI _:=⟨none,0,none,0,none,0,rfl,⟨[],[],rfl,.inl ⟨rfl,rfl,rfl,rfl⟩,⟨[],[],rfl,.inl ⟨rfl,rfl,rfl,rfl⟩,⟨[],[],rfl,.inl ⟨rfl,rfl,rfl,rfl⟩,rfl⟩⟩⟩⟩
structure jv where
  PD:Int
  PL:Int
  PF:Int
  hZ:List Int
  deriving DecidableEq
instance:iw jv where
  ty:=43
  sz:=4
  zero:=⟨0,0,0,[]⟩
  zc:=[.int .i64 0,.int .i64 0,.int .i64 0,.slice none 0 0]
  pos:=by omega
  rd S w cs x:=∃ (a3:Option Addr) (c3:Nat),cs=[.int .i64 x.PD,.int .i64 x.PL,.int .i64 x.PF,.slice a3 x.hZ.length c3]∧iR S w a3 c3 x.hZ
  own w cs F x:=∃ (a3:Option Addr) (c3:Nat),cs=[.int .i64 x.PD,.int .i64 x.PL,.int .i64 x.PF,.slice a3 x.hZ.length c3]∧jj [sl a3 c3 x.hZ] w F
  lZ:=by rintro _ _ _ _ ⟨a3,c3,rfl,_⟩;rfl
  jx:=by rintro _ _ _ _ ⟨a3,c3,rfl,_⟩;rfl
  lk:=by rintro _ _ _ _ _ ⟨a3,c3,rfl,h3⟩ hk;exact ⟨a3,c3,rfl,h3.lO hk⟩
  lj:=by rintro _ _ _ _ _ ⟨a3,c3,rfl,h3⟩ hk;exact ⟨a3,c3,rfl,h3.mono hk⟩
  kl:=by rintro _ _ _ _ _ ⟨a3,c3,rfl,h⟩ hk;exact ⟨a3,c3,rfl,h.frame hk⟩
  lW:=by rintro _ _ _ _ _ ⟨a3,c3,rfl,h⟩ hk;exact ⟨a3,c3,rfl,jj.m9 h 0 rfl hk⟩
  kK:=by rintro _ _ _ _ ⟨a3,c3,rfl,_⟩;simp [Value.oneCell']
  jI _:=⟨none,0,rfl,⟨[],[],rfl,.inl ⟨rfl,rfl,rfl,rfl⟩,rfl⟩⟩
structure il where
  ag:List gE
  gc:jv
  deriving DecidableEq
instance:iw il where
  ty:=45
  sz:=5
  zero:=⟨[],⟨0,0,0,[]⟩⟩
  zc:=[.slice none 0 0,.int .i64 0,.int .i64 0,.int .i64 0,.slice none 0 0]
  pos:=by omega
  rd S w cs x:=∃ (a0:Option Addr) (c0:Nat) (a4:Option Addr) (c4:Nat),cs=[.slice a0 x.ag.length c0,.int .i64 x.gc.PD,.int .i64 x.gc.PL,.int .i64 x.gc.PF,.slice a4 x.gc.hZ.length c4]∧iR S w a0 c0 x.ag∧iR S w a4 c4 x.gc.hZ
  own w cs F x:=∃ (a0:Option Addr) (c0:Nat) (a4:Option Addr) (c4:Nat),cs=[.slice a0 x.ag.length c0,.int .i64 x.gc.PD,.int .i64 x.gc.PL,.int .i64 x.gc.PF,.slice a4 x.gc.hZ.length c4]∧jj [sl a0 c0 x.ag,sl a4 c4 x.gc.hZ] w F
  lZ:=by rintro _ _ _ _ ⟨a0,c0,a4,c4,rfl,_⟩;rfl
  jx:=by rintro _ _ _ _ ⟨a0,c0,a4,c4,rfl,_⟩;rfl
  lk:=by rintro _ _ _ _ _ ⟨a0,c0,a4,c4,rfl,h0,h4⟩ hk;exact ⟨a0,c0,a4,c4,rfl,h0.lO hk,h4.lO hk⟩
  lj:=by rintro _ _ _ _ _ ⟨a0,c0,a4,c4,rfl,h0,h4⟩ hk;exact ⟨a0,c0,a4,c4,rfl,h0.mono hk,h4.mono hk⟩
  kl:=by rintro _ _ _ _ _ ⟨a0,c0,a4,c4,rfl,h⟩ hk;exact ⟨a0,c0,a4,c4,rfl,h.frame hk⟩
  lW:=by rintro _ _ _ _ _ ⟨a0,c0,a4,c4,rfl,h⟩ hk;exact ⟨a0,c0,a4,c4,rfl,jj.m9 h 0 rfl hk,jj.m9 h 1 rfl hk⟩
  kK:=by rintro _ _ _ _ ⟨a0,c0,a4,c4,rfl,_⟩;simp [Value.oneCell']
  jI _:=⟨none,0,none,0,rfl,⟨[],[],rfl,.inl ⟨rfl,rfl,rfl,rfl⟩,⟨[],[],rfl,.inl ⟨rfl,rfl,rfl,rfl⟩,rfl⟩⟩⟩
structure cd where
  PB:jE
  own:List Int
  PC:List im
  py:il
  ia:List iZ
  PJ:Int
  PI:Int
  hY:ic
  ik:Int
  PH:Int
  deriving DecidableEq
instance:iw cd where
  ty:=50
  sz:=16
  zero:=⟨⟨[]⟩,[],[],⟨[],⟨0,0,0,[]⟩⟩,[],0,0,⟨0,0,0⟩,0,0⟩
  zc:=[.slice none 0 0,.slice none 0 0,.slice none 0 0,.slice none 0 0,.int .i64 0,.int .i64 0,.int .i64 0,.slice none 0 0,.slice none 0 0,.int .i64 0,.int .i64 0,.int .i64 0,.int .i64 0,.int .i64 0,.int .i64 0,.int .i64 0]
  pos:=by omega
  rd S w cs x:=∃ (a0:Option Addr) (c0:Nat) (a1:Option Addr) (c1:Nat) (a2:Option Addr) (c2:Nat) (a3:Option Addr) (c3:Nat) (a7:Option Addr) (c7:Nat) (a8:Option Addr) (c8:Nat),cs=[.slice a0 x.PB.PA.length c0,.slice a1 x.own.length c1,.slice a2 x.PC.length c2,.slice a3 x.py.ag.length c3,.int .i64 x.py.gc.PD,.int .i64 x.py.gc.PL,.int .i64 x.py.gc.PF,.slice a7 x.py.gc.hZ.length c7,.slice a8 x.ia.length c8,.int .i64 x.PJ,.int .i64 x.PI,.int .i64 x.hY.bh,.int .i64 x.hY.ib,.int .i64 x.hY.ij,.int .i64 x.ik,.int .i64 x.PH]∧iR S w a0 c0 x.PB.PA∧iR S w a1 c1 x.own∧iR S w a2 c2 x.PC∧iR S w a3 c3 x.py.ag∧iR S w a7 c7 x.py.gc.hZ∧iR S w a8 c8 x.ia
  own w cs F x:=∃ (a0:Option Addr) (c0:Nat) (a1:Option Addr) (c1:Nat) (a2:Option Addr) (c2:Nat) (a3:Option Addr) (c3:Nat) (a7:Option Addr) (c7:Nat) (a8:Option Addr) (c8:Nat),cs=[.slice a0 x.PB.PA.length c0,.slice a1 x.own.length c1,.slice a2 x.PC.length c2,.slice a3 x.py.ag.length c3,.int .i64 x.py.gc.PD,.int .i64 x.py.gc.PL,.int .i64 x.py.gc.PF,.slice a7 x.py.gc.hZ.length c7,.slice a8 x.ia.length c8,.int .i64 x.PJ,.int .i64 x.PI,.int .i64 x.hY.bh,.int .i64 x.hY.ib,.int .i64 x.hY.ij,.int .i64 x.ik,.int .i64 x.PH]∧jj [sl a0 c0 x.PB.PA,sl a1 c1 x.own,sl a2 c2 x.PC,sl a3 c3 x.py.ag,sl a7 c7 x.py.gc.hZ,sl a8 c8 x.ia] w F
  lZ:=by rintro _ _ _ _ ⟨a0,c0,a1,c1,a2,c2,a3,c3,a7,c7,a8,c8,rfl,_⟩;rfl
  jx:=by rintro _ _ _ _ ⟨a0,c0,a1,c1,a2,c2,a3,c3,a7,c7,a8,c8,rfl,_⟩;rfl
  lk:=by rintro _ _ _ _ _ ⟨a0,c0,a1,c1,a2,c2,a3,c3,a7,c7,a8,c8,rfl,h0,h1,h2,h3,h7,h8⟩ hk;exact ⟨a0,c0,a1,c1,a2,c2,a3,c3,a7,c7,a8,c8,rfl,h0.lO hk,h1.lO hk,h2.lO hk,h3.lO hk,h7.lO hk,h8.lO hk⟩
  lj:=by rintro _ _ _ _ _ ⟨a0,c0,a1,c1,a2,c2,a3,c3,a7,c7,a8,c8,rfl,h0,h1,h2,h3,h7,h8⟩ hk;exact ⟨a0,c0,a1,c1,a2,c2,a3,c3,a7,c7,a8,c8,rfl,h0.mono hk,h1.mono hk,h2.mono hk,h3.mono hk,h7.mono hk,h8.mono hk⟩
  kl:=by rintro _ _ _ _ _ ⟨a0,c0,a1,c1,a2,c2,a3,c3,a7,c7,a8,c8,rfl,h⟩ hk;exact ⟨a0,c0,a1,c1,a2,c2,a3,c3,a7,c7,a8,c8,rfl,h.frame hk⟩
  lW:=by rintro _ _ _ _ _ ⟨a0,c0,a1,c1,a2,c2,a3,c3,a7,c7,a8,c8,rfl,h⟩ hk;exact ⟨a0,c0,a1,c1,a2,c2,a3,c3,a7,c7,a8,c8,rfl,jj.m9 h 0 rfl hk,jj.m9 h 1 rfl hk,jj.m9 h 2 rfl hk,jj.m9 h 3 rfl hk,jj.m9 h 4 rfl hk,jj.m9 h 5 rfl hk⟩
  kK:=by rintro _ _ _ _ ⟨a0,c0,a1,c1,a2,c2,a3,c3,a7,c7,a8,c8,rfl,_⟩;simp [Value.oneCell']
  jI _:=⟨none,0,none,0,none,0,none,0,none,0,none,0,rfl,⟨[],[],rfl,.inl ⟨rfl,rfl,rfl,rfl⟩,⟨[],[],rfl,.inl ⟨rfl,rfl,rfl,rfl⟩,⟨[],[],rfl,.inl ⟨rfl,rfl,rfl,rfl⟩,⟨[],[],rfl,.inl ⟨rfl,rfl,rfl,rfl⟩,⟨[],[],rfl,.inl ⟨rfl,rfl,rfl,rfl⟩,⟨[],[],rfl,.inl ⟨rfl,rfl,rfl,rfl⟩,rfl⟩⟩⟩⟩⟩⟩⟩
structure iC where
  PQ:Int
  parts:List cd
  deriving DecidableEq
instance:iw iC where
  ty:=26
  sz:=2
  zero:=⟨0,[]⟩
  zc:=[.int .i64 0,.slice none 0 0]
  pos:=by omega
  rd S w cs x:=∃ (a1:Option Addr) (c1:Nat),cs=[.int .i64 x.PQ,.slice a1 x.parts.length c1]∧iR S w a1 c1 x.parts
  own w cs F x:=∃ (a1:Option Addr) (c1:Nat),cs=[.int .i64 x.PQ,.slice a1 x.parts.length c1]∧jj [sl a1 c1 x.parts] w F
  lZ:=by rintro _ _ _ _ ⟨a1,c1,rfl,_⟩;rfl
  jx:=by rintro _ _ _ _ ⟨a1,c1,rfl,_⟩;rfl
  lk:=by rintro _ _ _ _ _ ⟨a1,c1,rfl,h1⟩ hk;exact ⟨a1,c1,rfl,h1.lO hk⟩
  lj:=by rintro _ _ _ _ _ ⟨a1,c1,rfl,h1⟩ hk;exact ⟨a1,c1,rfl,h1.mono hk⟩
  kl:=by rintro _ _ _ _ _ ⟨a1,c1,rfl,h⟩ hk;exact ⟨a1,c1,rfl,h.frame hk⟩
  lW:=by rintro _ _ _ _ _ ⟨a1,c1,rfl,h⟩ hk;exact ⟨a1,c1,rfl,jj.m9 h 0 rfl hk⟩
  kK:=by rintro _ _ _ _ ⟨a1,c1,rfl,_⟩;simp [Value.oneCell']
  jI _:=⟨none,0,rfl,⟨[],[],rfl,.inl ⟨rfl,rfl,rfl,rfl⟩,rfl⟩⟩
structure iL where
  Py:cd
  me:Int
  PQ:Int
  jb:Int
  deriving DecidableEq
structure iu where
  b:List U8
  i:Int
  h:Int
  deriving DecidableEq
structure tm where
  PB:jE
  own:List Int
  PC:Hd
  py:il
  ia:List iZ
  PJ:Int
  PI:Int
  hY:ic
  ik:Int
  PH:Int
instance:iw tm where
  ty:=50
  sz:=16
  zero:=⟨⟨[]⟩,[],⟨none,0,0⟩,⟨[],⟨0,0,0,[]⟩⟩,[],0,0,⟨0,0,0⟩,0,0⟩
  zc:=[.slice none 0 0,.slice none 0 0,.slice none 0 0,.slice none 0 0,.int .i64 0,.int .i64 0,.int .i64 0,.slice none 0 0,.slice none 0 0,.int .i64 0,.int .i64 0,.int .i64 0,.int .i64 0,.int .i64 0,.int .i64 0,.int .i64 0]
  pos:=by omega
  rd S w cs x:=∃ (a0:Option Addr) (c0:Nat) (a1:Option Addr) (c1:Nat) (a3:Option Addr) (c3:Nat) (a7:Option Addr) (c7:Nat) (a8:Option Addr) (c8:Nat),cs=[.slice a0 x.PB.PA.length c0,.slice a1 x.own.length c1,.slice x.PC.a x.PC.n x.PC.c,.slice a3 x.py.ag.length c3,.int .i64 x.py.gc.PD,.int .i64 x.py.gc.PL,.int .i64 x.py.gc.PF,.slice a7 x.py.gc.hZ.length c7,.slice a8 x.ia.length c8,.int .i64 x.PJ,.int .i64 x.PI,.int .i64 x.hY.bh,.int .i64 x.hY.ib,.int .i64 x.hY.ij,.int .i64 x.ik,.int .i64 x.PH]∧iR S w a0 c0 x.PB.PA∧iR S w a1 c1 x.own∧iR S w a3 c3 x.py.ag∧iR S w a7 c7 x.py.gc.hZ∧iR S w a8 c8 x.ia
  own w cs F x:=∃ (a0:Option Addr) (c0:Nat) (a1:Option Addr) (c1:Nat) (a3:Option Addr) (c3:Nat) (a7:Option Addr) (c7:Nat) (a8:Option Addr) (c8:Nat),cs=[.slice a0 x.PB.PA.length c0,.slice a1 x.own.length c1,.slice x.PC.a x.PC.n x.PC.c,.slice a3 x.py.ag.length c3,.int .i64 x.py.gc.PD,.int .i64 x.py.gc.PL,.int .i64 x.py.gc.PF,.slice a7 x.py.gc.hZ.length c7,.slice a8 x.ia.length c8,.int .i64 x.PJ,.int .i64 x.PI,.int .i64 x.hY.bh,.int .i64 x.hY.ib,.int .i64 x.hY.ij,.int .i64 x.ik,.int .i64 x.PH]∧jj [sl a0 c0 x.PB.PA,sl a1 c1 x.own,sl a3 c3 x.py.ag,sl a7 c7 x.py.gc.hZ,sl a8 c8 x.ia] w F
  lZ:=by rintro _ _ _ _ ⟨a0,c0,a1,c1,a3,c3,a7,c7,a8,c8,rfl,_⟩;rfl
  jx:=by rintro _ _ _ _ ⟨a0,c0,a1,c1,a3,c3,a7,c7,a8,c8,rfl,_⟩;rfl
  lk:=by rintro _ _ _ _ _ ⟨a0,c0,a1,c1,a3,c3,a7,c7,a8,c8,rfl,h0,h1,h3,h7,h8⟩ hk;exact ⟨a0,c0,a1,c1,a3,c3,a7,c7,a8,c8,rfl,h0.lO hk,h1.lO hk,h3.lO hk,h7.lO hk,h8.lO hk⟩
  lj:=by rintro _ _ _ _ _ ⟨a0,c0,a1,c1,a3,c3,a7,c7,a8,c8,rfl,h0,h1,h3,h7,h8⟩ hk;exact ⟨a0,c0,a1,c1,a3,c3,a7,c7,a8,c8,rfl,h0.mono hk,h1.mono hk,h3.mono hk,h7.mono hk,h8.mono hk⟩
  kl:=by rintro _ _ _ _ _ ⟨a0,c0,a1,c1,a3,c3,a7,c7,a8,c8,rfl,h⟩ hk;exact ⟨a0,c0,a1,c1,a3,c3,a7,c7,a8,c8,rfl,h.frame hk⟩
  lW:=by rintro _ _ _ _ _ ⟨a0,c0,a1,c1,a3,c3,a7,c7,a8,c8,rfl,h⟩ hk;exact ⟨a0,c0,a1,c1,a3,c3,a7,c7,a8,c8,rfl,jj.m9 h 0 rfl hk,jj.m9 h 1 rfl hk,jj.m9 h 2 rfl hk,jj.m9 h 3 rfl hk,jj.m9 h 4 rfl hk⟩
  kK:=by rintro _ _ _ _ ⟨a0,c0,a1,c1,a3,c3,a7,c7,a8,c8,rfl,_⟩;simp [Value.oneCell']
  jI _:=⟨none,0,none,0,none,0,none,0,none,0,rfl,⟨[],[],rfl,.inl ⟨rfl,rfl,rfl,rfl⟩,⟨[],[],rfl,.inl ⟨rfl,rfl,rfl,rfl⟩,⟨[],[],rfl,.inl ⟨rfl,rfl,rfl,rfl⟩,⟨[],[],rfl,.inl ⟨rfl,rfl,rfl,rfl⟩,⟨[],[],rfl,.inl ⟨rfl,rfl,rfl,rfl⟩,rfl⟩⟩⟩⟩⟩⟩
structure pY where
  PO:Int
  Pz:Int
  box:Int
  res:Int
  iK:Int
  bh:Int
  PK:Int
  iP:Int
  iM:Int
  mark:Bool
  deriving DecidableEq
instance:iw pY where
  ty:=101
  sz:=13
  zero:=⟨0,0,0,0,0,0,0,0,0,false⟩
  zc:=[.int .i64 0,.int .i64 0,.int .i64 0,.int .i64 0,.int .i64 0,.int .i64 0,.int .i64 0,.int .i64 0,.int .i64 0,.bool false,.slice none 0 0,.slice none 0 0,.slice none 0 0]
  pos:=by omega
  rd _ _ cs x:=∃ (a0:Option Addr) (n0 c0:Nat) (a1:Option Addr) (n1 c1:Nat) (a2:Option Addr) (n2 c2:Nat),cs=[.int .i64 x.PO,.int .i64 x.Pz,.int .i64 x.box,.int .i64 x.res,.int .i64 x.iK,.int .i64 x.bh,.int .i64 x.PK,.int .i64 x.iP,.int .i64 x.iM,.bool x.mark,.slice a0 n0 c0,.slice a1 n1 c1,.slice a2 n2 c2]
  own _ cs F x:=(∃ (a0:Option Addr) (n0 c0:Nat) (a1:Option Addr) (n1 c1:Nat) (a2:Option Addr) (n2 c2:Nat),cs=[.int .i64 x.PO,.int .i64 x.Pz,.int .i64 x.box,.int .i64 x.res,.int .i64 x.iK,.int .i64 x.bh,.int .i64 x.PK,.int .i64 x.iP,.int .i64 x.iM,.bool x.mark,.slice a0 n0 c0,.slice a1 n1 c1,.slice a2 n2 c2])∧F=[]
  lZ:=by rintro _ _ _ _ ⟨a0,n0,c0,a1,n1,c1,a2,n2,c2,rfl⟩;rfl
  jx:=by rintro _ _ _ _ ⟨⟨a0,n0,c0,a1,n1,c1,a2,n2,c2,rfl⟩,_⟩;rfl
  lk h _:=h
  lj h _:=h
  kl h _:=h
  lW h _:=h.1
  kK:=by rintro _ _ _ _ ⟨⟨a0,n0,c0,a1,n1,c1,a2,n2,c2,rfl⟩,_⟩;simp [Value.oneCell']
  jI _:=⟨⟨_,_,_,_,_,_,_,_,_,rfl⟩,rfl⟩
def mL (l:List cd):List (List im):=l.map fun p=>p.PC
def kF (l:List ky):List (List im):=l.map fun t=>t.list
def m3 (l:List cd):List ky:=(mL l).map ky.mk
def oM (p:cd) (t:List im):cd:=cd.mk p.PB p.own t p.py p.ia p.PJ p.PI p.hY p.ik p.PH
def kg (l:List cd) (ts:List (List im)):List cd:=List.zipWith oM l ts
def gd (b:Bool):Option Unit:=bif b then some () else none
class Fit (α:Type) where
  fit:α→Prop
instance:Fit Int:=⟨fun x=>-9223372036854775808≤x∧x≤9223372036854775807⟩
instance:Fit Bool:=⟨fun _=>True⟩
instance:Fit U8:=⟨fun x=>0≤x.v∧x.v≤255⟩
instance {α:Type} [Fit α]:Fit (List α):=⟨fun l=>l.length≤maxLen∧∀ y,y ∈ l→Fit.fit y⟩
instance:Fit ic:=⟨fun x=>Fit.fit x.bh∧Fit.fit x.ib∧Fit.fit x.ij⟩
instance:Fit iJ:=⟨fun x=>Fit.fit x.Pz∧Fit.fit x.a∧Fit.fit x.b∧Fit.fit x.c∧Fit.fit x.d∧Fit.fit x.e⟩
instance:Fit iG:=⟨fun x=>Fit.fit x.code∧Fit.fit x.PR⟩
instance:Fit im:=⟨fun x=>Fit.fit x.PN∧Fit.fit x.PM∧Fit.fit x.iI⟩
instance:Fit iZ:=⟨fun x=>Fit.fit x.res∧Fit.fit x.km∧Fit.fit x.nu∧Fit.fit x.kT∧Fit.fit x.Pz∧Fit.fit x.mA⟩
instance:Fit je:=⟨fun x=>Fit.fit x.PS∧Fit.fit x.n⟩
instance:Fit jE:=⟨fun x=>Fit.fit x.PA⟩
instance:Fit ku:=⟨fun x=>Fit.fit x.PB∧Fit.fit x.own∧Fit.fit x.kh⟩
instance:Fit ky:=⟨fun x=>Fit.fit x.list⟩
instance:Fit gE:=⟨fun x=>Fit.fit x.PO∧Fit.fit x.Pz∧Fit.fit x.box∧Fit.fit x.res∧Fit.fit x.iK∧Fit.fit x.bh∧Fit.fit x.PK∧Fit.fit x.iP∧Fit.fit x.iM∧Fit.fit x.mark∧Fit.fit x.ig∧Fit.fit x.PG∧Fit.fit x.PE⟩
instance:Fit jv:=⟨fun x=>Fit.fit x.PD∧Fit.fit x.PL∧Fit.fit x.PF∧Fit.fit x.hZ⟩
instance:Fit il:=⟨fun x=>Fit.fit x.ag∧Fit.fit x.gc⟩
instance:Fit cd:=⟨fun x=>Fit.fit x.PB∧Fit.fit x.own∧Fit.fit x.PC∧Fit.fit x.py∧Fit.fit x.ia∧Fit.fit x.PJ∧Fit.fit x.PI∧Fit.fit x.hY∧Fit.fit x.ik∧Fit.fit x.PH⟩
instance:Fit iC:=⟨fun x=>Fit.fit x.PQ∧Fit.fit x.parts⟩
instance:Fit iL:=⟨fun x=>Fit.fit x.Py∧Fit.fit x.me∧Fit.fit x.PQ∧Fit.fit x.jb⟩
instance:Fit iu:=⟨fun x=>Fit.fit x.b∧Fit.fit x.i∧Fit.fit x.h⟩
end Go.Kx
