import Derived.Test.YtfmfgnhbgcjajaaGreatDraw
namespace Go.Kx
open Go Go.RowKit
open Go.IntKind (i64)
set_option linter.unusedVariables false
set_option linter.unusedSimpArgs false
instance:dv Int where
  ty:=3
  sz:=1
  zero:=0
  zc:=[.int .i64 0]
  pos:=by omega
  rd _ _ cs x:=cs=[.int .i64 x]
  own _ cs F x:=cs=[.int .i64 x]/\F=[]
  ja:=by rintro _ _ _ _ rfl;rfl
  eV:=by rintro _ _ _ _ ⟨rfl,_⟩;rfl
  iv h _:=h
  iz h _:=h
  gh h _:=h
  jd h _:=h.1
  gZ:=by rintro _ _ _ _ ⟨rfl,_⟩;simp[Value.oneCell']
  fB _:=⟨rfl,rfl⟩
instance:Flat Int:=⟨fun h=>⟨h,rfl⟩⟩
instance:dv Bool where
  ty:=4
  sz:=1
  zero:=false
  zc:=[.bool false]
  pos:=by omega
  rd _ _ cs x:=cs=[.bool x]
  own _ cs F x:=cs=[.bool x]/\F=[]
  ja:=by rintro _ _ _ _ rfl;rfl
  eV:=by rintro _ _ _ _ ⟨rfl,_⟩;rfl
  iv h _:=h
  iz h _:=h
  gh h _:=h
  jd h _:=h.1
  gZ:=by rintro _ _ _ _ ⟨rfl,_⟩;simp[Value.oneCell']
  fB _:=⟨rfl,rfl⟩
instance:Flat Bool:=⟨fun h=>⟨h,rfl⟩⟩
abbrev Qk:=ByteArray
instance:dv Qk where
  ty:=9
  sz:=1
  zero:=⟨#[]⟩
  zc:=[.string ⟨#[]⟩]
  pos:=by omega
  rd _ _ cs x:=cs=[.string x]
  own _ cs F x:=cs=[.string x]/\F=[]
  ja:=by rintro _ _ _ _ rfl;rfl
  eV:=by rintro _ _ _ _ ⟨rfl,_⟩;rfl
  iv h _:=h
  iz h _:=h
  gh h _:=h
  jd h _:=h.1
  gZ:=by rintro _ _ _ _ ⟨rfl,_⟩;simp[Value.oneCell']
  fB _:=⟨rfl,rfl⟩
instance:Flat Qk:=⟨fun h=>⟨h,rfl⟩⟩
structure U8 where
  v:Int
  deriving DecidableEq
instance:dv U8 where
  ty:=5
  sz:=1
  zero:=⟨0⟩
  zc:=[.int .u8 0]
  pos:=by omega
  rd _ _ cs x:=cs=[.int .u8 x.v]
  own _ cs F x:=cs=[.int .u8 x.v]/\F=[]
  ja:=by rintro _ _ _ _ rfl;rfl
  eV:=by rintro _ _ _ _ ⟨rfl,_⟩;rfl
  iv h _:=h
  iz h _:=h
  gh h _:=h
  jd h _:=h.1
  gZ:=by rintro _ _ _ _ ⟨rfl,_⟩;simp[Value.oneCell']
  fB _:=⟨rfl,rfl⟩
instance:Flat U8:=⟨fun h=>⟨h,rfl⟩⟩
def yG(a b:Int):Int:=i64.wrap ((BitVec.ofInt IntKind.i64.bits a &&& BitVec.ofInt IntKind.i64.bits b).toNat:Int)
def OF(a b:Int):Int:=i64.wrap ((BitVec.ofInt IntKind.i64.bits a ^^^ BitVec.ofInt IntKind.i64.bits b).toNat:Int)
def IH(a b:Int):Int:=a.fdiv (2^(min b.toNat IntKind.i64.bits))
structure Hd where
  a:Option Addr
  n:Nat
  c:Nat
structure de where
  cd:Int
  dg:Int
  du:Int
  deriving DecidableEq
instance:dv de where
  ty:=33
  sz:=3
  zero:=⟨0,0,0⟩
  zc:=[.int .i64 0,.int .i64 0,.int .i64 0]
  pos:=by omega
  rd _ _ cs x:=cs=[.int .i64 x.cd,.int .i64 x.dg,.int .i64 x.du]
  own _ cs F x:=cs=[.int .i64 x.cd,.int .i64 x.dg,.int .i64 x.du]/\F=[]
  ja:=by rintro _ _ _ _ rfl;rfl
  eV:=by rintro _ _ _ _ ⟨rfl,_⟩;rfl
  iv h _:=h
  iz h _:=h
  gh h _:=h
  jd h _:=h.1
  gZ:=by rintro _ _ _ _ ⟨rfl,_⟩;simp[Value.oneCell']
  fB _:=⟨rfl,rfl⟩
instance:Flat de:=⟨fun h=>⟨h,rfl⟩⟩
structure dH where
  so:Int
  a:Int
  b:Int
  c:Int
  d:Int
  e:Int
  deriving DecidableEq
instance:dv dH where
  ty:=63
  sz:=6
  zero:=⟨0,0,0,0,0,0⟩
  zc:=[.int .i64 0,.int .i64 0,.int .i64 0,.int .i64 0,.int .i64 0,.int .i64 0]
  pos:=by omega
  rd _ _ cs x:=cs=[.int .i64 x.so,.int .i64 x.a,.int .i64 x.b,.int .i64 x.c,.int .i64 x.d,.int .i64 x.e]
  own _ cs F x:=cs=[.int .i64 x.so,.int .i64 x.a,.int .i64 x.b,.int .i64 x.c,.int .i64 x.d,.int .i64 x.e]/\F=[]
  ja:=by rintro _ _ _ _ rfl;rfl
  eV:=by rintro _ _ _ _ ⟨rfl,_⟩;rfl
  iv h _:=h
  iz h _:=h
  gh h _:=h
  jd h _:=h.1
  gZ:=by rintro _ _ _ _ ⟨rfl,_⟩;simp[Value.oneCell']
  fB _:=⟨rfl,rfl⟩
instance:Flat dH:=⟨fun h=>⟨h,rfl⟩⟩
structure eQ where
  so:Int
  py:Int
  dU:Int
  call:dH
  deriving DecidableEq
instance:dv eQ where
  ty:=65
  sz:=9
  zero:=⟨0,0,0,⟨0,0,0,0,0,0⟩⟩
  zc:=[.int .i64 0,.int .i64 0,.int .i64 0,.int .i64 0,.int .i64 0,.int .i64 0,.int .i64 0,.int .i64 0,.int .i64 0]
  pos:=by omega
  rd _ _ cs x:=cs=[.int .i64 x.so,.int .i64 x.py,.int .i64 x.dU,.int .i64 x.call.so,.int .i64 x.call.a,.int .i64 x.call.b,.int .i64 x.call.c,.int .i64 x.call.d,.int .i64 x.call.e]
  own _ cs F x:=cs=[.int .i64 x.so,.int .i64 x.py,.int .i64 x.dU,.int .i64 x.call.so,.int .i64 x.call.a,.int .i64 x.call.b,.int .i64 x.call.c,.int .i64 x.call.d,.int .i64 x.call.e]/\F=[]
  ja:=by rintro _ _ _ _ rfl;rfl
  eV:=by rintro _ _ _ _ ⟨rfl,_⟩;rfl
  iv h _:=h
  iz h _:=h
  gh h _:=h
  jd h _:=h.1
  gZ:=by rintro _ _ _ _ ⟨rfl,_⟩;simp[Value.oneCell']
  fB _:=⟨rfl,rfl⟩
instance:Flat eQ:=⟨fun h=>⟨h,rfl⟩⟩
structure dE where
  code:Int
  Rv:Int
  deriving DecidableEq
instance:dv dE where
  ty:=78
  sz:=2
  zero:=⟨0,0⟩
  zc:=[.int .i64 0,.int .i64 0]
  pos:=by omega
  rd _ _ cs x:=cs=[.int .i64 x.code,.int .i64 x.Rv]
  own _ cs F x:=cs=[.int .i64 x.code,.int .i64 x.Rv]/\F=[]
  ja:=by rintro _ _ _ _ rfl;rfl
  eV:=by rintro _ _ _ _ ⟨rfl,_⟩;rfl
  iv h _:=h
  iz h _:=h
  gh h _:=h
  jd h _:=h.1
  gZ:=by rintro _ _ _ _ ⟨rfl,_⟩;simp[Value.oneCell']
  fB _:=⟨rfl,rfl⟩
instance:Flat dE:=⟨fun h=>⟨h,rfl⟩⟩
structure dk where
  Rq:Bool
  Rr:Int
  dQ:de
  deriving DecidableEq
instance:dv dk where
  ty:=85
  sz:=5
  zero:=⟨false,0,⟨0,0,0⟩⟩
  zc:=[.bool false,.int .i64 0,.int .i64 0,.int .i64 0,.int .i64 0]
  pos:=by omega
  rd _ _ cs x:=cs=[.bool x.Rq,.int .i64 x.Rr,.int .i64 x.dQ.cd,.int .i64 x.dQ.dg,.int .i64 x.dQ.du]
  own _ cs F x:=cs=[.bool x.Rq,.int .i64 x.Rr,.int .i64 x.dQ.cd,.int .i64 x.dQ.dg,.int .i64 x.dQ.du]/\F=[]
  ja:=by rintro _ _ _ _ rfl;rfl
  eV:=by rintro _ _ _ _ ⟨rfl,_⟩;rfl
  iv h _:=h
  iz h _:=h
  gh h _:=h
  jd h _:=h.1
  gZ:=by rintro _ _ _ _ ⟨rfl,_⟩;simp[Value.oneCell']
  fB _:=⟨rfl,rfl⟩
instance:Flat dk:=⟨fun h=>⟨h,rfl⟩⟩
structure eA where
  Rt:Int
  fW:Int
  nG:Int
  iH:Int
  so:Int
  kp:Int
  deriving DecidableEq
instance:dv eA where
  ty:=87
  sz:=6
  zero:=⟨0,0,0,0,0,0⟩
  zc:=[.int .i64 0,.int .i64 0,.int .i64 0,.int .i64 0,.int .i64 0,.int .i64 0]
  pos:=by omega
  rd _ _ cs x:=cs=[.int .i64 x.Rt,.int .i64 x.fW,.int .i64 x.nG,.int .i64 x.iH,.int .i64 x.so,.int .i64 x.kp]
  own _ cs F x:=cs=[.int .i64 x.Rt,.int .i64 x.fW,.int .i64 x.nG,.int .i64 x.iH,.int .i64 x.so,.int .i64 x.kp]/\F=[]
  ja:=by rintro _ _ _ _ rfl;rfl
  eV:=by rintro _ _ _ _ ⟨rfl,_⟩;rfl
  iv h _:=h
  iz h _:=h
  gh h _:=h
  jd h _:=h.1
  gZ:=by rintro _ _ _ _ ⟨rfl,_⟩;simp[Value.oneCell']
  fB _:=⟨rfl,rfl⟩
instance:Flat eA:=⟨fun h=>⟨h,rfl⟩⟩
structure eS where
  Rx:Int
  n:Int
  deriving DecidableEq
instance:dv eS where
  ty:=155
  sz:=2
  zero:=⟨0,0⟩
  zc:=[.int .i64 0,.int .i64 0]
  pos:=by omega
  rd _ _ cs x:=cs=[.int .i64 x.Rx,.int .i64 x.n]
  own _ cs F x:=cs=[.int .i64 x.Rx,.int .i64 x.n]/\F=[]
  ja:=by rintro _ _ _ _ rfl;rfl
  eV:=by rintro _ _ _ _ ⟨rfl,_⟩;rfl
  iv h _:=h
  iz h _:=h
  gh h _:=h
  jd h _:=h.1
  gZ:=by rintro _ _ _ _ ⟨rfl,_⟩;simp[Value.oneCell']
  fB _:=⟨rfl,rfl⟩
instance:Flat eS:=⟨fun h=>⟨h,rfl⟩⟩
structure fD where
  Rb:List Int
  deriving DecidableEq
instance:dv fD where
  ty:=31
  sz:=1
  zero:=⟨[]⟩
  zc:=[.slice none 0 0]
  pos:=by omega
  rd S w cs x:=∃(a0:Option Addr) (c0:Nat),cs=[.slice a0 x.Rb.length c0]/\dZ S w a0 c0 x.Rb
  own w cs F x:=∃(a0:Option Addr) (c0:Nat),cs=[.slice a0 x.Rb.length c0]/\eI [sl a0 c0 x.Rb] w F
  ja:=by rintro _ _ _ _ ⟨a0,c0,rfl,_⟩;rfl
  eV:=by rintro _ _ _ _ ⟨a0,c0,rfl,_⟩;rfl
  iv:=by rintro _ _ _ _ _ ⟨a0,c0,rfl,h0⟩ hk;exact⟨a0,c0,rfl,h0.iJ hk⟩
  iz:=by rintro _ _ _ _ _ ⟨a0,c0,rfl,h0⟩ hk;exact⟨a0,c0,rfl,h0.mono hk⟩
  gh:=by rintro _ _ _ _ _ ⟨a0,c0,rfl,h⟩ hk;exact⟨a0,c0,rfl,h.frame hk⟩
  jd:=by rintro _ _ _ _ _ ⟨a0,c0,rfl,h⟩ hk;exact⟨a0,c0,rfl,eI.kN h 0 rfl hk⟩
  gZ:=by rintro _ _ _ _ ⟨a0,c0,rfl,_⟩;simp[Value.oneCell']
  fB _:=⟨none,0,rfl,⟨[],[],rfl,.inl ⟨rfl,rfl,rfl,rfl⟩,rfl⟩⟩
structure eh where
  Rd:fD
  own:List Int
  fA:de
  deriving DecidableEq
instance:dv eh where
  ty:=35
  sz:=5
  zero:=⟨⟨[]⟩,[],⟨0,0,0⟩⟩
  zc:=[.slice none 0 0,.slice none 0 0,.int .i64 0,.int .i64 0,.int .i64 0]
  pos:=by omega
  rd S w cs x:=∃(a0:Option Addr) (c0:Nat) (a1:Option Addr) (c1:Nat),cs=[.slice a0 x.Rd.Rb.length c0,.slice a1 x.own.length c1,.int .i64 x.fA.cd,.int .i64 x.fA.dg,.int .i64 x.fA.du]/\dZ S w a0 c0 x.Rd.Rb/\dZ S w a1 c1 x.own
  own w cs F x:=∃(a0:Option Addr) (c0:Nat) (a1:Option Addr) (c1:Nat),cs=[.slice a0 x.Rd.Rb.length c0,.slice a1 x.own.length c1,.int .i64 x.fA.cd,.int .i64 x.fA.dg,.int .i64 x.fA.du]/\eI [sl a0 c0 x.Rd.Rb,sl a1 c1 x.own] w F
  ja:=by rintro _ _ _ _ ⟨a0,c0,a1,c1,rfl,_⟩;rfl
  eV:=by rintro _ _ _ _ ⟨a0,c0,a1,c1,rfl,_⟩;rfl
  iv:=by rintro _ _ _ _ _ ⟨a0,c0,a1,c1,rfl,h0,h1⟩ hk;exact⟨a0,c0,a1,c1,rfl,h0.iJ hk,h1.iJ hk⟩
  iz:=by rintro _ _ _ _ _ ⟨a0,c0,a1,c1,rfl,h0,h1⟩ hk;exact⟨a0,c0,a1,c1,rfl,h0.mono hk,h1.mono hk⟩
  gh:=by rintro _ _ _ _ _ ⟨a0,c0,a1,c1,rfl,h⟩ hk;exact⟨a0,c0,a1,c1,rfl,h.frame hk⟩
  jd:=by rintro _ _ _ _ _ ⟨a0,c0,a1,c1,rfl,h⟩ hk;exact⟨a0,c0,a1,c1,rfl,eI.kN h 0 rfl hk,eI.kN h 1 rfl hk⟩
  gZ:=by rintro _ _ _ _ ⟨a0,c0,a1,c1,rfl,_⟩;simp[Value.oneCell']
  fB _:=⟨none,0,none,0,rfl,⟨[],[],rfl,.inl ⟨rfl,rfl,rfl,rfl⟩,⟨[],[],rfl,.inl ⟨rfl,rfl,rfl,rfl⟩,rfl⟩⟩⟩
structure dV where
  Ru:List dk
  deriving DecidableEq
instance:dv dV where
  ty:=170
  sz:=1
  zero:=⟨[]⟩
  zc:=[.slice none 0 0]
  pos:=by omega
  rd S w cs x:=∃(a0:Option Addr) (c0:Nat),cs=[.slice a0 x.Ru.length c0]/\dZ S w a0 c0 x.Ru
  own w cs F x:=∃(a0:Option Addr) (c0:Nat),cs=[.slice a0 x.Ru.length c0]/\eI [sl a0 c0 x.Ru] w F
  ja:=by rintro _ _ _ _ ⟨a0,c0,rfl,_⟩;rfl
  eV:=by rintro _ _ _ _ ⟨a0,c0,rfl,_⟩;rfl
  iv:=by rintro _ _ _ _ _ ⟨a0,c0,rfl,h0⟩ hk;exact⟨a0,c0,rfl,h0.iJ hk⟩
  iz:=by rintro _ _ _ _ _ ⟨a0,c0,rfl,h0⟩ hk;exact⟨a0,c0,rfl,h0.mono hk⟩
  gh:=by rintro _ _ _ _ _ ⟨a0,c0,rfl,h⟩ hk;exact⟨a0,c0,rfl,h.frame hk⟩
  jd:=by rintro _ _ _ _ _ ⟨a0,c0,rfl,h⟩ hk;exact⟨a0,c0,rfl,eI.kN h 0 rfl hk⟩
  gZ:=by rintro _ _ _ _ ⟨a0,c0,rfl,_⟩;simp[Value.oneCell']
  fB _:=⟨none,0,rfl,⟨[],[],rfl,.inl ⟨rfl,rfl,rfl,rfl⟩,rfl⟩⟩
structure c6 where
  Rs:Int
  so:Int
  box:Int
  Rt:Int
  dX:Int
  cd:Int
  Rm:Int
  ef:Int
  ee:Int
  mark:Bool
  dp:List Int
  Ri:List Int
  Rf:List eS
  deriving DecidableEq
instance:dv c6 where
  ty:=96
  sz:=13
  zero:=⟨0,0,0,0,0,0,0,0,0,false,[],[],[]⟩
  zc:=[.int .i64 0,.int .i64 0,.int .i64 0,.int .i64 0,.int .i64 0,.int .i64 0,.int .i64 0,.int .i64 0,.int .i64 0,.bool false,.slice none 0 0,.slice none 0 0,.slice none 0 0]
  pos:=by omega
  rd S w cs x:=∃(a10:Option Addr) (c10:Nat) (a11:Option Addr) (c11:Nat) (a12:Option Addr) (c12:Nat),cs=[.int .i64 x.Rs,.int .i64 x.so,.int .i64 x.box,.int .i64 x.Rt,.int .i64 x.dX,.int .i64 x.cd,.int .i64 x.Rm,.int .i64 x.ef,.int .i64 x.ee,.bool x.mark,.slice a10 x.dp.length c10,.slice a11 x.Ri.length c11,.slice a12 x.Rf.length c12]/\dZ S w a10 c10 x.dp/\dZ S w a11 c11 x.Ri/\dZ S w a12 c12 x.Rf
  own w cs F x:=∃(a10:Option Addr) (c10:Nat) (a11:Option Addr) (c11:Nat) (a12:Option Addr) (c12:Nat),cs=[.int .i64 x.Rs,.int .i64 x.so,.int .i64 x.box,.int .i64 x.Rt,.int .i64 x.dX,.int .i64 x.cd,.int .i64 x.Rm,.int .i64 x.ef,.int .i64 x.ee,.bool x.mark,.slice a10 x.dp.length c10,.slice a11 x.Ri.length c11,.slice a12 x.Rf.length c12]/\eI [sl a10 c10 x.dp,sl a11 c11 x.Ri,sl a12 c12 x.Rf] w F
  ja:=by rintro _ _ _ _ ⟨a10,c10,a11,c11,a12,c12,rfl,_⟩;rfl
  eV:=by rintro _ _ _ _ ⟨a10,c10,a11,c11,a12,c12,rfl,_⟩;rfl
  iv:=by rintro _ _ _ _ _ ⟨a10,c10,a11,c11,a12,c12,rfl,h10,h11,h12⟩ hk;exact⟨a10,c10,a11,c11,a12,c12,rfl,h10.iJ hk,h11.iJ hk,h12.iJ hk⟩
  iz:=by rintro _ _ _ _ _ ⟨a10,c10,a11,c11,a12,c12,rfl,h10,h11,h12⟩ hk;exact⟨a10,c10,a11,c11,a12,c12,rfl,h10.mono hk,h11.mono hk,h12.mono hk⟩
  gh:=by rintro _ _ _ _ _ ⟨a10,c10,a11,c11,a12,c12,rfl,h⟩ hk;exact⟨a10,c10,a11,c11,a12,c12,rfl,h.frame hk⟩
  jd:=by rintro _ _ _ _ _ ⟨a10,c10,a11,c11,a12,c12,rfl,h⟩ hk;exact⟨a10,c10,a11,c11,a12,c12,rfl,eI.kN h 0 rfl hk,eI.kN h 1 rfl hk,eI.kN h 2 rfl hk⟩
  gZ:=by rintro _ _ _ _ ⟨a10,c10,a11,c11,a12,c12,rfl,_⟩;simp[Value.oneCell']
  fB _:=⟨none,0,none,0,none,0,rfl,⟨[],[],rfl,.inl ⟨rfl,rfl,rfl,rfl⟩,⟨[],[],rfl,.inl ⟨rfl,rfl,rfl,rfl⟩,⟨[],[],rfl,.inl ⟨rfl,rfl,rfl,rfl⟩,rfl⟩⟩⟩⟩
structure eT where
  Rg:Int
  Rp:Int
  Rh:Int
  da:List Int
  deriving DecidableEq
instance:dv eT where
  ty:=49
  sz:=4
  zero:=⟨0,0,0,[]⟩
  zc:=[.int .i64 0,.int .i64 0,.int .i64 0,.slice none 0 0]
  pos:=by omega
  rd S w cs x:=∃(a3:Option Addr) (c3:Nat),cs=[.int .i64 x.Rg,.int .i64 x.Rp,.int .i64 x.Rh,.slice a3 x.da.length c3]/\dZ S w a3 c3 x.da
  own w cs F x:=∃(a3:Option Addr) (c3:Nat),cs=[.int .i64 x.Rg,.int .i64 x.Rp,.int .i64 x.Rh,.slice a3 x.da.length c3]/\eI [sl a3 c3 x.da] w F
  ja:=by rintro _ _ _ _ ⟨a3,c3,rfl,_⟩;rfl
  eV:=by rintro _ _ _ _ ⟨a3,c3,rfl,_⟩;rfl
  iv:=by rintro _ _ _ _ _ ⟨a3,c3,rfl,h3⟩ hk;exact⟨a3,c3,rfl,h3.iJ hk⟩
  iz:=by rintro _ _ _ _ _ ⟨a3,c3,rfl,h3⟩ hk;exact⟨a3,c3,rfl,h3.mono hk⟩
  gh:=by rintro _ _ _ _ _ ⟨a3,c3,rfl,h⟩ hk;exact⟨a3,c3,rfl,h.frame hk⟩
  jd:=by rintro _ _ _ _ _ ⟨a3,c3,rfl,h⟩ hk;exact⟨a3,c3,rfl,eI.kN h 0 rfl hk⟩
  gZ:=by rintro _ _ _ _ ⟨a3,c3,rfl,_⟩;simp[Value.oneCell']
  fB _:=⟨none,0,rfl,⟨[],[],rfl,.inl ⟨rfl,rfl,rfl,rfl⟩,rfl⟩⟩
structure df where
  ag:List c6
  gc:eT
  deriving DecidableEq
instance:dv df where
  ty:=51
  sz:=5
  zero:=⟨[],⟨0,0,0,[]⟩⟩
  zc:=[.slice none 0 0,.int .i64 0,.int .i64 0,.int .i64 0,.slice none 0 0]
  pos:=by omega
  rd S w cs x:=∃(a0:Option Addr) (c0:Nat) (a4:Option Addr) (c4:Nat),cs=[.slice a0 x.ag.length c0,.int .i64 x.gc.Rg,.int .i64 x.gc.Rp,.int .i64 x.gc.Rh,.slice a4 x.gc.da.length c4]/\dZ S w a0 c0 x.ag/\dZ S w a4 c4 x.gc.da
  own w cs F x:=∃(a0:Option Addr) (c0:Nat) (a4:Option Addr) (c4:Nat),cs=[.slice a0 x.ag.length c0,.int .i64 x.gc.Rg,.int .i64 x.gc.Rp,.int .i64 x.gc.Rh,.slice a4 x.gc.da.length c4]/\eI [sl a0 c0 x.ag,sl a4 c4 x.gc.da] w F
  ja:=by rintro _ _ _ _ ⟨a0,c0,a4,c4,rfl,_⟩;rfl
  eV:=by rintro _ _ _ _ ⟨a0,c0,a4,c4,rfl,_⟩;rfl
  iv:=by rintro _ _ _ _ _ ⟨a0,c0,a4,c4,rfl,h0,h4⟩ hk;exact⟨a0,c0,a4,c4,rfl,h0.iJ hk,h4.iJ hk⟩
  iz:=by rintro _ _ _ _ _ ⟨a0,c0,a4,c4,rfl,h0,h4⟩ hk;exact⟨a0,c0,a4,c4,rfl,h0.mono hk,h4.mono hk⟩
  gh:=by rintro _ _ _ _ _ ⟨a0,c0,a4,c4,rfl,h⟩ hk;exact⟨a0,c0,a4,c4,rfl,h.frame hk⟩
  jd:=by rintro _ _ _ _ _ ⟨a0,c0,a4,c4,rfl,h⟩ hk;exact⟨a0,c0,a4,c4,rfl,eI.kN h 0 rfl hk,eI.kN h 1 rfl hk⟩
  gZ:=by rintro _ _ _ _ ⟨a0,c0,a4,c4,rfl,_⟩;simp[Value.oneCell']
  fB _:=⟨none,0,none,0,rfl,⟨[],[],rfl,.inl ⟨rfl,rfl,rfl,rfl⟩,⟨[],[],rfl,.inl ⟨rfl,rfl,rfl,rfl⟩,rfl⟩⟩⟩
structure bh where
  Rd:fD
  own:List Int
  Re:List dk
  heap:df
  dc:List eA
  Ro:Int
  Rn:Int
  db:de
  dx:Int
  Rk:Int
  deriving DecidableEq
instance:dv bh where
  ty:=54
  sz:=16
  zero:=⟨⟨[]⟩,[],[],⟨[],⟨0,0,0,[]⟩⟩,[],0,0,⟨0,0,0⟩,0,0⟩
  zc:=[.slice none 0 0,.slice none 0 0,.slice none 0 0,.slice none 0 0,.int .i64 0,.int .i64 0,.int .i64 0,.slice none 0 0,.slice none 0 0,.int .i64 0,.int .i64 0,.int .i64 0,.int .i64 0,.int .i64 0,.int .i64 0,.int .i64 0]
  pos:=by omega
  rd S w cs x:=∃(a0:Option Addr) (c0:Nat) (a1:Option Addr) (c1:Nat) (a2:Option Addr) (c2:Nat) (a3:Option Addr) (c3:Nat) (a7:Option Addr) (c7:Nat) (a8:Option Addr) (c8:Nat),cs=[.slice a0 x.Rd.Rb.length c0,.slice a1 x.own.length c1,.slice a2 x.Re.length c2,.slice a3 x.heap.ag.length c3,.int .i64 x.heap.gc.Rg,.int .i64 x.heap.gc.Rp,.int .i64 x.heap.gc.Rh,.slice a7 x.heap.gc.da.length c7,.slice a8 x.dc.length c8,.int .i64 x.Ro,.int .i64 x.Rn,.int .i64 x.db.cd,.int .i64 x.db.dg,.int .i64 x.db.du,.int .i64 x.dx,.int .i64 x.Rk]/\dZ S w a0 c0 x.Rd.Rb/\dZ S w a1 c1 x.own/\dZ S w a2 c2 x.Re/\dZ S w a3 c3 x.heap.ag/\dZ S w a7 c7 x.heap.gc.da/\dZ S w a8 c8 x.dc
  own w cs F x:=∃(a0:Option Addr) (c0:Nat) (a1:Option Addr) (c1:Nat) (a2:Option Addr) (c2:Nat) (a3:Option Addr) (c3:Nat) (a7:Option Addr) (c7:Nat) (a8:Option Addr) (c8:Nat),cs=[.slice a0 x.Rd.Rb.length c0,.slice a1 x.own.length c1,.slice a2 x.Re.length c2,.slice a3 x.heap.ag.length c3,.int .i64 x.heap.gc.Rg,.int .i64 x.heap.gc.Rp,.int .i64 x.heap.gc.Rh,.slice a7 x.heap.gc.da.length c7,.slice a8 x.dc.length c8,.int .i64 x.Ro,.int .i64 x.Rn,.int .i64 x.db.cd,.int .i64 x.db.dg,.int .i64 x.db.du,.int .i64 x.dx,.int .i64 x.Rk]/\eI [sl a0 c0 x.Rd.Rb,sl a1 c1 x.own,sl a2 c2 x.Re,sl a3 c3 x.heap.ag,sl a7 c7 x.heap.gc.da,sl a8 c8 x.dc] w F
  ja:=by rintro _ _ _ _ ⟨a0,c0,a1,c1,a2,c2,a3,c3,a7,c7,a8,c8,rfl,_⟩;rfl
  eV:=by rintro _ _ _ _ ⟨a0,c0,a1,c1,a2,c2,a3,c3,a7,c7,a8,c8,rfl,_⟩;rfl
  iv:=by rintro _ _ _ _ _ ⟨a0,c0,a1,c1,a2,c2,a3,c3,a7,c7,a8,c8,rfl,h0,h1,h2,h3,h7,h8⟩ hk;exact⟨a0,c0,a1,c1,a2,c2,a3,c3,a7,c7,a8,c8,rfl,h0.iJ hk,h1.iJ hk,h2.iJ hk,h3.iJ hk,h7.iJ hk,h8.iJ hk⟩
  iz:=by rintro _ _ _ _ _ ⟨a0,c0,a1,c1,a2,c2,a3,c3,a7,c7,a8,c8,rfl,h0,h1,h2,h3,h7,h8⟩ hk;exact⟨a0,c0,a1,c1,a2,c2,a3,c3,a7,c7,a8,c8,rfl,h0.mono hk,h1.mono hk,h2.mono hk,h3.mono hk,h7.mono hk,h8.mono hk⟩
  gh:=by rintro _ _ _ _ _ ⟨a0,c0,a1,c1,a2,c2,a3,c3,a7,c7,a8,c8,rfl,h⟩ hk;exact⟨a0,c0,a1,c1,a2,c2,a3,c3,a7,c7,a8,c8,rfl,h.frame hk⟩
  jd:=by rintro _ _ _ _ _ ⟨a0,c0,a1,c1,a2,c2,a3,c3,a7,c7,a8,c8,rfl,h⟩ hk;exact⟨a0,c0,a1,c1,a2,c2,a3,c3,a7,c7,a8,c8,rfl,eI.kN h 0 rfl hk,eI.kN h 1 rfl hk,eI.kN h 2 rfl hk,eI.kN h 3 rfl hk,eI.kN h 4 rfl hk,eI.kN h 5 rfl hk⟩
  gZ:=by rintro _ _ _ _ ⟨a0,c0,a1,c1,a2,c2,a3,c3,a7,c7,a8,c8,rfl,_⟩;simp[Value.oneCell']
  fB _:=⟨none,0,none,0,none,0,none,0,none,0,none,0,rfl,⟨[],[],rfl,.inl ⟨rfl,rfl,rfl,rfl⟩,⟨[],[],rfl,.inl ⟨rfl,rfl,rfl,rfl⟩,⟨[],[],rfl,.inl ⟨rfl,rfl,rfl,rfl⟩,⟨[],[],rfl,.inl ⟨rfl,rfl,rfl,rfl⟩,⟨[],[],rfl,.inl ⟨rfl,rfl,rfl,rfl⟩,⟨[],[],rfl,.inl ⟨rfl,rfl,rfl,rfl⟩,rfl⟩⟩⟩⟩⟩⟩⟩
structure dq where
  Rj:Int
  parts:List bh
  deriving DecidableEq
instance:dv dq where
  ty:=40
  sz:=2
  zero:=⟨0,[]⟩
  zc:=[.int .i64 0,.slice none 0 0]
  pos:=by omega
  rd S w cs x:=∃(a1:Option Addr) (c1:Nat),cs=[.int .i64 x.Rj,.slice a1 x.parts.length c1]/\dZ S w a1 c1 x.parts
  own w cs F x:=∃(a1:Option Addr) (c1:Nat),cs=[.int .i64 x.Rj,.slice a1 x.parts.length c1]/\eI [sl a1 c1 x.parts] w F
  ja:=by rintro _ _ _ _ ⟨a1,c1,rfl,_⟩;rfl
  eV:=by rintro _ _ _ _ ⟨a1,c1,rfl,_⟩;rfl
  iv:=by rintro _ _ _ _ _ ⟨a1,c1,rfl,h1⟩ hk;exact⟨a1,c1,rfl,h1.iJ hk⟩
  iz:=by rintro _ _ _ _ _ ⟨a1,c1,rfl,h1⟩ hk;exact⟨a1,c1,rfl,h1.mono hk⟩
  gh:=by rintro _ _ _ _ _ ⟨a1,c1,rfl,h⟩ hk;exact⟨a1,c1,rfl,h.frame hk⟩
  jd:=by rintro _ _ _ _ _ ⟨a1,c1,rfl,h⟩ hk;exact⟨a1,c1,rfl,eI.kN h 0 rfl hk⟩
  gZ:=by rintro _ _ _ _ ⟨a1,c1,rfl,_⟩;simp[Value.oneCell']
  fB _:=⟨none,0,rfl,⟨[],[],rfl,.inl ⟨rfl,rfl,rfl,rfl⟩,rfl⟩⟩
structure dO where
  py:bh
  me:Int
  Rj:Int
  dU:Int
  deriving DecidableEq
structure dL where
  b:List U8
  i:Int
  h:Int
  deriving DecidableEq
structure fY where
  Rd:fD
  own:List Int
  Re:Hd
  heap:df
  dc:List eA
  Ro:Int
  Rn:Int
  db:de
  dx:Int
  Rk:Int
instance:dv fY where
  ty:=54
  sz:=16
  zero:=⟨⟨[]⟩,[],⟨none,0,0⟩,⟨[],⟨0,0,0,[]⟩⟩,[],0,0,⟨0,0,0⟩,0,0⟩
  zc:=[.slice none 0 0,.slice none 0 0,.slice none 0 0,.slice none 0 0,.int .i64 0,.int .i64 0,.int .i64 0,.slice none 0 0,.slice none 0 0,.int .i64 0,.int .i64 0,.int .i64 0,.int .i64 0,.int .i64 0,.int .i64 0,.int .i64 0]
  pos:=by omega
  rd S w cs x:=∃(a0:Option Addr) (c0:Nat) (a1:Option Addr) (c1:Nat) (a3:Option Addr) (c3:Nat) (a7:Option Addr) (c7:Nat) (a8:Option Addr) (c8:Nat),cs=[.slice a0 x.Rd.Rb.length c0,.slice a1 x.own.length c1,.slice x.Re.a x.Re.n x.Re.c,.slice a3 x.heap.ag.length c3,.int .i64 x.heap.gc.Rg,.int .i64 x.heap.gc.Rp,.int .i64 x.heap.gc.Rh,.slice a7 x.heap.gc.da.length c7,.slice a8 x.dc.length c8,.int .i64 x.Ro,.int .i64 x.Rn,.int .i64 x.db.cd,.int .i64 x.db.dg,.int .i64 x.db.du,.int .i64 x.dx,.int .i64 x.Rk]/\dZ S w a0 c0 x.Rd.Rb/\dZ S w a1 c1 x.own/\dZ S w a3 c3 x.heap.ag/\dZ S w a7 c7 x.heap.gc.da/\dZ S w a8 c8 x.dc
  own w cs F x:=∃(a0:Option Addr) (c0:Nat) (a1:Option Addr) (c1:Nat) (a3:Option Addr) (c3:Nat) (a7:Option Addr) (c7:Nat) (a8:Option Addr) (c8:Nat),cs=[.slice a0 x.Rd.Rb.length c0,.slice a1 x.own.length c1,.slice x.Re.a x.Re.n x.Re.c,.slice a3 x.heap.ag.length c3,.int .i64 x.heap.gc.Rg,.int .i64 x.heap.gc.Rp,.int .i64 x.heap.gc.Rh,.slice a7 x.heap.gc.da.length c7,.slice a8 x.dc.length c8,.int .i64 x.Ro,.int .i64 x.Rn,.int .i64 x.db.cd,.int .i64 x.db.dg,.int .i64 x.db.du,.int .i64 x.dx,.int .i64 x.Rk]/\eI [sl a0 c0 x.Rd.Rb,sl a1 c1 x.own,sl a3 c3 x.heap.ag,sl a7 c7 x.heap.gc.da,sl a8 c8 x.dc] w F
  ja:=by rintro _ _ _ _ ⟨a0,c0,a1,c1,a3,c3,a7,c7,a8,c8,rfl,_⟩;rfl
  eV:=by rintro _ _ _ _ ⟨a0,c0,a1,c1,a3,c3,a7,c7,a8,c8,rfl,_⟩;rfl
  iv:=by rintro _ _ _ _ _ ⟨a0,c0,a1,c1,a3,c3,a7,c7,a8,c8,rfl,h0,h1,h3,h7,h8⟩ hk;exact⟨a0,c0,a1,c1,a3,c3,a7,c7,a8,c8,rfl,h0.iJ hk,h1.iJ hk,h3.iJ hk,h7.iJ hk,h8.iJ hk⟩
  iz:=by rintro _ _ _ _ _ ⟨a0,c0,a1,c1,a3,c3,a7,c7,a8,c8,rfl,h0,h1,h3,h7,h8⟩ hk;exact⟨a0,c0,a1,c1,a3,c3,a7,c7,a8,c8,rfl,h0.mono hk,h1.mono hk,h3.mono hk,h7.mono hk,h8.mono hk⟩
  gh:=by rintro _ _ _ _ _ ⟨a0,c0,a1,c1,a3,c3,a7,c7,a8,c8,rfl,h⟩ hk;exact⟨a0,c0,a1,c1,a3,c3,a7,c7,a8,c8,rfl,h.frame hk⟩
  jd:=by rintro _ _ _ _ _ ⟨a0,c0,a1,c1,a3,c3,a7,c7,a8,c8,rfl,h⟩ hk;exact⟨a0,c0,a1,c1,a3,c3,a7,c7,a8,c8,rfl,eI.kN h 0 rfl hk,eI.kN h 1 rfl hk,eI.kN h 2 rfl hk,eI.kN h 3 rfl hk,eI.kN h 4 rfl hk⟩
  gZ:=by rintro _ _ _ _ ⟨a0,c0,a1,c1,a3,c3,a7,c7,a8,c8,rfl,_⟩;simp[Value.oneCell']
  fB _:=⟨none,0,none,0,none,0,none,0,none,0,rfl,⟨[],[],rfl,.inl ⟨rfl,rfl,rfl,rfl⟩,⟨[],[],rfl,.inl ⟨rfl,rfl,rfl,rfl⟩,⟨[],[],rfl,.inl ⟨rfl,rfl,rfl,rfl⟩,⟨[],[],rfl,.inl ⟨rfl,rfl,rfl,rfl⟩,⟨[],[],rfl,.inl ⟨rfl,rfl,rfl,rfl⟩,rfl⟩⟩⟩⟩⟩⟩
structure gx where
  Ru:Hd
instance:dv gx where
  ty:=170
  sz:=1
  zero:=⟨⟨none,0,0⟩⟩
  zc:=[.slice none 0 0]
  pos:=by omega
  rd _ _ cs x:=cs=[.slice x.Ru.a x.Ru.n x.Ru.c]
  own _ cs F x:=cs=[.slice x.Ru.a x.Ru.n x.Ru.c]/\F=[]
  ja:=by rintro _ _ _ _ rfl;rfl
  eV:=by rintro _ _ _ _ ⟨rfl,_⟩;rfl
  iv h _:=h
  iz h _:=h
  gh h _:=h
  jd h _:=h.1
  gZ:=by rintro _ _ _ _ ⟨rfl,_⟩;simp[Value.oneCell']
  fB _:=⟨rfl,rfl⟩
instance:Flat gx:=⟨fun h=>⟨h,rfl⟩⟩
structure oC where
  Rs:Int
  so:Int
  box:Int
  Rt:Int
  dX:Int
  cd:Int
  Rm:Int
  ef:Int
  ee:Int
  mark:Bool
  deriving DecidableEq
instance:dv oC where
  ty:=96
  sz:=13
  zero:=⟨0,0,0,0,0,0,0,0,0,false⟩
  zc:=[.int .i64 0,.int .i64 0,.int .i64 0,.int .i64 0,.int .i64 0,.int .i64 0,.int .i64 0,.int .i64 0,.int .i64 0,.bool false,.slice none 0 0,.slice none 0 0,.slice none 0 0]
  pos:=by omega
  rd _ _ cs x:=∃(a0:Option Addr) (n0 c0:Nat) (a1:Option Addr) (n1 c1:Nat) (a2:Option Addr) (n2 c2:Nat),cs=[.int .i64 x.Rs,.int .i64 x.so,.int .i64 x.box,.int .i64 x.Rt,.int .i64 x.dX,.int .i64 x.cd,.int .i64 x.Rm,.int .i64 x.ef,.int .i64 x.ee,.bool x.mark,.slice a0 n0 c0,.slice a1 n1 c1,.slice a2 n2 c2]
  own _ cs F x:=(∃(a0:Option Addr) (n0 c0:Nat) (a1:Option Addr) (n1 c1:Nat) (a2:Option Addr) (n2 c2:Nat),cs=[.int .i64 x.Rs,.int .i64 x.so,.int .i64 x.box,.int .i64 x.Rt,.int .i64 x.dX,.int .i64 x.cd,.int .i64 x.Rm,.int .i64 x.ef,.int .i64 x.ee,.bool x.mark,.slice a0 n0 c0,.slice a1 n1 c1,.slice a2 n2 c2])/\F=[]
  ja:=by rintro _ _ _ _ ⟨a0,n0,c0,a1,n1,c1,a2,n2,c2,rfl⟩;rfl
  eV:=by rintro _ _ _ _ ⟨⟨a0,n0,c0,a1,n1,c1,a2,n2,c2,rfl⟩,_⟩;rfl
  iv h _:=h
  iz h _:=h
  gh h _:=h
  jd h _:=h.1
  gZ:=by rintro _ _ _ _ ⟨⟨a0,n0,c0,a1,n1,c1,a2,n2,c2,rfl⟩,_⟩;simp[Value.oneCell']
  fB _:=⟨⟨_,_,_,_,_,_,_,_,_,rfl⟩,rfl⟩
def gQ(l:List bh):List (List dk):=l.map fun p=>p.Re
def fp(l:List dV):List (List dk):=l.map fun t=>t.Ru
def gw(l:List bh):List dV:=(gQ l).map dV.mk
def lD(p:bh)(t:List dk):bh:=bh.mk p.Rd p.own t p.heap p.dc p.Ro p.Rn p.db p.dx p.Rk
def fb(l:List bh)(ts:List (List dk)):List bh:=List.zipWith lD l ts
def gd(b:Bool):Option Unit:=bif b then some ()else none
class Fit (α:Type) where
  fit:α->Prop
instance:Fit Int:=⟨fun x=>-9223372036854775808<=x/\x<=9223372036854775807⟩
instance:Fit Bool:=⟨fun _=>True⟩
instance:Fit U8:=⟨fun x=>0<=x.v/\x.v<=255⟩
instance {α:Type}[Fit α]:Fit (List α):=⟨fun l=>l.length<=maxLen/\∀y,y∈l->Fit.fit y⟩
instance:Fit de:=⟨fun x=>Fit.fit x.cd/\Fit.fit x.dg/\Fit.fit x.du⟩
instance:Fit dH:=⟨fun x=>Fit.fit x.so/\Fit.fit x.a/\Fit.fit x.b/\Fit.fit x.c/\Fit.fit x.d/\Fit.fit x.e⟩
instance:Fit eQ:=⟨fun x=>Fit.fit x.so/\Fit.fit x.py/\Fit.fit x.dU/\Fit.fit x.call⟩
instance:Fit dE:=⟨fun x=>Fit.fit x.code/\Fit.fit x.Rv⟩
instance:Fit dk:=⟨fun x=>Fit.fit x.Rq/\Fit.fit x.Rr/\Fit.fit x.dQ⟩
instance:Fit eA:=⟨fun x=>Fit.fit x.Rt/\Fit.fit x.fW/\Fit.fit x.nG/\Fit.fit x.iH/\Fit.fit x.so/\Fit.fit x.kp⟩
instance:Fit eS:=⟨fun x=>Fit.fit x.Rx/\Fit.fit x.n⟩
instance:Fit fD:=⟨fun x=>Fit.fit x.Rb⟩
instance:Fit eh:=⟨fun x=>Fit.fit x.Rd/\Fit.fit x.own/\Fit.fit x.fA⟩
instance:Fit dV:=⟨fun x=>Fit.fit x.Ru⟩
instance:Fit c6:=⟨fun x=>Fit.fit x.Rs/\Fit.fit x.so/\Fit.fit x.box/\Fit.fit x.Rt/\Fit.fit x.dX/\Fit.fit x.cd/\Fit.fit x.Rm/\Fit.fit x.ef/\Fit.fit x.ee/\Fit.fit x.mark/\Fit.fit x.dp/\Fit.fit x.Ri/\Fit.fit x.Rf⟩
instance:Fit eT:=⟨fun x=>Fit.fit x.Rg/\Fit.fit x.Rp/\Fit.fit x.Rh/\Fit.fit x.da⟩
instance:Fit df:=⟨fun x=>Fit.fit x.ag/\Fit.fit x.gc⟩
instance:Fit bh:=⟨fun x=>Fit.fit x.Rd/\Fit.fit x.own/\Fit.fit x.Re/\Fit.fit x.heap/\Fit.fit x.dc/\Fit.fit x.Ro/\Fit.fit x.Rn/\Fit.fit x.db/\Fit.fit x.dx/\Fit.fit x.Rk⟩
instance:Fit dq:=⟨fun x=>Fit.fit x.Rj/\Fit.fit x.parts⟩
instance:Fit dO:=⟨fun x=>Fit.fit x.py/\Fit.fit x.me/\Fit.fit x.Rj/\Fit.fit x.dU⟩
instance:Fit dL:=⟨fun x=>Fit.fit x.b/\Fit.fit x.i/\Fit.fit x.h⟩
end Go.Kx
