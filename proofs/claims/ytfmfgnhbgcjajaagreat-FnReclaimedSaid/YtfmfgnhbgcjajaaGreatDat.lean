import Derived.Test.YtfmfgnhbgcjajaaGreatDraw
namespace Go.Kx
open Go Go.RowKit
open Go.IntKind (i64)
set_option linter.unusedVariables false
set_option linter.unusedSimpArgs false
instance:dv Int where
  ty:=3
  sz:=1
  zero:=0
  zc:=[.int .i64 0]
  pos:=by omega
  rd _ _ cs x:=cs=[.int .i64 x]
  own _ cs F x:=cs=[.int .i64 x]/\F=[]
  je:=by rintro _ _ _ _ rfl;rfl
  eV:=by rintro _ _ _ _ ⟨rfl,_⟩;rfl
  iv h _:=h
  iy h _:=h
  gh h _:=h
  jf h _:=h.1
  g6:=by rintro _ _ _ _ ⟨rfl,_⟩;simp[Value.oneCell']
  fC _:=⟨rfl,rfl⟩
instance:Flat Int:=⟨fun h=>⟨h,rfl⟩⟩
instance:dv Bool where
  ty:=4
  sz:=1
  zero:=false
  zc:=[.bool false]
  pos:=by omega
  rd _ _ cs x:=cs=[.bool x]
  own _ cs F x:=cs=[.bool x]/\F=[]
  je:=by rintro _ _ _ _ rfl;rfl
  eV:=by rintro _ _ _ _ ⟨rfl,_⟩;rfl
  iv h _:=h
  iy h _:=h
  gh h _:=h
  jf h _:=h.1
  g6:=by rintro _ _ _ _ ⟨rfl,_⟩;simp[Value.oneCell']
  fC _:=⟨rfl,rfl⟩
instance:Flat Bool:=⟨fun h=>⟨h,rfl⟩⟩
abbrev Qk:=ByteArray
instance:dv Qk where
  ty:=9
  sz:=1
  zero:=⟨#[]⟩
  zc:=[.string ⟨#[]⟩]
  pos:=by omega
  rd _ _ cs x:=cs=[.string x]
  own _ cs F x:=cs=[.string x]/\F=[]
  je:=by rintro _ _ _ _ rfl;rfl
  eV:=by rintro _ _ _ _ ⟨rfl,_⟩;rfl
  iv h _:=h
  iy h _:=h
  gh h _:=h
  jf h _:=h.1
  g6:=by rintro _ _ _ _ ⟨rfl,_⟩;simp[Value.oneCell']
  fC _:=⟨rfl,rfl⟩
instance:Flat Qk:=⟨fun h=>⟨h,rfl⟩⟩
structure U8 where
  v:Int
  deriving DecidableEq
instance:dv U8 where
  ty:=5
  sz:=1
  zero:=⟨0⟩
  zc:=[.int .u8 0]
  pos:=by omega
  rd _ _ cs x:=cs=[.int .u8 x.v]
  own _ cs F x:=cs=[.int .u8 x.v]/\F=[]
  je:=by rintro _ _ _ _ rfl;rfl
  eV:=by rintro _ _ _ _ ⟨rfl,_⟩;rfl
  iv h _:=h
  iy h _:=h
  gh h _:=h
  jf h _:=h.1
  g6:=by rintro _ _ _ _ ⟨rfl,_⟩;simp[Value.oneCell']
  fC _:=⟨rfl,rfl⟩
instance:Flat U8:=⟨fun h=>⟨h,rfl⟩⟩
def yW(a b:Int):Int:=i64.wrap ((BitVec.ofInt IntKind.i64.bits a &&& BitVec.ofInt IntKind.i64.bits b).toNat:Int)
def Pk(a b:Int):Int:=i64.wrap ((BitVec.ofInt IntKind.i64.bits a ^^^ BitVec.ofInt IntKind.i64.bits b).toNat:Int)
def IA(a b:Int):Int:=a.fdiv (2^(min b.toNat IntKind.i64.bits))
structure Hd where
  a:Option Addr
  n:Nat
  c:Nat
structure de where
  c6:Int
  dh:Int
  du:Int
  deriving DecidableEq
instance:dv de where
  ty:=33
  sz:=3
  zero:=⟨0,0,0⟩
  zc:=[.int .i64 0,.int .i64 0,.int .i64 0]
  pos:=by omega
  rd _ _ cs x:=cs=[.int .i64 x.c6,.int .i64 x.dh,.int .i64 x.du]
  own _ cs F x:=cs=[.int .i64 x.c6,.int .i64 x.dh,.int .i64 x.du]/\F=[]
  je:=by rintro _ _ _ _ rfl;rfl
  eV:=by rintro _ _ _ _ ⟨rfl,_⟩;rfl
  iv h _:=h
  iy h _:=h
  gh h _:=h
  jf h _:=h.1
  g6:=by rintro _ _ _ _ ⟨rfl,_⟩;simp[Value.oneCell']
  fC _:=⟨rfl,rfl⟩
instance:Flat de:=⟨fun h=>⟨h,rfl⟩⟩
structure dG where
  so:Int
  a:Int
  b:Int
  c:Int
  d:Int
  e:Int
  deriving DecidableEq
instance:dv dG where
  ty:=63
  sz:=6
  zero:=⟨0,0,0,0,0,0⟩
  zc:=[.int .i64 0,.int .i64 0,.int .i64 0,.int .i64 0,.int .i64 0,.int .i64 0]
  pos:=by omega
  rd _ _ cs x:=cs=[.int .i64 x.so,.int .i64 x.a,.int .i64 x.b,.int .i64 x.c,.int .i64 x.d,.int .i64 x.e]
  own _ cs F x:=cs=[.int .i64 x.so,.int .i64 x.a,.int .i64 x.b,.int .i64 x.c,.int .i64 x.d,.int .i64 x.e]/\F=[]
  je:=by rintro _ _ _ _ rfl;rfl
  eV:=by rintro _ _ _ _ ⟨rfl,_⟩;rfl
  iv h _:=h
  iy h _:=h
  gh h _:=h
  jf h _:=h.1
  g6:=by rintro _ _ _ _ ⟨rfl,_⟩;simp[Value.oneCell']
  fC _:=⟨rfl,rfl⟩
instance:Flat dG:=⟨fun h=>⟨h,rfl⟩⟩
structure dY where
  so:Int
  py:Int
  dS:Int
  call:dG
  deriving DecidableEq
instance:dv dY where
  ty:=65
  sz:=9
  zero:=⟨0,0,0,⟨0,0,0,0,0,0⟩⟩
  zc:=[.int .i64 0,.int .i64 0,.int .i64 0,.int .i64 0,.int .i64 0,.int .i64 0,.int .i64 0,.int .i64 0,.int .i64 0]
  pos:=by omega
  rd _ _ cs x:=cs=[.int .i64 x.so,.int .i64 x.py,.int .i64 x.dS,.int .i64 x.call.so,.int .i64 x.call.a,.int .i64 x.call.b,.int .i64 x.call.c,.int .i64 x.call.d,.int .i64 x.call.e]
  own _ cs F x:=cs=[.int .i64 x.so,.int .i64 x.py,.int .i64 x.dS,.int .i64 x.call.so,.int .i64 x.call.a,.int .i64 x.call.b,.int .i64 x.call.c,.int .i64 x.call.d,.int .i64 x.call.e]/\F=[]
  je:=by rintro _ _ _ _ rfl;rfl
  eV:=by rintro _ _ _ _ ⟨rfl,_⟩;rfl
  iv h _:=h
  iy h _:=h
  gh h _:=h
  jf h _:=h.1
  g6:=by rintro _ _ _ _ ⟨rfl,_⟩;simp[Value.oneCell']
  fC _:=⟨rfl,rfl⟩
instance:Flat dY:=⟨fun h=>⟨h,rfl⟩⟩
structure dD where
  code:Int
  Rz:Int
  deriving DecidableEq
instance:dv dD where
  ty:=78
  sz:=2
  zero:=⟨0,0⟩
  zc:=[.int .i64 0,.int .i64 0]
  pos:=by omega
  rd _ _ cs x:=cs=[.int .i64 x.code,.int .i64 x.Rz]
  own _ cs F x:=cs=[.int .i64 x.code,.int .i64 x.Rz]/\F=[]
  je:=by rintro _ _ _ _ rfl;rfl
  eV:=by rintro _ _ _ _ ⟨rfl,_⟩;rfl
  iv h _:=h
  iy h _:=h
  gh h _:=h
  jf h _:=h.1
  g6:=by rintro _ _ _ _ ⟨rfl,_⟩;simp[Value.oneCell']
  fC _:=⟨rfl,rfl⟩
instance:Flat dD:=⟨fun h=>⟨h,rfl⟩⟩
structure dp where
  Ru:Bool
  Rv:Int
  dP:de
  deriving DecidableEq
instance:dv dp where
  ty:=85
  sz:=5
  zero:=⟨false,0,⟨0,0,0⟩⟩
  zc:=[.bool false,.int .i64 0,.int .i64 0,.int .i64 0,.int .i64 0]
  pos:=by omega
  rd _ _ cs x:=cs=[.bool x.Ru,.int .i64 x.Rv,.int .i64 x.dP.c6,.int .i64 x.dP.dh,.int .i64 x.dP.du]
  own _ cs F x:=cs=[.bool x.Ru,.int .i64 x.Rv,.int .i64 x.dP.c6,.int .i64 x.dP.dh,.int .i64 x.dP.du]/\F=[]
  je:=by rintro _ _ _ _ rfl;rfl
  eV:=by rintro _ _ _ _ ⟨rfl,_⟩;rfl
  iv h _:=h
  iy h _:=h
  gh h _:=h
  jf h _:=h.1
  g6:=by rintro _ _ _ _ ⟨rfl,_⟩;simp[Value.oneCell']
  fC _:=⟨rfl,rfl⟩
instance:Flat dp:=⟨fun h=>⟨h,rfl⟩⟩
structure ez where
  Rx:Int
  fY:Int
  nN:Int
  iG:Int
  so:Int
  kr:Int
  deriving DecidableEq
instance:dv ez where
  ty:=87
  sz:=6
  zero:=⟨0,0,0,0,0,0⟩
  zc:=[.int .i64 0,.int .i64 0,.int .i64 0,.int .i64 0,.int .i64 0,.int .i64 0]
  pos:=by omega
  rd _ _ cs x:=cs=[.int .i64 x.Rx,.int .i64 x.fY,.int .i64 x.nN,.int .i64 x.iG,.int .i64 x.so,.int .i64 x.kr]
  own _ cs F x:=cs=[.int .i64 x.Rx,.int .i64 x.fY,.int .i64 x.nN,.int .i64 x.iG,.int .i64 x.so,.int .i64 x.kr]/\F=[]
  je:=by rintro _ _ _ _ rfl;rfl
  eV:=by rintro _ _ _ _ ⟨rfl,_⟩;rfl
  iv h _:=h
  iy h _:=h
  gh h _:=h
  jf h _:=h.1
  g6:=by rintro _ _ _ _ ⟨rfl,_⟩;simp[Value.oneCell']
  fC _:=⟨rfl,rfl⟩
instance:Flat ez:=⟨fun h=>⟨h,rfl⟩⟩
structure eR where
  RA:Int
  n:Int
  deriving DecidableEq
instance:dv eR where
  ty:=155
  sz:=2
  zero:=⟨0,0⟩
  zc:=[.int .i64 0,.int .i64 0]
  pos:=by omega
  rd _ _ cs x:=cs=[.int .i64 x.RA,.int .i64 x.n]
  own _ cs F x:=cs=[.int .i64 x.RA,.int .i64 x.n]/\F=[]
  je:=by rintro _ _ _ _ rfl;rfl
  eV:=by rintro _ _ _ _ ⟨rfl,_⟩;rfl
  iv h _:=h
  iy h _:=h
  gh h _:=h
  jf h _:=h.1
  g6:=by rintro _ _ _ _ ⟨rfl,_⟩;simp[Value.oneCell']
  fC _:=⟨rfl,rfl⟩
instance:Flat eR:=⟨fun h=>⟨h,rfl⟩⟩
structure fF where
  Rf:List Int
  deriving DecidableEq
instance:dv fF where
  ty:=31
  sz:=1
  zero:=⟨[]⟩
  zc:=[.slice none 0 0]
  pos:=by omega
  rd S w cs x:=∃(a0:Option Addr) (c0:Nat),cs=[.slice a0 x.Rf.length c0]/\ee S w a0 c0 x.Rf
  own w cs F x:=∃(a0:Option Addr) (c0:Nat),cs=[.slice a0 x.Rf.length c0]/\eK [sl a0 c0 x.Rf] w F
  je:=by rintro _ _ _ _ ⟨a0,c0,rfl,_⟩;rfl
  eV:=by rintro _ _ _ _ ⟨a0,c0,rfl,_⟩;rfl
  iv:=by rintro _ _ _ _ _ ⟨a0,c0,rfl,h0⟩ hk;exact⟨a0,c0,rfl,h0.iJ hk⟩
  iy:=by rintro _ _ _ _ _ ⟨a0,c0,rfl,h0⟩ hk;exact⟨a0,c0,rfl,h0.mono hk⟩
  gh:=by rintro _ _ _ _ _ ⟨a0,c0,rfl,h⟩ hk;exact⟨a0,c0,rfl,h.frame hk⟩
  jf:=by rintro _ _ _ _ _ ⟨a0,c0,rfl,h⟩ hk;exact⟨a0,c0,rfl,eK.kX h 0 rfl hk⟩
  g6:=by rintro _ _ _ _ ⟨a0,c0,rfl,_⟩;simp[Value.oneCell']
  fC _:=⟨none,0,rfl,⟨[],[],rfl,.inl ⟨rfl,rfl,rfl,rfl⟩,rfl⟩⟩
structure er where
  Rg:fF
  own:List Int
  fG:de
  deriving DecidableEq
instance:dv er where
  ty:=35
  sz:=5
  zero:=⟨⟨[]⟩,[],⟨0,0,0⟩⟩
  zc:=[.slice none 0 0,.slice none 0 0,.int .i64 0,.int .i64 0,.int .i64 0]
  pos:=by omega
  rd S w cs x:=∃(a0:Option Addr) (c0:Nat) (a1:Option Addr) (c1:Nat),cs=[.slice a0 x.Rg.Rf.length c0,.slice a1 x.own.length c1,.int .i64 x.fG.c6,.int .i64 x.fG.dh,.int .i64 x.fG.du]/\ee S w a0 c0 x.Rg.Rf/\ee S w a1 c1 x.own
  own w cs F x:=∃(a0:Option Addr) (c0:Nat) (a1:Option Addr) (c1:Nat),cs=[.slice a0 x.Rg.Rf.length c0,.slice a1 x.own.length c1,.int .i64 x.fG.c6,.int .i64 x.fG.dh,.int .i64 x.fG.du]/\eK [sl a0 c0 x.Rg.Rf,sl a1 c1 x.own] w F
  je:=by rintro _ _ _ _ ⟨a0,c0,a1,c1,rfl,_⟩;rfl
  eV:=by rintro _ _ _ _ ⟨a0,c0,a1,c1,rfl,_⟩;rfl
  iv:=by rintro _ _ _ _ _ ⟨a0,c0,a1,c1,rfl,h0,h1⟩ hk;exact⟨a0,c0,a1,c1,rfl,h0.iJ hk,h1.iJ hk⟩
  iy:=by rintro _ _ _ _ _ ⟨a0,c0,a1,c1,rfl,h0,h1⟩ hk;exact⟨a0,c0,a1,c1,rfl,h0.mono hk,h1.mono hk⟩
  gh:=by rintro _ _ _ _ _ ⟨a0,c0,a1,c1,rfl,h⟩ hk;exact⟨a0,c0,a1,c1,rfl,h.frame hk⟩
  jf:=by rintro _ _ _ _ _ ⟨a0,c0,a1,c1,rfl,h⟩ hk;exact⟨a0,c0,a1,c1,rfl,eK.kX h 0 rfl hk,eK.kX h 1 rfl hk⟩
  g6:=by rintro _ _ _ _ ⟨a0,c0,a1,c1,rfl,_⟩;simp[Value.oneCell']
  fC _:=⟨none,0,none,0,rfl,⟨[],[],rfl,.inl ⟨rfl,rfl,rfl,rfl⟩,⟨[],[],rfl,.inl ⟨rfl,rfl,rfl,rfl⟩,rfl⟩⟩⟩
structure dU where
  Ry:List dp
  deriving DecidableEq
instance:dv dU where
  ty:=170
  sz:=1
  zero:=⟨[]⟩
  zc:=[.slice none 0 0]
  pos:=by omega
  rd S w cs x:=∃(a0:Option Addr) (c0:Nat),cs=[.slice a0 x.Ry.length c0]/\ee S w a0 c0 x.Ry
  own w cs F x:=∃(a0:Option Addr) (c0:Nat),cs=[.slice a0 x.Ry.length c0]/\eK [sl a0 c0 x.Ry] w F
  je:=by rintro _ _ _ _ ⟨a0,c0,rfl,_⟩;rfl
  eV:=by rintro _ _ _ _ ⟨a0,c0,rfl,_⟩;rfl
  iv:=by rintro _ _ _ _ _ ⟨a0,c0,rfl,h0⟩ hk;exact⟨a0,c0,rfl,h0.iJ hk⟩
  iy:=by rintro _ _ _ _ _ ⟨a0,c0,rfl,h0⟩ hk;exact⟨a0,c0,rfl,h0.mono hk⟩
  gh:=by rintro _ _ _ _ _ ⟨a0,c0,rfl,h⟩ hk;exact⟨a0,c0,rfl,h.frame hk⟩
  jf:=by rintro _ _ _ _ _ ⟨a0,c0,rfl,h⟩ hk;exact⟨a0,c0,rfl,eK.kX h 0 rfl hk⟩
  g6:=by rintro _ _ _ _ ⟨a0,c0,rfl,_⟩;simp[Value.oneCell']
  fC _:=⟨none,0,rfl,⟨[],[],rfl,.inl ⟨rfl,rfl,rfl,rfl⟩,rfl⟩⟩
structure cd where
  Rt:Int
  so:Int
  box:Int
  Rx:Int
  dV:Int
  c6:Int
  Ro:Int
  eh:Int
  ef:Int
  mark:Bool
  dk:List Int
  Rm:List Int
  Ri:List eR
  deriving DecidableEq
instance:dv cd where
  ty:=96
  sz:=13
  zero:=⟨0,0,0,0,0,0,0,0,0,false,[],[],[]⟩
  zc:=[.int .i64 0,.int .i64 0,.int .i64 0,.int .i64 0,.int .i64 0,.int .i64 0,.int .i64 0,.int .i64 0,.int .i64 0,.bool false,.slice none 0 0,.slice none 0 0,.slice none 0 0]
  pos:=by omega
  rd S w cs x:=∃(a10:Option Addr) (c10:Nat) (a11:Option Addr) (c11:Nat) (a12:Option Addr) (c12:Nat),cs=[.int .i64 x.Rt,.int .i64 x.so,.int .i64 x.box,.int .i64 x.Rx,.int .i64 x.dV,.int .i64 x.c6,.int .i64 x.Ro,.int .i64 x.eh,.int .i64 x.ef,.bool x.mark,.slice a10 x.dk.length c10,.slice a11 x.Rm.length c11,.slice a12 x.Ri.length c12]/\ee S w a10 c10 x.dk/\ee S w a11 c11 x.Rm/\ee S w a12 c12 x.Ri
  own w cs F x:=∃(a10:Option Addr) (c10:Nat) (a11:Option Addr) (c11:Nat) (a12:Option Addr) (c12:Nat),cs=[.int .i64 x.Rt,.int .i64 x.so,.int .i64 x.box,.int .i64 x.Rx,.int .i64 x.dV,.int .i64 x.c6,.int .i64 x.Ro,.int .i64 x.eh,.int .i64 x.ef,.bool x.mark,.slice a10 x.dk.length c10,.slice a11 x.Rm.length c11,.slice a12 x.Ri.length c12]/\eK [sl a10 c10 x.dk,sl a11 c11 x.Rm,sl a12 c12 x.Ri] w F
  je:=by rintro _ _ _ _ ⟨a10,c10,a11,c11,a12,c12,rfl,_⟩;rfl
  eV:=by rintro _ _ _ _ ⟨a10,c10,a11,c11,a12,c12,rfl,_⟩;rfl
  iv:=by rintro _ _ _ _ _ ⟨a10,c10,a11,c11,a12,c12,rfl,h10,h11,h12⟩ hk;exact⟨a10,c10,a11,c11,a12,c12,rfl,h10.iJ hk,h11.iJ hk,h12.iJ hk⟩
  iy:=by rintro _ _ _ _ _ ⟨a10,c10,a11,c11,a12,c12,rfl,h10,h11,h12⟩ hk;exact⟨a10,c10,a11,c11,a12,c12,rfl,h10.mono hk,h11.mono hk,h12.mono hk⟩
  gh:=by rintro _ _ _ _ _ ⟨a10,c10,a11,c11,a12,c12,rfl,h⟩ hk;exact⟨a10,c10,a11,c11,a12,c12,rfl,h.frame hk⟩
  jf:=by rintro _ _ _ _ _ ⟨a10,c10,a11,c11,a12,c12,rfl,h⟩ hk;exact⟨a10,c10,a11,c11,a12,c12,rfl,eK.kX h 0 rfl hk,eK.kX h 1 rfl hk,eK.kX h 2 rfl hk⟩
  g6:=by rintro _ _ _ _ ⟨a10,c10,a11,c11,a12,c12,rfl,_⟩;simp[Value.oneCell']
  fC _:=⟨none,0,none,0,none,0,rfl,⟨[],[],rfl,.inl ⟨rfl,rfl,rfl,rfl⟩,⟨[],[],rfl,.inl ⟨rfl,rfl,rfl,rfl⟩,⟨[],[],rfl,.inl ⟨rfl,rfl,rfl,rfl⟩,rfl⟩⟩⟩⟩
structure eS where
  Rj:Int
  Rs:Int
  Rk:Int
  da:List Int
  deriving DecidableEq
instance:dv eS where
  ty:=49
  sz:=4
  zero:=⟨0,0,0,[]⟩
  zc:=[.int .i64 0,.int .i64 0,.int .i64 0,.slice none 0 0]
  pos:=by omega
  rd S w cs x:=∃(a3:Option Addr) (c3:Nat),cs=[.int .i64 x.Rj,.int .i64 x.Rs,.int .i64 x.Rk,.slice a3 x.da.length c3]/\ee S w a3 c3 x.da
  own w cs F x:=∃(a3:Option Addr) (c3:Nat),cs=[.int .i64 x.Rj,.int .i64 x.Rs,.int .i64 x.Rk,.slice a3 x.da.length c3]/\eK [sl a3 c3 x.da] w F
  je:=by rintro _ _ _ _ ⟨a3,c3,rfl,_⟩;rfl
  eV:=by rintro _ _ _ _ ⟨a3,c3,rfl,_⟩;rfl
  iv:=by rintro _ _ _ _ _ ⟨a3,c3,rfl,h3⟩ hk;exact⟨a3,c3,rfl,h3.iJ hk⟩
  iy:=by rintro _ _ _ _ _ ⟨a3,c3,rfl,h3⟩ hk;exact⟨a3,c3,rfl,h3.mono hk⟩
  gh:=by rintro _ _ _ _ _ ⟨a3,c3,rfl,h⟩ hk;exact⟨a3,c3,rfl,h.frame hk⟩
  jf:=by rintro _ _ _ _ _ ⟨a3,c3,rfl,h⟩ hk;exact⟨a3,c3,rfl,eK.kX h 0 rfl hk⟩
  g6:=by rintro _ _ _ _ ⟨a3,c3,rfl,_⟩;simp[Value.oneCell']
  fC _:=⟨none,0,rfl,⟨[],[],rfl,.inl ⟨rfl,rfl,rfl,rfl⟩,rfl⟩⟩
structure df where
  ag:List cd
  gc:eS
  deriving DecidableEq
instance:dv df where
  ty:=51
  sz:=5
  zero:=⟨[],⟨0,0,0,[]⟩⟩
  zc:=[.slice none 0 0,.int .i64 0,.int .i64 0,.int .i64 0,.slice none 0 0]
  pos:=by omega
  rd S w cs x:=∃(a0:Option Addr) (c0:Nat) (a4:Option Addr) (c4:Nat),cs=[.slice a0 x.ag.length c0,.int .i64 x.gc.Rj,.int .i64 x.gc.Rs,.int .i64 x.gc.Rk,.slice a4 x.gc.da.length c4]/\ee S w a0 c0 x.ag/\ee S w a4 c4 x.gc.da
  own w cs F x:=∃(a0:Option Addr) (c0:Nat) (a4:Option Addr) (c4:Nat),cs=[.slice a0 x.ag.length c0,.int .i64 x.gc.Rj,.int .i64 x.gc.Rs,.int .i64 x.gc.Rk,.slice a4 x.gc.da.length c4]/\eK [sl a0 c0 x.ag,sl a4 c4 x.gc.da] w F
  je:=by rintro _ _ _ _ ⟨a0,c0,a4,c4,rfl,_⟩;rfl
  eV:=by rintro _ _ _ _ ⟨a0,c0,a4,c4,rfl,_⟩;rfl
  iv:=by rintro _ _ _ _ _ ⟨a0,c0,a4,c4,rfl,h0,h4⟩ hk;exact⟨a0,c0,a4,c4,rfl,h0.iJ hk,h4.iJ hk⟩
  iy:=by rintro _ _ _ _ _ ⟨a0,c0,a4,c4,rfl,h0,h4⟩ hk;exact⟨a0,c0,a4,c4,rfl,h0.mono hk,h4.mono hk⟩
  gh:=by rintro _ _ _ _ _ ⟨a0,c0,a4,c4,rfl,h⟩ hk;exact⟨a0,c0,a4,c4,rfl,h.frame hk⟩
  jf:=by rintro _ _ _ _ _ ⟨a0,c0,a4,c4,rfl,h⟩ hk;exact⟨a0,c0,a4,c4,rfl,eK.kX h 0 rfl hk,eK.kX h 1 rfl hk⟩
  g6:=by rintro _ _ _ _ ⟨a0,c0,a4,c4,rfl,_⟩;simp[Value.oneCell']
  fC _:=⟨none,0,none,0,rfl,⟨[],[],rfl,.inl ⟨rfl,rfl,rfl,rfl⟩,⟨[],[],rfl,.inl ⟨rfl,rfl,rfl,rfl⟩,rfl⟩⟩⟩
structure bh where
  Rg:fF
  own:List Int
  Rh:List dp
  heap:df
  dc:List ez
  Rr:Int
  Rq:Int
  db:de
  dx:Int
  Rp:Int
  deriving DecidableEq
instance:dv bh where
  ty:=54
  sz:=16
  zero:=⟨⟨[]⟩,[],[],⟨[],⟨0,0,0,[]⟩⟩,[],0,0,⟨0,0,0⟩,0,0⟩
  zc:=[.slice none 0 0,.slice none 0 0,.slice none 0 0,.slice none 0 0,.int .i64 0,.int .i64 0,.int .i64 0,.slice none 0 0,.slice none 0 0,.int .i64 0,.int .i64 0,.int .i64 0,.int .i64 0,.int .i64 0,.int .i64 0,.int .i64 0]
  pos:=by omega
  rd S w cs x:=∃(a0:Option Addr) (c0:Nat) (a1:Option Addr) (c1:Nat) (a2:Option Addr) (c2:Nat) (a3:Option Addr) (c3:Nat) (a7:Option Addr) (c7:Nat) (a8:Option Addr) (c8:Nat),cs=[.slice a0 x.Rg.Rf.length c0,.slice a1 x.own.length c1,.slice a2 x.Rh.length c2,.slice a3 x.heap.ag.length c3,.int .i64 x.heap.gc.Rj,.int .i64 x.heap.gc.Rs,.int .i64 x.heap.gc.Rk,.slice a7 x.heap.gc.da.length c7,.slice a8 x.dc.length c8,.int .i64 x.Rr,.int .i64 x.Rq,.int .i64 x.db.c6,.int .i64 x.db.dh,.int .i64 x.db.du,.int .i64 x.dx,.int .i64 x.Rp]/\ee S w a0 c0 x.Rg.Rf/\ee S w a1 c1 x.own/\ee S w a2 c2 x.Rh/\ee S w a3 c3 x.heap.ag/\ee S w a7 c7 x.heap.gc.da/\ee S w a8 c8 x.dc
  own w cs F x:=∃(a0:Option Addr) (c0:Nat) (a1:Option Addr) (c1:Nat) (a2:Option Addr) (c2:Nat) (a3:Option Addr) (c3:Nat) (a7:Option Addr) (c7:Nat) (a8:Option Addr) (c8:Nat),cs=[.slice a0 x.Rg.Rf.length c0,.slice a1 x.own.length c1,.slice a2 x.Rh.length c2,.slice a3 x.heap.ag.length c3,.int .i64 x.heap.gc.Rj,.int .i64 x.heap.gc.Rs,.int .i64 x.heap.gc.Rk,.slice a7 x.heap.gc.da.length c7,.slice a8 x.dc.length c8,.int .i64 x.Rr,.int .i64 x.Rq,.int .i64 x.db.c6,.int .i64 x.db.dh,.int .i64 x.db.du,.int .i64 x.dx,.int .i64 x.Rp]/\eK [sl a0 c0 x.Rg.Rf,sl a1 c1 x.own,sl a2 c2 x.Rh,sl a3 c3 x.heap.ag,sl a7 c7 x.heap.gc.da,sl a8 c8 x.dc] w F
  je:=by rintro _ _ _ _ ⟨a0,c0,a1,c1,a2,c2,a3,c3,a7,c7,a8,c8,rfl,_⟩;rfl
  eV:=by rintro _ _ _ _ ⟨a0,c0,a1,c1,a2,c2,a3,c3,a7,c7,a8,c8,rfl,_⟩;rfl
  iv:=by rintro _ _ _ _ _ ⟨a0,c0,a1,c1,a2,c2,a3,c3,a7,c7,a8,c8,rfl,h0,h1,h2,h3,h7,h8⟩ hk;exact⟨a0,c0,a1,c1,a2,c2,a3,c3,a7,c7,a8,c8,rfl,h0.iJ hk,h1.iJ hk,h2.iJ hk,h3.iJ hk,h7.iJ hk,h8.iJ hk⟩
  iy:=by rintro _ _ _ _ _ ⟨a0,c0,a1,c1,a2,c2,a3,c3,a7,c7,a8,c8,rfl,h0,h1,h2,h3,h7,h8⟩ hk;exact⟨a0,c0,a1,c1,a2,c2,a3,c3,a7,c7,a8,c8,rfl,h0.mono hk,h1.mono hk,h2.mono hk,h3.mono hk,h7.mono hk,h8.mono hk⟩
  gh:=by rintro _ _ _ _ _ ⟨a0,c0,a1,c1,a2,c2,a3,c3,a7,c7,a8,c8,rfl,h⟩ hk;exact⟨a0,c0,a1,c1,a2,c2,a3,c3,a7,c7,a8,c8,rfl,h.frame hk⟩
  jf:=by rintro _ _ _ _ _ ⟨a0,c0,a1,c1,a2,c2,a3,c3,a7,c7,a8,c8,rfl,h⟩ hk;exact⟨a0,c0,a1,c1,a2,c2,a3,c3,a7,c7,a8,c8,rfl,eK.kX h 0 rfl hk,eK.kX h 1 rfl hk,eK.kX h 2 rfl hk,eK.kX h 3 rfl hk,eK.kX h 4 rfl hk,eK.kX h 5 rfl hk⟩
  g6:=by rintro _ _ _ _ ⟨a0,c0,a1,c1,a2,c2,a3,c3,a7,c7,a8,c8,rfl,_⟩;simp[Value.oneCell']
  fC _:=⟨none,0,none,0,none,0,none,0,none,0,none,0,rfl,⟨[],[],rfl,.inl ⟨rfl,rfl,rfl,rfl⟩,⟨[],[],rfl,.inl ⟨rfl,rfl,rfl,rfl⟩,⟨[],[],rfl,.inl ⟨rfl,rfl,rfl,rfl⟩,⟨[],[],rfl,.inl ⟨rfl,rfl,rfl,rfl⟩,⟨[],[],rfl,.inl ⟨rfl,rfl,rfl,rfl⟩,⟨[],[],rfl,.inl ⟨rfl,rfl,rfl,rfl⟩,rfl⟩⟩⟩⟩⟩⟩⟩
structure dq where
  Rn:Int
  parts:List bh
  deriving DecidableEq
instance:dv dq where
  ty:=40
  sz:=2
  zero:=⟨0,[]⟩
  zc:=[.int .i64 0,.slice none 0 0]
  pos:=by omega
  rd S w cs x:=∃(a1:Option Addr) (c1:Nat),cs=[.int .i64 x.Rn,.slice a1 x.parts.length c1]/\ee S w a1 c1 x.parts
  own w cs F x:=∃(a1:Option Addr) (c1:Nat),cs=[.int .i64 x.Rn,.slice a1 x.parts.length c1]/\eK [sl a1 c1 x.parts] w F
  je:=by rintro _ _ _ _ ⟨a1,c1,rfl,_⟩;rfl
  eV:=by rintro _ _ _ _ ⟨a1,c1,rfl,_⟩;rfl
  iv:=by rintro _ _ _ _ _ ⟨a1,c1,rfl,h1⟩ hk;exact⟨a1,c1,rfl,h1.iJ hk⟩
  iy:=by rintro _ _ _ _ _ ⟨a1,c1,rfl,h1⟩ hk;exact⟨a1,c1,rfl,h1.mono hk⟩
  gh:=by rintro _ _ _ _ _ ⟨a1,c1,rfl,h⟩ hk;exact⟨a1,c1,rfl,h.frame hk⟩
  jf:=by rintro _ _ _ _ _ ⟨a1,c1,rfl,h⟩ hk;exact⟨a1,c1,rfl,eK.kX h 0 rfl hk⟩
  g6:=by rintro _ _ _ _ ⟨a1,c1,rfl,_⟩;simp[Value.oneCell']
  fC _:=⟨none,0,rfl,⟨[],[],rfl,.inl ⟨rfl,rfl,rfl,rfl⟩,rfl⟩⟩
structure dN where
  py:bh
  me:Int
  Rn:Int
  dS:Int
  deriving DecidableEq
structure dL where
  b:List U8
  i:Int
  h:Int
  deriving DecidableEq
structure fZ where
  Rg:fF
  own:List Int
  Rh:Hd
  heap:df
  dc:List ez
  Rr:Int
  Rq:Int
  db:de
  dx:Int
  Rp:Int
instance:dv fZ where
  ty:=54
  sz:=16
  zero:=⟨⟨[]⟩,[],⟨none,0,0⟩,⟨[],⟨0,0,0,[]⟩⟩,[],0,0,⟨0,0,0⟩,0,0⟩
  zc:=[.slice none 0 0,.slice none 0 0,.slice none 0 0,.slice none 0 0,.int .i64 0,.int .i64 0,.int .i64 0,.slice none 0 0,.slice none 0 0,.int .i64 0,.int .i64 0,.int .i64 0,.int .i64 0,.int .i64 0,.int .i64 0,.int .i64 0]
  pos:=by omega
  rd S w cs x:=∃(a0:Option Addr) (c0:Nat) (a1:Option Addr) (c1:Nat) (a3:Option Addr) (c3:Nat) (a7:Option Addr) (c7:Nat) (a8:Option Addr) (c8:Nat),cs=[.slice a0 x.Rg.Rf.length c0,.slice a1 x.own.length c1,.slice x.Rh.a x.Rh.n x.Rh.c,.slice a3 x.heap.ag.length c3,.int .i64 x.heap.gc.Rj,.int .i64 x.heap.gc.Rs,.int .i64 x.heap.gc.Rk,.slice a7 x.heap.gc.da.length c7,.slice a8 x.dc.length c8,.int .i64 x.Rr,.int .i64 x.Rq,.int .i64 x.db.c6,.int .i64 x.db.dh,.int .i64 x.db.du,.int .i64 x.dx,.int .i64 x.Rp]/\ee S w a0 c0 x.Rg.Rf/\ee S w a1 c1 x.own/\ee S w a3 c3 x.heap.ag/\ee S w a7 c7 x.heap.gc.da/\ee S w a8 c8 x.dc
  own w cs F x:=∃(a0:Option Addr) (c0:Nat) (a1:Option Addr) (c1:Nat) (a3:Option Addr) (c3:Nat) (a7:Option Addr) (c7:Nat) (a8:Option Addr) (c8:Nat),cs=[.slice a0 x.Rg.Rf.length c0,.slice a1 x.own.length c1,.slice x.Rh.a x.Rh.n x.Rh.c,.slice a3 x.heap.ag.length c3,.int .i64 x.heap.gc.Rj,.int .i64 x.heap.gc.Rs,.int .i64 x.heap.gc.Rk,.slice a7 x.heap.gc.da.length c7,.slice a8 x.dc.length c8,.int .i64 x.Rr,.int .i64 x.Rq,.int .i64 x.db.c6,.int .i64 x.db.dh,.int .i64 x.db.du,.int .i64 x.dx,.int .i64 x.Rp]/\eK [sl a0 c0 x.Rg.Rf,sl a1 c1 x.own,sl a3 c3 x.heap.ag,sl a7 c7 x.heap.gc.da,sl a8 c8 x.dc] w F
  je:=by rintro _ _ _ _ ⟨a0,c0,a1,c1,a3,c3,a7,c7,a8,c8,rfl,_⟩;rfl
  eV:=by rintro _ _ _ _ ⟨a0,c0,a1,c1,a3,c3,a7,c7,a8,c8,rfl,_⟩;rfl
  iv:=by rintro _ _ _ _ _ ⟨a0,c0,a1,c1,a3,c3,a7,c7,a8,c8,rfl,h0,h1,h3,h7,h8⟩ hk;exact⟨a0,c0,a1,c1,a3,c3,a7,c7,a8,c8,rfl,h0.iJ hk,h1.iJ hk,h3.iJ hk,h7.iJ hk,h8.iJ hk⟩
  iy:=by rintro _ _ _ _ _ ⟨a0,c0,a1,c1,a3,c3,a7,c7,a8,c8,rfl,h0,h1,h3,h7,h8⟩ hk;exact⟨a0,c0,a1,c1,a3,c3,a7,c7,a8,c8,rfl,h0.mono hk,h1.mono hk,h3.mono hk,h7.mono hk,h8.mono hk⟩
  gh:=by rintro _ _ _ _ _ ⟨a0,c0,a1,c1,a3,c3,a7,c7,a8,c8,rfl,h⟩ hk;exact⟨a0,c0,a1,c1,a3,c3,a7,c7,a8,c8,rfl,h.frame hk⟩
  jf:=by rintro _ _ _ _ _ ⟨a0,c0,a1,c1,a3,c3,a7,c7,a8,c8,rfl,h⟩ hk;exact⟨a0,c0,a1,c1,a3,c3,a7,c7,a8,c8,rfl,eK.kX h 0 rfl hk,eK.kX h 1 rfl hk,eK.kX h 2 rfl hk,eK.kX h 3 rfl hk,eK.kX h 4 rfl hk⟩
  g6:=by rintro _ _ _ _ ⟨a0,c0,a1,c1,a3,c3,a7,c7,a8,c8,rfl,_⟩;simp[Value.oneCell']
  fC _:=⟨none,0,none,0,none,0,none,0,none,0,rfl,⟨[],[],rfl,.inl ⟨rfl,rfl,rfl,rfl⟩,⟨[],[],rfl,.inl ⟨rfl,rfl,rfl,rfl⟩,⟨[],[],rfl,.inl ⟨rfl,rfl,rfl,rfl⟩,⟨[],[],rfl,.inl ⟨rfl,rfl,rfl,rfl⟩,⟨[],[],rfl,.inl ⟨rfl,rfl,rfl,rfl⟩,rfl⟩⟩⟩⟩⟩⟩
structure gz where
  Ry:Hd
instance:dv gz where
  ty:=170
  sz:=1
  zero:=⟨⟨none,0,0⟩⟩
  zc:=[.slice none 0 0]
  pos:=by omega
  rd _ _ cs x:=cs=[.slice x.Ry.a x.Ry.n x.Ry.c]
  own _ cs F x:=cs=[.slice x.Ry.a x.Ry.n x.Ry.c]/\F=[]
  je:=by rintro _ _ _ _ rfl;rfl
  eV:=by rintro _ _ _ _ ⟨rfl,_⟩;rfl
  iv h _:=h
  iy h _:=h
  gh h _:=h
  jf h _:=h.1
  g6:=by rintro _ _ _ _ ⟨rfl,_⟩;simp[Value.oneCell']
  fC _:=⟨rfl,rfl⟩
instance:Flat gz:=⟨fun h=>⟨h,rfl⟩⟩
structure oF where
  Rt:Int
  so:Int
  box:Int
  Rx:Int
  dV:Int
  c6:Int
  Ro:Int
  eh:Int
  ef:Int
  mark:Bool
  deriving DecidableEq
instance:dv oF where
  ty:=96
  sz:=13
  zero:=⟨0,0,0,0,0,0,0,0,0,false⟩
  zc:=[.int .i64 0,.int .i64 0,.int .i64 0,.int .i64 0,.int .i64 0,.int .i64 0,.int .i64 0,.int .i64 0,.int .i64 0,.bool false,.slice none 0 0,.slice none 0 0,.slice none 0 0]
  pos:=by omega
  rd _ _ cs x:=∃(a0:Option Addr) (n0 c0:Nat) (a1:Option Addr) (n1 c1:Nat) (a2:Option Addr) (n2 c2:Nat),cs=[.int .i64 x.Rt,.int .i64 x.so,.int .i64 x.box,.int .i64 x.Rx,.int .i64 x.dV,.int .i64 x.c6,.int .i64 x.Ro,.int .i64 x.eh,.int .i64 x.ef,.bool x.mark,.slice a0 n0 c0,.slice a1 n1 c1,.slice a2 n2 c2]
  own _ cs F x:=(∃(a0:Option Addr) (n0 c0:Nat) (a1:Option Addr) (n1 c1:Nat) (a2:Option Addr) (n2 c2:Nat),cs=[.int .i64 x.Rt,.int .i64 x.so,.int .i64 x.box,.int .i64 x.Rx,.int .i64 x.dV,.int .i64 x.c6,.int .i64 x.Ro,.int .i64 x.eh,.int .i64 x.ef,.bool x.mark,.slice a0 n0 c0,.slice a1 n1 c1,.slice a2 n2 c2])/\F=[]
  je:=by rintro _ _ _ _ ⟨a0,n0,c0,a1,n1,c1,a2,n2,c2,rfl⟩;rfl
  eV:=by rintro _ _ _ _ ⟨⟨a0,n0,c0,a1,n1,c1,a2,n2,c2,rfl⟩,_⟩;rfl
  iv h _:=h
  iy h _:=h
  gh h _:=h
  jf h _:=h.1
  g6:=by rintro _ _ _ _ ⟨⟨a0,n0,c0,a1,n1,c1,a2,n2,c2,rfl⟩,_⟩;simp[Value.oneCell']
  fC _:=⟨⟨_,_,_,_,_,_,_,_,_,rfl⟩,rfl⟩
def gR(l:List bh):List (List dp):=l.map fun p=>p.Rh
def fh(l:List dU):List (List dp):=l.map fun t=>t.Ry
def gx(l:List bh):List dU:=(gR l).map dU.mk
def lR(p:bh)(t:List dp):bh:=bh.mk p.Rg p.own t p.heap p.dc p.Rr p.Rq p.db p.dx p.Rp
def fb(l:List bh)(ts:List (List dp)):List bh:=List.zipWith lR l ts
def gd(b:Bool):Option Unit:=bif b then some ()else none
class Fit (α:Type) where
  fit:α->Prop
instance:Fit Int:=⟨fun x=>-9223372036854775808<=x/\x<=9223372036854775807⟩
instance:Fit Bool:=⟨fun _=>True⟩
instance:Fit U8:=⟨fun x=>0<=x.v/\x.v<=255⟩
instance {α:Type}[Fit α]:Fit (List α):=⟨fun l=>l.length<=maxLen/\∀y,y∈l->Fit.fit y⟩
instance:Fit de:=⟨fun x=>Fit.fit x.c6/\Fit.fit x.dh/\Fit.fit x.du⟩
instance:Fit dG:=⟨fun x=>Fit.fit x.so/\Fit.fit x.a/\Fit.fit x.b/\Fit.fit x.c/\Fit.fit x.d/\Fit.fit x.e⟩
instance:Fit dY:=⟨fun x=>Fit.fit x.so/\Fit.fit x.py/\Fit.fit x.dS/\Fit.fit x.call⟩
instance:Fit dD:=⟨fun x=>Fit.fit x.code/\Fit.fit x.Rz⟩
instance:Fit dp:=⟨fun x=>Fit.fit x.Ru/\Fit.fit x.Rv/\Fit.fit x.dP⟩
instance:Fit ez:=⟨fun x=>Fit.fit x.Rx/\Fit.fit x.fY/\Fit.fit x.nN/\Fit.fit x.iG/\Fit.fit x.so/\Fit.fit x.kr⟩
instance:Fit eR:=⟨fun x=>Fit.fit x.RA/\Fit.fit x.n⟩
instance:Fit fF:=⟨fun x=>Fit.fit x.Rf⟩
instance:Fit er:=⟨fun x=>Fit.fit x.Rg/\Fit.fit x.own/\Fit.fit x.fG⟩
instance:Fit dU:=⟨fun x=>Fit.fit x.Ry⟩
instance:Fit cd:=⟨fun x=>Fit.fit x.Rt/\Fit.fit x.so/\Fit.fit x.box/\Fit.fit x.Rx/\Fit.fit x.dV/\Fit.fit x.c6/\Fit.fit x.Ro/\Fit.fit x.eh/\Fit.fit x.ef/\Fit.fit x.mark/\Fit.fit x.dk/\Fit.fit x.Rm/\Fit.fit x.Ri⟩
instance:Fit eS:=⟨fun x=>Fit.fit x.Rj/\Fit.fit x.Rs/\Fit.fit x.Rk/\Fit.fit x.da⟩
instance:Fit df:=⟨fun x=>Fit.fit x.ag/\Fit.fit x.gc⟩
instance:Fit bh:=⟨fun x=>Fit.fit x.Rg/\Fit.fit x.own/\Fit.fit x.Rh/\Fit.fit x.heap/\Fit.fit x.dc/\Fit.fit x.Rr/\Fit.fit x.Rq/\Fit.fit x.db/\Fit.fit x.dx/\Fit.fit x.Rp⟩
instance:Fit dq:=⟨fun x=>Fit.fit x.Rn/\Fit.fit x.parts⟩
instance:Fit dN:=⟨fun x=>Fit.fit x.py/\Fit.fit x.me/\Fit.fit x.Rn/\Fit.fit x.dS⟩
instance:Fit dL:=⟨fun x=>Fit.fit x.b/\Fit.fit x.i/\Fit.fit x.h⟩
end Go.Kx
