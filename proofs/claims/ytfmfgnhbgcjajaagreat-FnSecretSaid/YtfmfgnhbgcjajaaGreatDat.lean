import Derived.Test.YtfmfgnhbgcjajaaGreatDraw
namespace Go.Kx
open Go Go.RowKit
open Go.IntKind (i64)
set_option linter.unusedVariables false
set_option linter.unusedSimpArgs false
instance:dp Int where
  ty:=3
  sz:=1
  zero:=0
  zc:=[.int .i64 0]
  pos:=by omega
  rd _ _ cs x:=cs=[.int .i64 x]
  own _ cs F x:=cs=[.int .i64 x]/\F=[]
  iG:=by rintro _ _ _ _ rfl;rfl
  eQ:=by rintro _ _ _ _ ⟨rfl,_⟩;rfl
  gW h _:=h
  gV h _:=h
  fN h _:=h
  iQ h _:=h.1
  gG:=by rintro _ _ _ _ ⟨rfl,_⟩;simp[Value.oneCell']
  fh _:=⟨rfl,rfl⟩
instance:Flat Int:=⟨fun h=>⟨h,rfl⟩⟩
instance:dp Bool where
  ty:=4
  sz:=1
  zero:=false
  zc:=[.bool false]
  pos:=by omega
  rd _ _ cs x:=cs=[.bool x]
  own _ cs F x:=cs=[.bool x]/\F=[]
  iG:=by rintro _ _ _ _ rfl;rfl
  eQ:=by rintro _ _ _ _ ⟨rfl,_⟩;rfl
  gW h _:=h
  gV h _:=h
  fN h _:=h
  iQ h _:=h.1
  gG:=by rintro _ _ _ _ ⟨rfl,_⟩;simp[Value.oneCell']
  fh _:=⟨rfl,rfl⟩
instance:Flat Bool:=⟨fun h=>⟨h,rfl⟩⟩
abbrev Qo:=ByteArray
instance:dp Qo where
  ty:=9
  sz:=1
  zero:=⟨#[]⟩
  zc:=[.string ⟨#[]⟩]
  pos:=by omega
  rd _ _ cs x:=cs=[.string x]
  own _ cs F x:=cs=[.string x]/\F=[]
  iG:=by rintro _ _ _ _ rfl;rfl
  eQ:=by rintro _ _ _ _ ⟨rfl,_⟩;rfl
  gW h _:=h
  gV h _:=h
  fN h _:=h
  iQ h _:=h.1
  gG:=by rintro _ _ _ _ ⟨rfl,_⟩;simp[Value.oneCell']
  fh _:=⟨rfl,rfl⟩
instance:Flat Qo:=⟨fun h=>⟨h,rfl⟩⟩
structure U8 where
  v:Int
  deriving DecidableEq
instance:dp U8 where
  ty:=5
  sz:=1
  zero:=⟨0⟩
  zc:=[.int .u8 0]
  pos:=by omega
  rd _ _ cs x:=cs=[.int .u8 x.v]
  own _ cs F x:=cs=[.int .u8 x.v]/\F=[]
  iG:=by rintro _ _ _ _ rfl;rfl
  eQ:=by rintro _ _ _ _ ⟨rfl,_⟩;rfl
  gW h _:=h
  gV h _:=h
  fN h _:=h
  iQ h _:=h.1
  gG:=by rintro _ _ _ _ ⟨rfl,_⟩;simp[Value.oneCell']
  fh _:=⟨rfl,rfl⟩
instance:Flat U8:=⟨fun h=>⟨h,rfl⟩⟩
def yo(a b:Int):Int:=i64.wrap ((BitVec.ofInt IntKind.i64.bits a &&& BitVec.ofInt IntKind.i64.bits b).toNat:Int)
def Po(a b:Int):Int:=i64.wrap ((BitVec.ofInt IntKind.i64.bits a ^^^ BitVec.ofInt IntKind.i64.bits b).toNat:Int)
def I9(a b:Int):Int:=a.fdiv (2^(min b.toNat IntKind.i64.bits))
structure Hd where
  a:Option Addr
  n:Nat
  c:Nat
structure de where
  cd:Int
  dg:Int
  dn:Int
  deriving DecidableEq
instance:dp de where
  ty:=33
  sz:=3
  zero:=⟨0,0,0⟩
  zc:=[.int .i64 0,.int .i64 0,.int .i64 0]
  pos:=by omega
  rd _ _ cs x:=cs=[.int .i64 x.cd,.int .i64 x.dg,.int .i64 x.dn]
  own _ cs F x:=cs=[.int .i64 x.cd,.int .i64 x.dg,.int .i64 x.dn]/\F=[]
  iG:=by rintro _ _ _ _ rfl;rfl
  eQ:=by rintro _ _ _ _ ⟨rfl,_⟩;rfl
  gW h _:=h
  gV h _:=h
  fN h _:=h
  iQ h _:=h.1
  gG:=by rintro _ _ _ _ ⟨rfl,_⟩;simp[Value.oneCell']
  fh _:=⟨rfl,rfl⟩
instance:Flat de:=⟨fun h=>⟨h,rfl⟩⟩
structure dD where
  Rq:Int
  a:Int
  b:Int
  c:Int
  d:Int
  e:Int
  deriving DecidableEq
instance:dp dD where
  ty:=63
  sz:=6
  zero:=⟨0,0,0,0,0,0⟩
  zc:=[.int .i64 0,.int .i64 0,.int .i64 0,.int .i64 0,.int .i64 0,.int .i64 0]
  pos:=by omega
  rd _ _ cs x:=cs=[.int .i64 x.Rq,.int .i64 x.a,.int .i64 x.b,.int .i64 x.c,.int .i64 x.d,.int .i64 x.e]
  own _ cs F x:=cs=[.int .i64 x.Rq,.int .i64 x.a,.int .i64 x.b,.int .i64 x.c,.int .i64 x.d,.int .i64 x.e]/\F=[]
  iG:=by rintro _ _ _ _ rfl;rfl
  eQ:=by rintro _ _ _ _ ⟨rfl,_⟩;rfl
  gW h _:=h
  gV h _:=h
  fN h _:=h
  iQ h _:=h.1
  gG:=by rintro _ _ _ _ ⟨rfl,_⟩;simp[Value.oneCell']
  fh _:=⟨rfl,rfl⟩
instance:Flat dD:=⟨fun h=>⟨h,rfl⟩⟩
structure dQ where
  Rq:Int
  Rn:Int
  dS:Int
  call:dD
  deriving DecidableEq
instance:dp dQ where
  ty:=65
  sz:=9
  zero:=⟨0,0,0,⟨0,0,0,0,0,0⟩⟩
  zc:=[.int .i64 0,.int .i64 0,.int .i64 0,.int .i64 0,.int .i64 0,.int .i64 0,.int .i64 0,.int .i64 0,.int .i64 0]
  pos:=by omega
  rd _ _ cs x:=cs=[.int .i64 x.Rq,.int .i64 x.Rn,.int .i64 x.dS,.int .i64 x.call.Rq,.int .i64 x.call.a,.int .i64 x.call.b,.int .i64 x.call.c,.int .i64 x.call.d,.int .i64 x.call.e]
  own _ cs F x:=cs=[.int .i64 x.Rq,.int .i64 x.Rn,.int .i64 x.dS,.int .i64 x.call.Rq,.int .i64 x.call.a,.int .i64 x.call.b,.int .i64 x.call.c,.int .i64 x.call.d,.int .i64 x.call.e]/\F=[]
  iG:=by rintro _ _ _ _ rfl;rfl
  eQ:=by rintro _ _ _ _ ⟨rfl,_⟩;rfl
  gW h _:=h
  gV h _:=h
  fN h _:=h
  iQ h _:=h.1
  gG:=by rintro _ _ _ _ ⟨rfl,_⟩;simp[Value.oneCell']
  fh _:=⟨rfl,rfl⟩
instance:Flat dQ:=⟨fun h=>⟨h,rfl⟩⟩
structure dt where
  code:Int
  RI:Int
  deriving DecidableEq
instance:dp dt where
  ty:=78
  sz:=2
  zero:=⟨0,0⟩
  zc:=[.int .i64 0,.int .i64 0]
  pos:=by omega
  rd _ _ cs x:=cs=[.int .i64 x.code,.int .i64 x.RI]
  own _ cs F x:=cs=[.int .i64 x.code,.int .i64 x.RI]/\F=[]
  iG:=by rintro _ _ _ _ rfl;rfl
  eQ:=by rintro _ _ _ _ ⟨rfl,_⟩;rfl
  gW h _:=h
  gV h _:=h
  fN h _:=h
  iQ h _:=h.1
  gG:=by rintro _ _ _ _ ⟨rfl,_⟩;simp[Value.oneCell']
  fh _:=⟨rfl,rfl⟩
instance:Flat dt:=⟨fun h=>⟨h,rfl⟩⟩
structure dj where
  RC:Bool
  RE:Int
  dO:de
  deriving DecidableEq
instance:dp dj where
  ty:=85
  sz:=5
  zero:=⟨false,0,⟨0,0,0⟩⟩
  zc:=[.bool false,.int .i64 0,.int .i64 0,.int .i64 0,.int .i64 0]
  pos:=by omega
  rd _ _ cs x:=cs=[.bool x.RC,.int .i64 x.RE,.int .i64 x.dO.cd,.int .i64 x.dO.dg,.int .i64 x.dO.dn]
  own _ cs F x:=cs=[.bool x.RC,.int .i64 x.RE,.int .i64 x.dO.cd,.int .i64 x.dO.dg,.int .i64 x.dO.dn]/\F=[]
  iG:=by rintro _ _ _ _ rfl;rfl
  eQ:=by rintro _ _ _ _ ⟨rfl,_⟩;rfl
  gW h _:=h
  gV h _:=h
  fN h _:=h
  iQ h _:=h.1
  gG:=by rintro _ _ _ _ ⟨rfl,_⟩;simp[Value.oneCell']
  fh _:=⟨rfl,rfl⟩
instance:Flat dj:=⟨fun h=>⟨h,rfl⟩⟩
structure ef where
  RF:Int
  eP:Int
  mB:Int
  gP:Int
  Rq:Int
  jx:Int
  deriving DecidableEq
instance:dp ef where
  ty:=87
  sz:=6
  zero:=⟨0,0,0,0,0,0⟩
  zc:=[.int .i64 0,.int .i64 0,.int .i64 0,.int .i64 0,.int .i64 0,.int .i64 0]
  pos:=by omega
  rd _ _ cs x:=cs=[.int .i64 x.RF,.int .i64 x.eP,.int .i64 x.mB,.int .i64 x.gP,.int .i64 x.Rq,.int .i64 x.jx]
  own _ cs F x:=cs=[.int .i64 x.RF,.int .i64 x.eP,.int .i64 x.mB,.int .i64 x.gP,.int .i64 x.Rq,.int .i64 x.jx]/\F=[]
  iG:=by rintro _ _ _ _ rfl;rfl
  eQ:=by rintro _ _ _ _ ⟨rfl,_⟩;rfl
  gW h _:=h
  gV h _:=h
  fN h _:=h
  iQ h _:=h.1
  gG:=by rintro _ _ _ _ ⟨rfl,_⟩;simp[Value.oneCell']
  fh _:=⟨rfl,rfl⟩
instance:Flat ef:=⟨fun h=>⟨h,rfl⟩⟩
structure eL where
  RJ:Int
  n:Int
  deriving DecidableEq
instance:dp eL where
  ty:=155
  sz:=2
  zero:=⟨0,0⟩
  zc:=[.int .i64 0,.int .i64 0]
  pos:=by omega
  rd _ _ cs x:=cs=[.int .i64 x.RJ,.int .i64 x.n]
  own _ cs F x:=cs=[.int .i64 x.RJ,.int .i64 x.n]/\F=[]
  iG:=by rintro _ _ _ _ rfl;rfl
  eQ:=by rintro _ _ _ _ ⟨rfl,_⟩;rfl
  gW h _:=h
  gV h _:=h
  fN h _:=h
  iQ h _:=h.1
  gG:=by rintro _ _ _ _ ⟨rfl,_⟩;simp[Value.oneCell']
  fh _:=⟨rfl,rfl⟩
instance:Flat eL:=⟨fun h=>⟨h,rfl⟩⟩
structure dV where
  Ro:List Int
  deriving DecidableEq
instance:dp dV where
  ty:=31
  sz:=1
  zero:=⟨[]⟩
  zc:=[.slice none 0 0]
  pos:=by omega
  rd S w cs x:=∃(a0:Option Addr) (c0:Nat),cs=[.slice a0 x.Ro.length c0]/\dX S w a0 c0 x.Ro
  own w cs F x:=∃(a0:Option Addr) (c0:Nat),cs=[.slice a0 x.Ro.length c0]/\eH [sl a0 c0 x.Ro] w F
  iG:=by rintro _ _ _ _ ⟨a0,c0,rfl,_⟩;rfl
  eQ:=by rintro _ _ _ _ ⟨a0,c0,rfl,_⟩;rfl
  gW:=by rintro _ _ _ _ _ ⟨a0,c0,rfl,h0⟩ hk;exact⟨a0,c0,rfl,h0.iS hk⟩
  gV:=by rintro _ _ _ _ _ ⟨a0,c0,rfl,h0⟩ hk;exact⟨a0,c0,rfl,h0.mono hk⟩
  fN:=by rintro _ _ _ _ _ ⟨a0,c0,rfl,h⟩ hk;exact⟨a0,c0,rfl,h.frame hk⟩
  iQ:=by rintro _ _ _ _ _ ⟨a0,c0,rfl,h⟩ hk;exact⟨a0,c0,rfl,eH.ky h 0 rfl hk⟩
  gG:=by rintro _ _ _ _ ⟨a0,c0,rfl,_⟩;simp[Value.oneCell']
  fh _:=⟨none,0,rfl,⟨[],[],rfl,.inl ⟨rfl,rfl,rfl,rfl⟩,rfl⟩⟩
structure dK where
  Rp:dV
  own:List Int
  eV:de
  deriving DecidableEq
instance:dp dK where
  ty:=35
  sz:=5
  zero:=⟨⟨[]⟩,[],⟨0,0,0⟩⟩
  zc:=[.slice none 0 0,.slice none 0 0,.int .i64 0,.int .i64 0,.int .i64 0]
  pos:=by omega
  rd S w cs x:=∃(a0:Option Addr) (c0:Nat) (a1:Option Addr) (c1:Nat),cs=[.slice a0 x.Rp.Ro.length c0,.slice a1 x.own.length c1,.int .i64 x.eV.cd,.int .i64 x.eV.dg,.int .i64 x.eV.dn]/\dX S w a0 c0 x.Rp.Ro/\dX S w a1 c1 x.own
  own w cs F x:=∃(a0:Option Addr) (c0:Nat) (a1:Option Addr) (c1:Nat),cs=[.slice a0 x.Rp.Ro.length c0,.slice a1 x.own.length c1,.int .i64 x.eV.cd,.int .i64 x.eV.dg,.int .i64 x.eV.dn]/\eH [sl a0 c0 x.Rp.Ro,sl a1 c1 x.own] w F
  iG:=by rintro _ _ _ _ ⟨a0,c0,a1,c1,rfl,_⟩;rfl
  eQ:=by rintro _ _ _ _ ⟨a0,c0,a1,c1,rfl,_⟩;rfl
  gW:=by rintro _ _ _ _ _ ⟨a0,c0,a1,c1,rfl,h0,h1⟩ hk;exact⟨a0,c0,a1,c1,rfl,h0.iS hk,h1.iS hk⟩
  gV:=by rintro _ _ _ _ _ ⟨a0,c0,a1,c1,rfl,h0,h1⟩ hk;exact⟨a0,c0,a1,c1,rfl,h0.mono hk,h1.mono hk⟩
  fN:=by rintro _ _ _ _ _ ⟨a0,c0,a1,c1,rfl,h⟩ hk;exact⟨a0,c0,a1,c1,rfl,h.frame hk⟩
  iQ:=by rintro _ _ _ _ _ ⟨a0,c0,a1,c1,rfl,h⟩ hk;exact⟨a0,c0,a1,c1,rfl,eH.ky h 0 rfl hk,eH.ky h 1 rfl hk⟩
  gG:=by rintro _ _ _ _ ⟨a0,c0,a1,c1,rfl,_⟩;simp[Value.oneCell']
  fh _:=⟨none,0,none,0,rfl,⟨[],[],rfl,.inl ⟨rfl,rfl,rfl,rfl⟩,⟨[],[],rfl,.inl ⟨rfl,rfl,rfl,rfl⟩,rfl⟩⟩⟩
structure dJ where
  RH:List dj
  deriving DecidableEq
instance:dp dJ where
  ty:=170
  sz:=1
  zero:=⟨[]⟩
  zc:=[.slice none 0 0]
  pos:=by omega
  rd S w cs x:=∃(a0:Option Addr) (c0:Nat),cs=[.slice a0 x.RH.length c0]/\dX S w a0 c0 x.RH
  own w cs F x:=∃(a0:Option Addr) (c0:Nat),cs=[.slice a0 x.RH.length c0]/\eH [sl a0 c0 x.RH] w F
  iG:=by rintro _ _ _ _ ⟨a0,c0,rfl,_⟩;rfl
  eQ:=by rintro _ _ _ _ ⟨a0,c0,rfl,_⟩;rfl
  gW:=by rintro _ _ _ _ _ ⟨a0,c0,rfl,h0⟩ hk;exact⟨a0,c0,rfl,h0.iS hk⟩
  gV:=by rintro _ _ _ _ _ ⟨a0,c0,rfl,h0⟩ hk;exact⟨a0,c0,rfl,h0.mono hk⟩
  fN:=by rintro _ _ _ _ _ ⟨a0,c0,rfl,h⟩ hk;exact⟨a0,c0,rfl,h.frame hk⟩
  iQ:=by rintro _ _ _ _ _ ⟨a0,c0,rfl,h⟩ hk;exact⟨a0,c0,rfl,eH.ky h 0 rfl hk⟩
  gG:=by rintro _ _ _ _ ⟨a0,c0,rfl,_⟩;simp[Value.oneCell']
  fh _:=⟨none,0,rfl,⟨[],[],rfl,.inl ⟨rfl,rfl,rfl,rfl⟩,rfl⟩⟩
structure c6 where
  RG:Int
  Rq:Int
  box:Int
  RF:Int
  dY:Int
  cd:Int
  Ry:Int
  ee:Int
  ed:Int
  mark:Bool
  dk:List Int
  Rw:List Int
  Rs:List eL
  deriving DecidableEq
instance:dp c6 where
  ty:=96
  sz:=13
  zero:=⟨0,0,0,0,0,0,0,0,0,false,[],[],[]⟩
  zc:=[.int .i64 0,.int .i64 0,.int .i64 0,.int .i64 0,.int .i64 0,.int .i64 0,.int .i64 0,.int .i64 0,.int .i64 0,.bool false,.slice none 0 0,.slice none 0 0,.slice none 0 0]
  pos:=by omega
  rd S w cs x:=∃(a10:Option Addr) (c10:Nat) (a11:Option Addr) (c11:Nat) (a12:Option Addr) (c12:Nat),cs=[.int .i64 x.RG,.int .i64 x.Rq,.int .i64 x.box,.int .i64 x.RF,.int .i64 x.dY,.int .i64 x.cd,.int .i64 x.Ry,.int .i64 x.ee,.int .i64 x.ed,.bool x.mark,.slice a10 x.dk.length c10,.slice a11 x.Rw.length c11,.slice a12 x.Rs.length c12]/\dX S w a10 c10 x.dk/\dX S w a11 c11 x.Rw/\dX S w a12 c12 x.Rs
  own w cs F x:=∃(a10:Option Addr) (c10:Nat) (a11:Option Addr) (c11:Nat) (a12:Option Addr) (c12:Nat),cs=[.int .i64 x.RG,.int .i64 x.Rq,.int .i64 x.box,.int .i64 x.RF,.int .i64 x.dY,.int .i64 x.cd,.int .i64 x.Ry,.int .i64 x.ee,.int .i64 x.ed,.bool x.mark,.slice a10 x.dk.length c10,.slice a11 x.Rw.length c11,.slice a12 x.Rs.length c12]/\eH [sl a10 c10 x.dk,sl a11 c11 x.Rw,sl a12 c12 x.Rs] w F
  iG:=by rintro _ _ _ _ ⟨a10,c10,a11,c11,a12,c12,rfl,_⟩;rfl
  eQ:=by rintro _ _ _ _ ⟨a10,c10,a11,c11,a12,c12,rfl,_⟩;rfl
  gW:=by rintro _ _ _ _ _ ⟨a10,c10,a11,c11,a12,c12,rfl,h10,h11,h12⟩ hk;exact⟨a10,c10,a11,c11,a12,c12,rfl,h10.iS hk,h11.iS hk,h12.iS hk⟩
  gV:=by rintro _ _ _ _ _ ⟨a10,c10,a11,c11,a12,c12,rfl,h10,h11,h12⟩ hk;exact⟨a10,c10,a11,c11,a12,c12,rfl,h10.mono hk,h11.mono hk,h12.mono hk⟩
  fN:=by rintro _ _ _ _ _ ⟨a10,c10,a11,c11,a12,c12,rfl,h⟩ hk;exact⟨a10,c10,a11,c11,a12,c12,rfl,h.frame hk⟩
  iQ:=by rintro _ _ _ _ _ ⟨a10,c10,a11,c11,a12,c12,rfl,h⟩ hk;exact⟨a10,c10,a11,c11,a12,c12,rfl,eH.ky h 0 rfl hk,eH.ky h 1 rfl hk,eH.ky h 2 rfl hk⟩
  gG:=by rintro _ _ _ _ ⟨a10,c10,a11,c11,a12,c12,rfl,_⟩;simp[Value.oneCell']
  fh _:=⟨none,0,none,0,none,0,rfl,⟨[],[],rfl,.inl ⟨rfl,rfl,rfl,rfl⟩,⟨[],[],rfl,.inl ⟨rfl,rfl,rfl,rfl⟩,⟨[],[],rfl,.inl ⟨rfl,rfl,rfl,rfl⟩,rfl⟩⟩⟩⟩
structure eS where
  Ru:Int
  RD:Int
  Rv:Int
  da:List Int
  deriving DecidableEq
instance:dp eS where
  ty:=49
  sz:=4
  zero:=⟨0,0,0,[]⟩
  zc:=[.int .i64 0,.int .i64 0,.int .i64 0,.slice none 0 0]
  pos:=by omega
  rd S w cs x:=∃(a3:Option Addr) (c3:Nat),cs=[.int .i64 x.Ru,.int .i64 x.RD,.int .i64 x.Rv,.slice a3 x.da.length c3]/\dX S w a3 c3 x.da
  own w cs F x:=∃(a3:Option Addr) (c3:Nat),cs=[.int .i64 x.Ru,.int .i64 x.RD,.int .i64 x.Rv,.slice a3 x.da.length c3]/\eH [sl a3 c3 x.da] w F
  iG:=by rintro _ _ _ _ ⟨a3,c3,rfl,_⟩;rfl
  eQ:=by rintro _ _ _ _ ⟨a3,c3,rfl,_⟩;rfl
  gW:=by rintro _ _ _ _ _ ⟨a3,c3,rfl,h3⟩ hk;exact⟨a3,c3,rfl,h3.iS hk⟩
  gV:=by rintro _ _ _ _ _ ⟨a3,c3,rfl,h3⟩ hk;exact⟨a3,c3,rfl,h3.mono hk⟩
  fN:=by rintro _ _ _ _ _ ⟨a3,c3,rfl,h⟩ hk;exact⟨a3,c3,rfl,h.frame hk⟩
  iQ:=by rintro _ _ _ _ _ ⟨a3,c3,rfl,h⟩ hk;exact⟨a3,c3,rfl,eH.ky h 0 rfl hk⟩
  gG:=by rintro _ _ _ _ ⟨a3,c3,rfl,_⟩;simp[Value.oneCell']
  fh _:=⟨none,0,rfl,⟨[],[],rfl,.inl ⟨rfl,rfl,rfl,rfl⟩,rfl⟩⟩
structure dm where
  ag:List c6
  gc:eS
  deriving DecidableEq
instance:dp dm where
  ty:=51
  sz:=5
  zero:=⟨[],⟨0,0,0,[]⟩⟩
  zc:=[.slice none 0 0,.int .i64 0,.int .i64 0,.int .i64 0,.slice none 0 0]
  pos:=by omega
  rd S w cs x:=∃(a0:Option Addr) (c0:Nat) (a4:Option Addr) (c4:Nat),cs=[.slice a0 x.ag.length c0,.int .i64 x.gc.Ru,.int .i64 x.gc.RD,.int .i64 x.gc.Rv,.slice a4 x.gc.da.length c4]/\dX S w a0 c0 x.ag/\dX S w a4 c4 x.gc.da
  own w cs F x:=∃(a0:Option Addr) (c0:Nat) (a4:Option Addr) (c4:Nat),cs=[.slice a0 x.ag.length c0,.int .i64 x.gc.Ru,.int .i64 x.gc.RD,.int .i64 x.gc.Rv,.slice a4 x.gc.da.length c4]/\eH [sl a0 c0 x.ag,sl a4 c4 x.gc.da] w F
  iG:=by rintro _ _ _ _ ⟨a0,c0,a4,c4,rfl,_⟩;rfl
  eQ:=by rintro _ _ _ _ ⟨a0,c0,a4,c4,rfl,_⟩;rfl
  gW:=by rintro _ _ _ _ _ ⟨a0,c0,a4,c4,rfl,h0,h4⟩ hk;exact⟨a0,c0,a4,c4,rfl,h0.iS hk,h4.iS hk⟩
  gV:=by rintro _ _ _ _ _ ⟨a0,c0,a4,c4,rfl,h0,h4⟩ hk;exact⟨a0,c0,a4,c4,rfl,h0.mono hk,h4.mono hk⟩
  fN:=by rintro _ _ _ _ _ ⟨a0,c0,a4,c4,rfl,h⟩ hk;exact⟨a0,c0,a4,c4,rfl,h.frame hk⟩
  iQ:=by rintro _ _ _ _ _ ⟨a0,c0,a4,c4,rfl,h⟩ hk;exact⟨a0,c0,a4,c4,rfl,eH.ky h 0 rfl hk,eH.ky h 1 rfl hk⟩
  gG:=by rintro _ _ _ _ ⟨a0,c0,a4,c4,rfl,_⟩;simp[Value.oneCell']
  fh _:=⟨none,0,none,0,rfl,⟨[],[],rfl,.inl ⟨rfl,rfl,rfl,rfl⟩,⟨[],[],rfl,.inl ⟨rfl,rfl,rfl,rfl⟩,rfl⟩⟩⟩
structure bh where
  Rp:dV
  own:List Int
  Rr:List dj
  py:dm
  db:List ef
  RA:Int
  Rz:Int
  dc:de
  du:Int
  Rx:Int
  deriving DecidableEq
instance:dp bh where
  ty:=54
  sz:=16
  zero:=⟨⟨[]⟩,[],[],⟨[],⟨0,0,0,[]⟩⟩,[],0,0,⟨0,0,0⟩,0,0⟩
  zc:=[.slice none 0 0,.slice none 0 0,.slice none 0 0,.slice none 0 0,.int .i64 0,.int .i64 0,.int .i64 0,.slice none 0 0,.slice none 0 0,.int .i64 0,.int .i64 0,.int .i64 0,.int .i64 0,.int .i64 0,.int .i64 0,.int .i64 0]
  pos:=by omega
  rd S w cs x:=∃(a0:Option Addr) (c0:Nat) (a1:Option Addr) (c1:Nat) (a2:Option Addr) (c2:Nat) (a3:Option Addr) (c3:Nat) (a7:Option Addr) (c7:Nat) (a8:Option Addr) (c8:Nat),cs=[.slice a0 x.Rp.Ro.length c0,.slice a1 x.own.length c1,.slice a2 x.Rr.length c2,.slice a3 x.py.ag.length c3,.int .i64 x.py.gc.Ru,.int .i64 x.py.gc.RD,.int .i64 x.py.gc.Rv,.slice a7 x.py.gc.da.length c7,.slice a8 x.db.length c8,.int .i64 x.RA,.int .i64 x.Rz,.int .i64 x.dc.cd,.int .i64 x.dc.dg,.int .i64 x.dc.dn,.int .i64 x.du,.int .i64 x.Rx]/\dX S w a0 c0 x.Rp.Ro/\dX S w a1 c1 x.own/\dX S w a2 c2 x.Rr/\dX S w a3 c3 x.py.ag/\dX S w a7 c7 x.py.gc.da/\dX S w a8 c8 x.db
  own w cs F x:=∃(a0:Option Addr) (c0:Nat) (a1:Option Addr) (c1:Nat) (a2:Option Addr) (c2:Nat) (a3:Option Addr) (c3:Nat) (a7:Option Addr) (c7:Nat) (a8:Option Addr) (c8:Nat),cs=[.slice a0 x.Rp.Ro.length c0,.slice a1 x.own.length c1,.slice a2 x.Rr.length c2,.slice a3 x.py.ag.length c3,.int .i64 x.py.gc.Ru,.int .i64 x.py.gc.RD,.int .i64 x.py.gc.Rv,.slice a7 x.py.gc.da.length c7,.slice a8 x.db.length c8,.int .i64 x.RA,.int .i64 x.Rz,.int .i64 x.dc.cd,.int .i64 x.dc.dg,.int .i64 x.dc.dn,.int .i64 x.du,.int .i64 x.Rx]/\eH [sl a0 c0 x.Rp.Ro,sl a1 c1 x.own,sl a2 c2 x.Rr,sl a3 c3 x.py.ag,sl a7 c7 x.py.gc.da,sl a8 c8 x.db] w F
  iG:=by rintro _ _ _ _ ⟨a0,c0,a1,c1,a2,c2,a3,c3,a7,c7,a8,c8,rfl,_⟩;rfl
  eQ:=by rintro _ _ _ _ ⟨a0,c0,a1,c1,a2,c2,a3,c3,a7,c7,a8,c8,rfl,_⟩;rfl
  gW:=by rintro _ _ _ _ _ ⟨a0,c0,a1,c1,a2,c2,a3,c3,a7,c7,a8,c8,rfl,h0,h1,h2,h3,h7,h8⟩ hk;exact⟨a0,c0,a1,c1,a2,c2,a3,c3,a7,c7,a8,c8,rfl,h0.iS hk,h1.iS hk,h2.iS hk,h3.iS hk,h7.iS hk,h8.iS hk⟩
  gV:=by rintro _ _ _ _ _ ⟨a0,c0,a1,c1,a2,c2,a3,c3,a7,c7,a8,c8,rfl,h0,h1,h2,h3,h7,h8⟩ hk;exact⟨a0,c0,a1,c1,a2,c2,a3,c3,a7,c7,a8,c8,rfl,h0.mono hk,h1.mono hk,h2.mono hk,h3.mono hk,h7.mono hk,h8.mono hk⟩
  fN:=by rintro _ _ _ _ _ ⟨a0,c0,a1,c1,a2,c2,a3,c3,a7,c7,a8,c8,rfl,h⟩ hk;exact⟨a0,c0,a1,c1,a2,c2,a3,c3,a7,c7,a8,c8,rfl,h.frame hk⟩
  iQ:=by rintro _ _ _ _ _ ⟨a0,c0,a1,c1,a2,c2,a3,c3,a7,c7,a8,c8,rfl,h⟩ hk;exact⟨a0,c0,a1,c1,a2,c2,a3,c3,a7,c7,a8,c8,rfl,eH.ky h 0 rfl hk,eH.ky h 1 rfl hk,eH.ky h 2 rfl hk,eH.ky h 3 rfl hk,eH.ky h 4 rfl hk,eH.ky h 5 rfl hk⟩
  gG:=by rintro _ _ _ _ ⟨a0,c0,a1,c1,a2,c2,a3,c3,a7,c7,a8,c8,rfl,_⟩;simp[Value.oneCell']
  fh _:=⟨none,0,none,0,none,0,none,0,none,0,none,0,rfl,⟨[],[],rfl,.inl ⟨rfl,rfl,rfl,rfl⟩,⟨[],[],rfl,.inl ⟨rfl,rfl,rfl,rfl⟩,⟨[],[],rfl,.inl ⟨rfl,rfl,rfl,rfl⟩,⟨[],[],rfl,.inl ⟨rfl,rfl,rfl,rfl⟩,⟨[],[],rfl,.inl ⟨rfl,rfl,rfl,rfl⟩,⟨[],[],rfl,.inl ⟨rfl,rfl,rfl,rfl⟩,rfl⟩⟩⟩⟩⟩⟩⟩
structure dh where
  RB:Int
  parts:List bh
  deriving DecidableEq
instance:dp dh where
  ty:=40
  sz:=2
  zero:=⟨0,[]⟩
  zc:=[.int .i64 0,.slice none 0 0]
  pos:=by omega
  rd S w cs x:=∃(a1:Option Addr) (c1:Nat),cs=[.int .i64 x.RB,.slice a1 x.parts.length c1]/\dX S w a1 c1 x.parts
  own w cs F x:=∃(a1:Option Addr) (c1:Nat),cs=[.int .i64 x.RB,.slice a1 x.parts.length c1]/\eH [sl a1 c1 x.parts] w F
  iG:=by rintro _ _ _ _ ⟨a1,c1,rfl,_⟩;rfl
  eQ:=by rintro _ _ _ _ ⟨a1,c1,rfl,_⟩;rfl
  gW:=by rintro _ _ _ _ _ ⟨a1,c1,rfl,h1⟩ hk;exact⟨a1,c1,rfl,h1.iS hk⟩
  gV:=by rintro _ _ _ _ _ ⟨a1,c1,rfl,h1⟩ hk;exact⟨a1,c1,rfl,h1.mono hk⟩
  fN:=by rintro _ _ _ _ _ ⟨a1,c1,rfl,h⟩ hk;exact⟨a1,c1,rfl,h.frame hk⟩
  iQ:=by rintro _ _ _ _ _ ⟨a1,c1,rfl,h⟩ hk;exact⟨a1,c1,rfl,eH.ky h 0 rfl hk⟩
  gG:=by rintro _ _ _ _ ⟨a1,c1,rfl,_⟩;simp[Value.oneCell']
  fh _:=⟨none,0,rfl,⟨[],[],rfl,.inl ⟨rfl,rfl,rfl,rfl⟩,rfl⟩⟩
structure dN where
  Rn:bh
  me:Int
  RB:Int
  dS:Int
  deriving DecidableEq
structure dG where
  b:List U8
  i:Int
  h:Int
  deriving DecidableEq
structure fG where
  Rp:dV
  own:List Int
  Rr:Hd
  py:dm
  db:List ef
  RA:Int
  Rz:Int
  dc:de
  du:Int
  Rx:Int
instance:dp fG where
  ty:=54
  sz:=16
  zero:=⟨⟨[]⟩,[],⟨none,0,0⟩,⟨[],⟨0,0,0,[]⟩⟩,[],0,0,⟨0,0,0⟩,0,0⟩
  zc:=[.slice none 0 0,.slice none 0 0,.slice none 0 0,.slice none 0 0,.int .i64 0,.int .i64 0,.int .i64 0,.slice none 0 0,.slice none 0 0,.int .i64 0,.int .i64 0,.int .i64 0,.int .i64 0,.int .i64 0,.int .i64 0,.int .i64 0]
  pos:=by omega
  rd S w cs x:=∃(a0:Option Addr) (c0:Nat) (a1:Option Addr) (c1:Nat) (a3:Option Addr) (c3:Nat) (a7:Option Addr) (c7:Nat) (a8:Option Addr) (c8:Nat),cs=[.slice a0 x.Rp.Ro.length c0,.slice a1 x.own.length c1,.slice x.Rr.a x.Rr.n x.Rr.c,.slice a3 x.py.ag.length c3,.int .i64 x.py.gc.Ru,.int .i64 x.py.gc.RD,.int .i64 x.py.gc.Rv,.slice a7 x.py.gc.da.length c7,.slice a8 x.db.length c8,.int .i64 x.RA,.int .i64 x.Rz,.int .i64 x.dc.cd,.int .i64 x.dc.dg,.int .i64 x.dc.dn,.int .i64 x.du,.int .i64 x.Rx]/\dX S w a0 c0 x.Rp.Ro/\dX S w a1 c1 x.own/\dX S w a3 c3 x.py.ag/\dX S w a7 c7 x.py.gc.da/\dX S w a8 c8 x.db
  own w cs F x:=∃(a0:Option Addr) (c0:Nat) (a1:Option Addr) (c1:Nat) (a3:Option Addr) (c3:Nat) (a7:Option Addr) (c7:Nat) (a8:Option Addr) (c8:Nat),cs=[.slice a0 x.Rp.Ro.length c0,.slice a1 x.own.length c1,.slice x.Rr.a x.Rr.n x.Rr.c,.slice a3 x.py.ag.length c3,.int .i64 x.py.gc.Ru,.int .i64 x.py.gc.RD,.int .i64 x.py.gc.Rv,.slice a7 x.py.gc.da.length c7,.slice a8 x.db.length c8,.int .i64 x.RA,.int .i64 x.Rz,.int .i64 x.dc.cd,.int .i64 x.dc.dg,.int .i64 x.dc.dn,.int .i64 x.du,.int .i64 x.Rx]/\eH [sl a0 c0 x.Rp.Ro,sl a1 c1 x.own,sl a3 c3 x.py.ag,sl a7 c7 x.py.gc.da,sl a8 c8 x.db] w F
  iG:=by rintro _ _ _ _ ⟨a0,c0,a1,c1,a3,c3,a7,c7,a8,c8,rfl,_⟩;rfl
  eQ:=by rintro _ _ _ _ ⟨a0,c0,a1,c1,a3,c3,a7,c7,a8,c8,rfl,_⟩;rfl
  gW:=by rintro _ _ _ _ _ ⟨a0,c0,a1,c1,a3,c3,a7,c7,a8,c8,rfl,h0,h1,h3,h7,h8⟩ hk;exact⟨a0,c0,a1,c1,a3,c3,a7,c7,a8,c8,rfl,h0.iS hk,h1.iS hk,h3.iS hk,h7.iS hk,h8.iS hk⟩
  gV:=by rintro _ _ _ _ _ ⟨a0,c0,a1,c1,a3,c3,a7,c7,a8,c8,rfl,h0,h1,h3,h7,h8⟩ hk;exact⟨a0,c0,a1,c1,a3,c3,a7,c7,a8,c8,rfl,h0.mono hk,h1.mono hk,h3.mono hk,h7.mono hk,h8.mono hk⟩
  fN:=by rintro _ _ _ _ _ ⟨a0,c0,a1,c1,a3,c3,a7,c7,a8,c8,rfl,h⟩ hk;exact⟨a0,c0,a1,c1,a3,c3,a7,c7,a8,c8,rfl,h.frame hk⟩
  iQ:=by rintro _ _ _ _ _ ⟨a0,c0,a1,c1,a3,c3,a7,c7,a8,c8,rfl,h⟩ hk;exact⟨a0,c0,a1,c1,a3,c3,a7,c7,a8,c8,rfl,eH.ky h 0 rfl hk,eH.ky h 1 rfl hk,eH.ky h 2 rfl hk,eH.ky h 3 rfl hk,eH.ky h 4 rfl hk⟩
  gG:=by rintro _ _ _ _ ⟨a0,c0,a1,c1,a3,c3,a7,c7,a8,c8,rfl,_⟩;simp[Value.oneCell']
  fh _:=⟨none,0,none,0,none,0,none,0,none,0,rfl,⟨[],[],rfl,.inl ⟨rfl,rfl,rfl,rfl⟩,⟨[],[],rfl,.inl ⟨rfl,rfl,rfl,rfl⟩,⟨[],[],rfl,.inl ⟨rfl,rfl,rfl,rfl⟩,⟨[],[],rfl,.inl ⟨rfl,rfl,rfl,rfl⟩,⟨[],[],rfl,.inl ⟨rfl,rfl,rfl,rfl⟩,rfl⟩⟩⟩⟩⟩⟩
structure fY where
  RH:Hd
instance:dp fY where
  ty:=170
  sz:=1
  zero:=⟨⟨none,0,0⟩⟩
  zc:=[.slice none 0 0]
  pos:=by omega
  rd _ _ cs x:=cs=[.slice x.RH.a x.RH.n x.RH.c]
  own _ cs F x:=cs=[.slice x.RH.a x.RH.n x.RH.c]/\F=[]
  iG:=by rintro _ _ _ _ rfl;rfl
  eQ:=by rintro _ _ _ _ ⟨rfl,_⟩;rfl
  gW h _:=h
  gV h _:=h
  fN h _:=h
  iQ h _:=h.1
  gG:=by rintro _ _ _ _ ⟨rfl,_⟩;simp[Value.oneCell']
  fh _:=⟨rfl,rfl⟩
instance:Flat fY:=⟨fun h=>⟨h,rfl⟩⟩
structure oo where
  RG:Int
  Rq:Int
  box:Int
  RF:Int
  dY:Int
  cd:Int
  Ry:Int
  ee:Int
  ed:Int
  mark:Bool
  deriving DecidableEq
instance:dp oo where
  ty:=96
  sz:=13
  zero:=⟨0,0,0,0,0,0,0,0,0,false⟩
  zc:=[.int .i64 0,.int .i64 0,.int .i64 0,.int .i64 0,.int .i64 0,.int .i64 0,.int .i64 0,.int .i64 0,.int .i64 0,.bool false,.slice none 0 0,.slice none 0 0,.slice none 0 0]
  pos:=by omega
  rd _ _ cs x:=∃(a0:Option Addr) (n0 c0:Nat) (a1:Option Addr) (n1 c1:Nat) (a2:Option Addr) (n2 c2:Nat),cs=[.int .i64 x.RG,.int .i64 x.Rq,.int .i64 x.box,.int .i64 x.RF,.int .i64 x.dY,.int .i64 x.cd,.int .i64 x.Ry,.int .i64 x.ee,.int .i64 x.ed,.bool x.mark,.slice a0 n0 c0,.slice a1 n1 c1,.slice a2 n2 c2]
  own _ cs F x:=(∃(a0:Option Addr) (n0 c0:Nat) (a1:Option Addr) (n1 c1:Nat) (a2:Option Addr) (n2 c2:Nat),cs=[.int .i64 x.RG,.int .i64 x.Rq,.int .i64 x.box,.int .i64 x.RF,.int .i64 x.dY,.int .i64 x.cd,.int .i64 x.Ry,.int .i64 x.ee,.int .i64 x.ed,.bool x.mark,.slice a0 n0 c0,.slice a1 n1 c1,.slice a2 n2 c2])/\F=[]
  iG:=by rintro _ _ _ _ ⟨a0,n0,c0,a1,n1,c1,a2,n2,c2,rfl⟩;rfl
  eQ:=by rintro _ _ _ _ ⟨⟨a0,n0,c0,a1,n1,c1,a2,n2,c2,rfl⟩,_⟩;rfl
  gW h _:=h
  gV h _:=h
  fN h _:=h
  iQ h _:=h.1
  gG:=by rintro _ _ _ _ ⟨⟨a0,n0,c0,a1,n1,c1,a2,n2,c2,rfl⟩,_⟩;simp[Value.oneCell']
  fh _:=⟨⟨_,_,_,_,_,_,_,_,_,rfl⟩,rfl⟩
def fp(l:List bh):List (List dj):=l.map fun p=>p.Rr
def eN(l:List dJ):List (List dj):=l.map fun t=>t.RH
def ft(l:List bh):List dJ:=(fp l).map dJ.mk
def jV(p:bh)(t:List dj):bh:=bh.mk p.Rp p.own t p.py p.db p.RA p.Rz p.dc p.du p.Rx
def eW(l:List bh)(ts:List (List dj)):List bh:=List.zipWith jV l ts
def gd(b:Bool):Option Unit:=bif b then some ()else none
class Fit (α:Type) where
  fit:α->Prop
instance:Fit Int:=⟨fun x=>-9223372036854775808<=x/\x<=9223372036854775807⟩
instance:Fit Bool:=⟨fun _=>True⟩
instance:Fit U8:=⟨fun x=>0<=x.v/\x.v<=255⟩
instance {α:Type}[Fit α]:Fit (List α):=⟨fun l=>l.length<=maxLen/\∀y,y∈l->Fit.fit y⟩
instance:Fit de:=⟨fun x=>Fit.fit x.cd/\Fit.fit x.dg/\Fit.fit x.dn⟩
instance:Fit dD:=⟨fun x=>Fit.fit x.Rq/\Fit.fit x.a/\Fit.fit x.b/\Fit.fit x.c/\Fit.fit x.d/\Fit.fit x.e⟩
instance:Fit dQ:=⟨fun x=>Fit.fit x.Rq/\Fit.fit x.Rn/\Fit.fit x.dS/\Fit.fit x.call⟩
instance:Fit dt:=⟨fun x=>Fit.fit x.code/\Fit.fit x.RI⟩
instance:Fit dj:=⟨fun x=>Fit.fit x.RC/\Fit.fit x.RE/\Fit.fit x.dO⟩
instance:Fit ef:=⟨fun x=>Fit.fit x.RF/\Fit.fit x.eP/\Fit.fit x.mB/\Fit.fit x.gP/\Fit.fit x.Rq/\Fit.fit x.jx⟩
instance:Fit eL:=⟨fun x=>Fit.fit x.RJ/\Fit.fit x.n⟩
instance:Fit dV:=⟨fun x=>Fit.fit x.Ro⟩
instance:Fit dK:=⟨fun x=>Fit.fit x.Rp/\Fit.fit x.own/\Fit.fit x.eV⟩
instance:Fit dJ:=⟨fun x=>Fit.fit x.RH⟩
instance:Fit c6:=⟨fun x=>Fit.fit x.RG/\Fit.fit x.Rq/\Fit.fit x.box/\Fit.fit x.RF/\Fit.fit x.dY/\Fit.fit x.cd/\Fit.fit x.Ry/\Fit.fit x.ee/\Fit.fit x.ed/\Fit.fit x.mark/\Fit.fit x.dk/\Fit.fit x.Rw/\Fit.fit x.Rs⟩
instance:Fit eS:=⟨fun x=>Fit.fit x.Ru/\Fit.fit x.RD/\Fit.fit x.Rv/\Fit.fit x.da⟩
instance:Fit dm:=⟨fun x=>Fit.fit x.ag/\Fit.fit x.gc⟩
instance:Fit bh:=⟨fun x=>Fit.fit x.Rp/\Fit.fit x.own/\Fit.fit x.Rr/\Fit.fit x.py/\Fit.fit x.db/\Fit.fit x.RA/\Fit.fit x.Rz/\Fit.fit x.dc/\Fit.fit x.du/\Fit.fit x.Rx⟩
instance:Fit dh:=⟨fun x=>Fit.fit x.RB/\Fit.fit x.parts⟩
instance:Fit dN:=⟨fun x=>Fit.fit x.Rn/\Fit.fit x.me/\Fit.fit x.RB/\Fit.fit x.dS⟩
instance:Fit dG:=⟨fun x=>Fit.fit x.b/\Fit.fit x.i/\Fit.fit x.h⟩
end Go.Kx
