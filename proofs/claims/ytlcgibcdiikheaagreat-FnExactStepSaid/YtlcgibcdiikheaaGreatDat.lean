import Derived.Test.YtlcgibcdiikheaaGreatOpa
namespace Go.Kx
open Go Go.RowKit
set_option linter.unusedVariables false
set_option linter.unusedSimpArgs false
instance:qe Int where
  ty:=3
  sz:=1
  zero:=0
  zc:=[.int .i64 0]
  pos:=by omega
  rd _ _ cs x:=cs=[.int .i64 x]
  own _ cs F x:=cs=[.int .i64 x]∧F=[]
  tI:=by rintro _ _ _ _ rfl;rfl
  rn:=by rintro _ _ _ _ ⟨rfl,_⟩;rfl
  sR h _:=h
  sU h _:=h
  sb h _:=h
  tG h _:=h.1
  sI:=by rintro _ _ _ _ ⟨rfl,_⟩;simp [Value.oneCell']
  rH _:=⟨rfl,rfl⟩
instance:Flat Int:=⟨fun h=>⟨h,rfl⟩⟩
instance:qe Bool where
  ty:=4
  sz:=1
  zero:=false
  zc:=[.bool false]
  pos:=by omega
  rd _ _ cs x:=cs=[.bool x]
  own _ cs F x:=cs=[.bool x]∧F=[]
  tI:=by rintro _ _ _ _ rfl;rfl
  rn:=by rintro _ _ _ _ ⟨rfl,_⟩;rfl
  sR h _:=h
  sU h _:=h
  sb h _:=h
  tG h _:=h.1
  sI:=by rintro _ _ _ _ ⟨rfl,_⟩;simp [Value.oneCell']
  rH _:=⟨rfl,rfl⟩
instance:Flat Bool:=⟨fun h=>⟨h,rfl⟩⟩
abbrev Ui:=ByteArray
instance:qe Ui where
  ty:=9
  sz:=1
  zero:=⟨#[]⟩
  zc:=[.string ⟨#[]⟩]
  pos:=by omega
  rd _ _ cs x:=cs=[.string x]
  own _ cs F x:=cs=[.string x]∧F=[]
  tI:=by rintro _ _ _ _ rfl;rfl
  rn:=by rintro _ _ _ _ ⟨rfl,_⟩;rfl
  sR h _:=h
  sU h _:=h
  sb h _:=h
  tG h _:=h.1
  sI:=by rintro _ _ _ _ ⟨rfl,_⟩;simp [Value.oneCell']
  rH _:=⟨rfl,rfl⟩
instance:Flat Ui:=⟨fun h=>⟨h,rfl⟩⟩
structure U8 where
  v:Int
  deriving DecidableEq
instance:qe U8 where
  ty:=5
  sz:=1
  zero:=⟨0⟩
  zc:=[.int .u8 0]
  pos:=by omega
  rd _ _ cs x:=cs=[.int .u8 x.v]
  own _ cs F x:=cs=[.int .u8 x.v]∧F=[]
  tI:=by rintro _ _ _ _ rfl;rfl
  rn:=by rintro _ _ _ _ ⟨rfl,_⟩;rfl
  sR h _:=h
  sU h _:=h
  sb h _:=h
  tG h _:=h.1
  sI:=by rintro _ _ _ _ ⟨rfl,_⟩;simp [Value.oneCell']
  rH _:=⟨rfl,rfl⟩
instance:Flat U8:=⟨fun h=>⟨h,rfl⟩⟩
structure Hd where
  a:Option Addr
  n:Nat
  c:Nat
structure qj where
  gE:Int
  qa:Int
  qg:Int
  deriving DecidableEq
instance:qe qj where
  ty:=48
  sz:=3
  zero:=⟨0,0,0⟩
  zc:=[.int .i64 0,.int .i64 0,.int .i64 0]
  pos:=by omega
  rd _ _ cs x:=cs=[.int .i64 x.gE,.int .i64 x.qa,.int .i64 x.qg]
  own _ cs F x:=cs=[.int .i64 x.gE,.int .i64 x.qa,.int .i64 x.qg]∧F=[]
  tI:=by rintro _ _ _ _ rfl;rfl
  rn:=by rintro _ _ _ _ ⟨rfl,_⟩;rfl
  sR h _:=h
  sU h _:=h
  sb h _:=h
  tG h _:=h.1
  sI:=by rintro _ _ _ _ ⟨rfl,_⟩;simp [Value.oneCell']
  rH _:=⟨rfl,rfl⟩
instance:Flat qj:=⟨fun h=>⟨h,rfl⟩⟩
structure qD where
  Vc:Int
  a:Int
  b:Int
  c:Int
  d:Int
  e:Int
  deriving DecidableEq
instance:qe qD where
  ty:=28
  sz:=6
  zero:=⟨0,0,0,0,0,0⟩
  zc:=[.int .i64 0,.int .i64 0,.int .i64 0,.int .i64 0,.int .i64 0,.int .i64 0]
  pos:=by omega
  rd _ _ cs x:=cs=[.int .i64 x.Vc,.int .i64 x.a,.int .i64 x.b,.int .i64 x.c,.int .i64 x.d,.int .i64 x.e]
  own _ cs F x:=cs=[.int .i64 x.Vc,.int .i64 x.a,.int .i64 x.b,.int .i64 x.c,.int .i64 x.d,.int .i64 x.e]∧F=[]
  tI:=by rintro _ _ _ _ rfl;rfl
  rn:=by rintro _ _ _ _ ⟨rfl,_⟩;rfl
  sR h _:=h
  sU h _:=h
  sb h _:=h
  tG h _:=h.1
  sI:=by rintro _ _ _ _ ⟨rfl,_⟩;simp [Value.oneCell']
  rH _:=⟨rfl,rfl⟩
instance:Flat qD:=⟨fun h=>⟨h,rfl⟩⟩
structure ui where
  Vc:Int
  U9:Int
  qA:Int
  call:qD
  deriving DecidableEq
instance:qe ui where
  ty:=62
  sz:=9
  zero:=⟨0,0,0,⟨0,0,0,0,0,0⟩⟩
  zc:=[.int .i64 0,.int .i64 0,.int .i64 0,.int .i64 0,.int .i64 0,.int .i64 0,.int .i64 0,.int .i64 0,.int .i64 0]
  pos:=by omega
  rd _ _ cs x:=cs=[.int .i64 x.Vc,.int .i64 x.U9,.int .i64 x.qA,.int .i64 x.call.Vc,.int .i64 x.call.a,.int .i64 x.call.b,.int .i64 x.call.c,.int .i64 x.call.d,.int .i64 x.call.e]
  own _ cs F x:=cs=[.int .i64 x.Vc,.int .i64 x.U9,.int .i64 x.qA,.int .i64 x.call.Vc,.int .i64 x.call.a,.int .i64 x.call.b,.int .i64 x.call.c,.int .i64 x.call.d,.int .i64 x.call.e]∧F=[]
  tI:=by rintro _ _ _ _ rfl;rfl
  rn:=by rintro _ _ _ _ ⟨rfl,_⟩;rfl
  sR h _:=h
  sU h _:=h
  sb h _:=h
  tG h _:=h.1
  sI:=by rintro _ _ _ _ ⟨rfl,_⟩;simp [Value.oneCell']
  rH _:=⟨rfl,rfl⟩
instance:Flat ui:=⟨fun h=>⟨h,rfl⟩⟩
structure qo where
  code:Int
  Vv:Int
  deriving DecidableEq
instance:qe qo where
  ty:=32
  sz:=2
  zero:=⟨0,0⟩
  zc:=[.int .i64 0,.int .i64 0]
  pos:=by omega
  rd _ _ cs x:=cs=[.int .i64 x.code,.int .i64 x.Vv]
  own _ cs F x:=cs=[.int .i64 x.code,.int .i64 x.Vv]∧F=[]
  tI:=by rintro _ _ _ _ rfl;rfl
  rn:=by rintro _ _ _ _ ⟨rfl,_⟩;rfl
  sR h _:=h
  sU h _:=h
  sb h _:=h
  tG h _:=h.1
  sI:=by rintro _ _ _ _ ⟨rfl,_⟩;simp [Value.oneCell']
  rH _:=⟨rfl,rfl⟩
instance:Flat qo:=⟨fun h=>⟨h,rfl⟩⟩
structure qc where
  Vs:Bool
  Vq:Int
  qI:qj
  deriving DecidableEq
instance:qe qc where
  ty:=172
  sz:=5
  zero:=⟨false,0,⟨0,0,0⟩⟩
  zc:=[.bool false,.int .i64 0,.int .i64 0,.int .i64 0,.int .i64 0]
  pos:=by omega
  rd _ _ cs x:=cs=[.bool x.Vs,.int .i64 x.Vq,.int .i64 x.qI.gE,.int .i64 x.qI.qa,.int .i64 x.qI.qg]
  own _ cs F x:=cs=[.bool x.Vs,.int .i64 x.Vq,.int .i64 x.qI.gE,.int .i64 x.qI.qa,.int .i64 x.qI.qg]∧F=[]
  tI:=by rintro _ _ _ _ rfl;rfl
  rn:=by rintro _ _ _ _ ⟨rfl,_⟩;rfl
  sR h _:=h
  sU h _:=h
  sb h _:=h
  tG h _:=h.1
  sI:=by rintro _ _ _ _ ⟨rfl,_⟩;simp [Value.oneCell']
  rH _:=⟨rfl,rfl⟩
instance:Flat qc:=⟨fun h=>⟨h,rfl⟩⟩
structure qB where
  Vp:Int
  rJ:Int
  sX:Int
  sc:Int
  Vc:Int
  sq:Int
  deriving DecidableEq
instance:qe qB where
  ty:=174
  sz:=6
  zero:=⟨0,0,0,0,0,0⟩
  zc:=[.int .i64 0,.int .i64 0,.int .i64 0,.int .i64 0,.int .i64 0,.int .i64 0]
  pos:=by omega
  rd _ _ cs x:=cs=[.int .i64 x.Vp,.int .i64 x.rJ,.int .i64 x.sX,.int .i64 x.sc,.int .i64 x.Vc,.int .i64 x.sq]
  own _ cs F x:=cs=[.int .i64 x.Vp,.int .i64 x.rJ,.int .i64 x.sX,.int .i64 x.sc,.int .i64 x.Vc,.int .i64 x.sq]∧F=[]
  tI:=by rintro _ _ _ _ rfl;rfl
  rn:=by rintro _ _ _ _ ⟨rfl,_⟩;rfl
  sR h _:=h
  sU h _:=h
  sb h _:=h
  tG h _:=h.1
  sI:=by rintro _ _ _ _ ⟨rfl,_⟩;simp [Value.oneCell']
  rH _:=⟨rfl,rfl⟩
instance:Flat qB:=⟨fun h=>⟨h,rfl⟩⟩
structure qM where
  Vu:Int
  n:Int
  deriving DecidableEq
instance:qe qM where
  ty:=193
  sz:=2
  zero:=⟨0,0⟩
  zc:=[.int .i64 0,.int .i64 0]
  pos:=by omega
  rd _ _ cs x:=cs=[.int .i64 x.Vu,.int .i64 x.n]
  own _ cs F x:=cs=[.int .i64 x.Vu,.int .i64 x.n]∧F=[]
  tI:=by rintro _ _ _ _ rfl;rfl
  rn:=by rintro _ _ _ _ ⟨rfl,_⟩;rfl
  sR h _:=h
  sU h _:=h
  sb h _:=h
  tG h _:=h.1
  sI:=by rintro _ _ _ _ ⟨rfl,_⟩;simp [Value.oneCell']
  rH _:=⟨rfl,rfl⟩
instance:Flat qM:=⟨fun h=>⟨h,rfl⟩⟩
structure rA where
  Va:List Int
  deriving DecidableEq
instance:qe rA where
  ty:=39
  sz:=1
  zero:=⟨[]⟩
  zc:=[.slice none 0 0]
  pos:=by omega
  rd S w cs x:=∃ (a0:Option Addr) (c0:Nat),cs=[.slice a0 x.Va.length c0]∧ra S w a0 c0 x.Va
  own w cs F x:=∃ (a0:Option Addr) (c0:Nat),cs=[.slice a0 x.Va.length c0]∧qX [sl a0 c0 x.Va] w F
  tI:=by rintro _ _ _ _ ⟨a0,c0,rfl,_⟩;rfl
  rn:=by rintro _ _ _ _ ⟨a0,c0,rfl,_⟩;rfl
  sR:=by rintro _ _ _ _ _ ⟨a0,c0,rfl,h0⟩ hk;exact ⟨a0,c0,rfl,h0.vv hk⟩
  sU:=by rintro _ _ _ _ _ ⟨a0,c0,rfl,h0⟩ hk;exact ⟨a0,c0,rfl,h0.mono hk⟩
  sb:=by rintro _ _ _ _ _ ⟨a0,c0,rfl,h⟩ hk;exact ⟨a0,c0,rfl,h.frame hk⟩
  tG:=by rintro _ _ _ _ _ ⟨a0,c0,rfl,h⟩ hk;exact ⟨a0,c0,rfl,qX.vm h 0 rfl hk⟩
  sI:=by rintro _ _ _ _ ⟨a0,c0,rfl,_⟩;simp [Value.oneCell']
  rH _:=⟨none,0,rfl,⟨[],[],rfl,.inl ⟨rfl,rfl,rfl,rfl⟩,rfl⟩⟩
structure qF where
  Vt:List qc
  deriving DecidableEq
instance:qe qF where
  ty:=228
  sz:=1
  zero:=⟨[]⟩
  zc:=[.slice none 0 0]
  pos:=by omega
  rd S w cs x:=∃ (a0:Option Addr) (c0:Nat),cs=[.slice a0 x.Vt.length c0]∧ra S w a0 c0 x.Vt
  own w cs F x:=∃ (a0:Option Addr) (c0:Nat),cs=[.slice a0 x.Vt.length c0]∧qX [sl a0 c0 x.Vt] w F
  tI:=by rintro _ _ _ _ ⟨a0,c0,rfl,_⟩;rfl
  rn:=by rintro _ _ _ _ ⟨a0,c0,rfl,_⟩;rfl
  sR:=by rintro _ _ _ _ _ ⟨a0,c0,rfl,h0⟩ hk;exact ⟨a0,c0,rfl,h0.vv hk⟩
  sU:=by rintro _ _ _ _ _ ⟨a0,c0,rfl,h0⟩ hk;exact ⟨a0,c0,rfl,h0.mono hk⟩
  sb:=by rintro _ _ _ _ _ ⟨a0,c0,rfl,h⟩ hk;exact ⟨a0,c0,rfl,h.frame hk⟩
  tG:=by rintro _ _ _ _ _ ⟨a0,c0,rfl,h⟩ hk;exact ⟨a0,c0,rfl,qX.vm h 0 rfl hk⟩
  sI:=by rintro _ _ _ _ ⟨a0,c0,rfl,_⟩;simp [Value.oneCell']
  rH _:=⟨none,0,rfl,⟨[],[],rfl,.inl ⟨rfl,rfl,rfl,rfl⟩,rfl⟩⟩
structure j8 where
  Vr:Int
  Vc:Int
  box:Int
  Vp:Int
  qx:Int
  gE:Int
  Vl:Int
  qw:Int
  qq:Int
  Vm:Bool
  pX:List Int
  Vh:List Int
  Vf:List qM
  deriving DecidableEq
instance:qe j8 where
  ty:=101
  sz:=13
  zero:=⟨0,0,0,0,0,0,0,0,0,false,[],[],[]⟩
  zc:=[.int .i64 0,.int .i64 0,.int .i64 0,.int .i64 0,.int .i64 0,.int .i64 0,.int .i64 0,.int .i64 0,.int .i64 0,.bool false,.slice none 0 0,.slice none 0 0,.slice none 0 0]
  pos:=by omega
  rd S w cs x:=∃ (a10:Option Addr) (c10:Nat) (a11:Option Addr) (c11:Nat) (a12:Option Addr) (c12:Nat),cs=[.int .i64 x.Vr,.int .i64 x.Vc,.int .i64 x.box,.int .i64 x.Vp,.int .i64 x.qx,.int .i64 x.gE,.int .i64 x.Vl,.int .i64 x.qw,.int .i64 x.qq,.bool x.Vm,.slice a10 x.pX.length c10,.slice a11 x.Vh.length c11,.slice a12 x.Vf.length c12]∧ra S w a10 c10 x.pX∧ra S w a11 c11 x.Vh∧ra S w a12 c12 x.Vf
  own w cs F x:=∃ (a10:Option Addr) (c10:Nat) (a11:Option Addr) (c11:Nat) (a12:Option Addr) (c12:Nat),cs=[.int .i64 x.Vr,.int .i64 x.Vc,.int .i64 x.box,.int .i64 x.Vp,.int .i64 x.qx,.int .i64 x.gE,.int .i64 x.Vl,.int .i64 x.qw,.int .i64 x.qq,.bool x.Vm,.slice a10 x.pX.length c10,.slice a11 x.Vh.length c11,.slice a12 x.Vf.length c12]∧qX [sl a10 c10 x.pX,sl a11 c11 x.Vh,sl a12 c12 x.Vf] w F
  tI:=by rintro _ _ _ _ ⟨a10,c10,a11,c11,a12,c12,rfl,_⟩;rfl
  rn:=by rintro _ _ _ _ ⟨a10,c10,a11,c11,a12,c12,rfl,_⟩;rfl
  sR:=by rintro _ _ _ _ _ ⟨a10,c10,a11,c11,a12,c12,rfl,h10,h11,h12⟩ hk;exact ⟨a10,c10,a11,c11,a12,c12,rfl,h10.vv hk,h11.vv hk,h12.vv hk⟩
  sU:=by rintro _ _ _ _ _ ⟨a10,c10,a11,c11,a12,c12,rfl,h10,h11,h12⟩ hk;exact ⟨a10,c10,a11,c11,a12,c12,rfl,h10.mono hk,h11.mono hk,h12.mono hk⟩
  sb:=by rintro _ _ _ _ _ ⟨a10,c10,a11,c11,a12,c12,rfl,h⟩ hk;exact ⟨a10,c10,a11,c11,a12,c12,rfl,h.frame hk⟩
  tG:=by rintro _ _ _ _ _ ⟨a10,c10,a11,c11,a12,c12,rfl,h⟩ hk;exact ⟨a10,c10,a11,c11,a12,c12,rfl,qX.vm h 0 rfl hk,qX.vm h 1 rfl hk,qX.vm h 2 rfl hk⟩
  sI:=by rintro _ _ _ _ ⟨a10,c10,a11,c11,a12,c12,rfl,_⟩;simp [Value.oneCell']
  rH _:=⟨none,0,none,0,none,0,rfl,⟨[],[],rfl,.inl ⟨rfl,rfl,rfl,rfl⟩,⟨[],[],rfl,.inl ⟨rfl,rfl,rfl,rfl⟩,⟨[],[],rfl,.inl ⟨rfl,rfl,rfl,rfl⟩,rfl⟩⟩⟩⟩
structure rl where
  Ve:Int
  Vn:Int
  Vg:Int
  pT:List Int
  deriving DecidableEq
instance:qe rl where
  ty:=43
  sz:=4
  zero:=⟨0,0,0,[]⟩
  zc:=[.int .i64 0,.int .i64 0,.int .i64 0,.slice none 0 0]
  pos:=by omega
  rd S w cs x:=∃ (a3:Option Addr) (c3:Nat),cs=[.int .i64 x.Ve,.int .i64 x.Vn,.int .i64 x.Vg,.slice a3 x.pT.length c3]∧ra S w a3 c3 x.pT
  own w cs F x:=∃ (a3:Option Addr) (c3:Nat),cs=[.int .i64 x.Ve,.int .i64 x.Vn,.int .i64 x.Vg,.slice a3 x.pT.length c3]∧qX [sl a3 c3 x.pT] w F
  tI:=by rintro _ _ _ _ ⟨a3,c3,rfl,_⟩;rfl
  rn:=by rintro _ _ _ _ ⟨a3,c3,rfl,_⟩;rfl
  sR:=by rintro _ _ _ _ _ ⟨a3,c3,rfl,h3⟩ hk;exact ⟨a3,c3,rfl,h3.vv hk⟩
  sU:=by rintro _ _ _ _ _ ⟨a3,c3,rfl,h3⟩ hk;exact ⟨a3,c3,rfl,h3.mono hk⟩
  sb:=by rintro _ _ _ _ _ ⟨a3,c3,rfl,h⟩ hk;exact ⟨a3,c3,rfl,h.frame hk⟩
  tG:=by rintro _ _ _ _ _ ⟨a3,c3,rfl,h⟩ hk;exact ⟨a3,c3,rfl,qX.vm h 0 rfl hk⟩
  sI:=by rintro _ _ _ _ ⟨a3,c3,rfl,_⟩;simp [Value.oneCell']
  rH _:=⟨none,0,rfl,⟨[],[],rfl,.inl ⟨rfl,rfl,rfl,rfl⟩,rfl⟩⟩
structure qd where
  ag:List j8
  gc:rl
  deriving DecidableEq
instance:qe qd where
  ty:=45
  sz:=5
  zero:=⟨[],⟨0,0,0,[]⟩⟩
  zc:=[.slice none 0 0,.int .i64 0,.int .i64 0,.int .i64 0,.slice none 0 0]
  pos:=by omega
  rd S w cs x:=∃ (a0:Option Addr) (c0:Nat) (a4:Option Addr) (c4:Nat),cs=[.slice a0 x.ag.length c0,.int .i64 x.gc.Ve,.int .i64 x.gc.Vn,.int .i64 x.gc.Vg,.slice a4 x.gc.pT.length c4]∧ra S w a0 c0 x.ag∧ra S w a4 c4 x.gc.pT
  own w cs F x:=∃ (a0:Option Addr) (c0:Nat) (a4:Option Addr) (c4:Nat),cs=[.slice a0 x.ag.length c0,.int .i64 x.gc.Ve,.int .i64 x.gc.Vn,.int .i64 x.gc.Vg,.slice a4 x.gc.pT.length c4]∧qX [sl a0 c0 x.ag,sl a4 c4 x.gc.pT] w F
  tI:=by rintro _ _ _ _ ⟨a0,c0,a4,c4,rfl,_⟩;rfl
  rn:=by rintro _ _ _ _ ⟨a0,c0,a4,c4,rfl,_⟩;rfl
  sR:=by rintro _ _ _ _ _ ⟨a0,c0,a4,c4,rfl,h0,h4⟩ hk;exact ⟨a0,c0,a4,c4,rfl,h0.vv hk,h4.vv hk⟩
  sU:=by rintro _ _ _ _ _ ⟨a0,c0,a4,c4,rfl,h0,h4⟩ hk;exact ⟨a0,c0,a4,c4,rfl,h0.mono hk,h4.mono hk⟩
  sb:=by rintro _ _ _ _ _ ⟨a0,c0,a4,c4,rfl,h⟩ hk;exact ⟨a0,c0,a4,c4,rfl,h.frame hk⟩
  tG:=by rintro _ _ _ _ _ ⟨a0,c0,a4,c4,rfl,h⟩ hk;exact ⟨a0,c0,a4,c4,rfl,qX.vm h 0 rfl hk,qX.vm h 1 rfl hk⟩
  sI:=by rintro _ _ _ _ ⟨a0,c0,a4,c4,rfl,_⟩;simp [Value.oneCell']
  rH _:=⟨none,0,none,0,rfl,⟨[],[],rfl,.inl ⟨rfl,rfl,rfl,rfl⟩,⟨[],[],rfl,.inl ⟨rfl,rfl,rfl,rfl⟩,rfl⟩⟩⟩
structure cd where
  Vb:rA
  own:List Int
  Vd:List qc
  U7:qd
  pU:List qB
  Vj:Int
  Vk:Int
  bh:qj
  pZ:Int
  Vi:Int
  deriving DecidableEq
instance:qe cd where
  ty:=50
  sz:=16
  zero:=⟨⟨[]⟩,[],[],⟨[],⟨0,0,0,[]⟩⟩,[],0,0,⟨0,0,0⟩,0,0⟩
  zc:=[.slice none 0 0,.slice none 0 0,.slice none 0 0,.slice none 0 0,.int .i64 0,.int .i64 0,.int .i64 0,.slice none 0 0,.slice none 0 0,.int .i64 0,.int .i64 0,.int .i64 0,.int .i64 0,.int .i64 0,.int .i64 0,.int .i64 0]
  pos:=by omega
  rd S w cs x:=∃ (a0:Option Addr) (c0:Nat) (a1:Option Addr) (c1:Nat) (a2:Option Addr) (c2:Nat) (a3:Option Addr) (c3:Nat) (a7:Option Addr) (c7:Nat) (a8:Option Addr) (c8:Nat),cs=[.slice a0 x.Vb.Va.length c0,.slice a1 x.own.length c1,.slice a2 x.Vd.length c2,.slice a3 x.U7.ag.length c3,.int .i64 x.U7.gc.Ve,.int .i64 x.U7.gc.Vn,.int .i64 x.U7.gc.Vg,.slice a7 x.U7.gc.pT.length c7,.slice a8 x.pU.length c8,.int .i64 x.Vj,.int .i64 x.Vk,.int .i64 x.bh.gE,.int .i64 x.bh.qa,.int .i64 x.bh.qg,.int .i64 x.pZ,.int .i64 x.Vi]∧ra S w a0 c0 x.Vb.Va∧ra S w a1 c1 x.own∧ra S w a2 c2 x.Vd∧ra S w a3 c3 x.U7.ag∧ra S w a7 c7 x.U7.gc.pT∧ra S w a8 c8 x.pU
  own w cs F x:=∃ (a0:Option Addr) (c0:Nat) (a1:Option Addr) (c1:Nat) (a2:Option Addr) (c2:Nat) (a3:Option Addr) (c3:Nat) (a7:Option Addr) (c7:Nat) (a8:Option Addr) (c8:Nat),cs=[.slice a0 x.Vb.Va.length c0,.slice a1 x.own.length c1,.slice a2 x.Vd.length c2,.slice a3 x.U7.ag.length c3,.int .i64 x.U7.gc.Ve,.int .i64 x.U7.gc.Vn,.int .i64 x.U7.gc.Vg,.slice a7 x.U7.gc.pT.length c7,.slice a8 x.pU.length c8,.int .i64 x.Vj,.int .i64 x.Vk,.int .i64 x.bh.gE,.int .i64 x.bh.qa,.int .i64 x.bh.qg,.int .i64 x.pZ,.int .i64 x.Vi]∧qX [sl a0 c0 x.Vb.Va,sl a1 c1 x.own,sl a2 c2 x.Vd,sl a3 c3 x.U7.ag,sl a7 c7 x.U7.gc.pT,sl a8 c8 x.pU] w F
  tI:=by rintro _ _ _ _ ⟨a0,c0,a1,c1,a2,c2,a3,c3,a7,c7,a8,c8,rfl,_⟩;rfl
  rn:=by rintro _ _ _ _ ⟨a0,c0,a1,c1,a2,c2,a3,c3,a7,c7,a8,c8,rfl,_⟩;rfl
  sR:=by rintro _ _ _ _ _ ⟨a0,c0,a1,c1,a2,c2,a3,c3,a7,c7,a8,c8,rfl,h0,h1,h2,h3,h7,h8⟩ hk;exact ⟨a0,c0,a1,c1,a2,c2,a3,c3,a7,c7,a8,c8,rfl,h0.vv hk,h1.vv hk,h2.vv hk,h3.vv hk,h7.vv hk,h8.vv hk⟩
  sU:=by rintro _ _ _ _ _ ⟨a0,c0,a1,c1,a2,c2,a3,c3,a7,c7,a8,c8,rfl,h0,h1,h2,h3,h7,h8⟩ hk;exact ⟨a0,c0,a1,c1,a2,c2,a3,c3,a7,c7,a8,c8,rfl,h0.mono hk,h1.mono hk,h2.mono hk,h3.mono hk,h7.mono hk,h8.mono hk⟩
  sb:=by rintro _ _ _ _ _ ⟨a0,c0,a1,c1,a2,c2,a3,c3,a7,c7,a8,c8,rfl,h⟩ hk;exact ⟨a0,c0,a1,c1,a2,c2,a3,c3,a7,c7,a8,c8,rfl,h.frame hk⟩
  tG:=by rintro _ _ _ _ _ ⟨a0,c0,a1,c1,a2,c2,a3,c3,a7,c7,a8,c8,rfl,h⟩ hk;exact ⟨a0,c0,a1,c1,a2,c2,a3,c3,a7,c7,a8,c8,rfl,qX.vm h 0 rfl hk,qX.vm h 1 rfl hk,qX.vm h 2 rfl hk,qX.vm h 3 rfl hk,qX.vm h 4 rfl hk,qX.vm h 5 rfl hk⟩
  sI:=by rintro _ _ _ _ ⟨a0,c0,a1,c1,a2,c2,a3,c3,a7,c7,a8,c8,rfl,_⟩;simp [Value.oneCell']
  rH _:=⟨none,0,none,0,none,0,none,0,none,0,none,0,rfl,⟨[],[],rfl,.inl ⟨rfl,rfl,rfl,rfl⟩,⟨[],[],rfl,.inl ⟨rfl,rfl,rfl,rfl⟩,⟨[],[],rfl,.inl ⟨rfl,rfl,rfl,rfl⟩,⟨[],[],rfl,.inl ⟨rfl,rfl,rfl,rfl⟩,⟨[],[],rfl,.inl ⟨rfl,rfl,rfl,rfl⟩,⟨[],[],rfl,.inl ⟨rfl,rfl,rfl,rfl⟩,rfl⟩⟩⟩⟩⟩⟩⟩
structure qi where
  Vo:Int
  parts:List cd
  deriving DecidableEq
instance:qe qi where
  ty:=26
  sz:=2
  zero:=⟨0,[]⟩
  zc:=[.int .i64 0,.slice none 0 0]
  pos:=by omega
  rd S w cs x:=∃ (a1:Option Addr) (c1:Nat),cs=[.int .i64 x.Vo,.slice a1 x.parts.length c1]∧ra S w a1 c1 x.parts
  own w cs F x:=∃ (a1:Option Addr) (c1:Nat),cs=[.int .i64 x.Vo,.slice a1 x.parts.length c1]∧qX [sl a1 c1 x.parts] w F
  tI:=by rintro _ _ _ _ ⟨a1,c1,rfl,_⟩;rfl
  rn:=by rintro _ _ _ _ ⟨a1,c1,rfl,_⟩;rfl
  sR:=by rintro _ _ _ _ _ ⟨a1,c1,rfl,h1⟩ hk;exact ⟨a1,c1,rfl,h1.vv hk⟩
  sU:=by rintro _ _ _ _ _ ⟨a1,c1,rfl,h1⟩ hk;exact ⟨a1,c1,rfl,h1.mono hk⟩
  sb:=by rintro _ _ _ _ _ ⟨a1,c1,rfl,h⟩ hk;exact ⟨a1,c1,rfl,h.frame hk⟩
  tG:=by rintro _ _ _ _ _ ⟨a1,c1,rfl,h⟩ hk;exact ⟨a1,c1,rfl,qX.vm h 0 rfl hk⟩
  sI:=by rintro _ _ _ _ ⟨a1,c1,rfl,_⟩;simp [Value.oneCell']
  rH _:=⟨none,0,rfl,⟨[],[],rfl,.inl ⟨rfl,rfl,rfl,rfl⟩,rfl⟩⟩
structure qu where
  U9:cd
  me:Int
  Vo:Int
  qA:Int
  deriving DecidableEq
structure rW where
  Vb:rA
  own:List Int
  Vd:Hd
  U7:qd
  pU:List qB
  Vj:Int
  Vk:Int
  bh:qj
  pZ:Int
  Vi:Int
instance:qe rW where
  ty:=50
  sz:=16
  zero:=⟨⟨[]⟩,[],⟨none,0,0⟩,⟨[],⟨0,0,0,[]⟩⟩,[],0,0,⟨0,0,0⟩,0,0⟩
  zc:=[.slice none 0 0,.slice none 0 0,.slice none 0 0,.slice none 0 0,.int .i64 0,.int .i64 0,.int .i64 0,.slice none 0 0,.slice none 0 0,.int .i64 0,.int .i64 0,.int .i64 0,.int .i64 0,.int .i64 0,.int .i64 0,.int .i64 0]
  pos:=by omega
  rd S w cs x:=∃ (a0:Option Addr) (c0:Nat) (a1:Option Addr) (c1:Nat) (a3:Option Addr) (c3:Nat) (a7:Option Addr) (c7:Nat) (a8:Option Addr) (c8:Nat),cs=[.slice a0 x.Vb.Va.length c0,.slice a1 x.own.length c1,.slice x.Vd.a x.Vd.n x.Vd.c,.slice a3 x.U7.ag.length c3,.int .i64 x.U7.gc.Ve,.int .i64 x.U7.gc.Vn,.int .i64 x.U7.gc.Vg,.slice a7 x.U7.gc.pT.length c7,.slice a8 x.pU.length c8,.int .i64 x.Vj,.int .i64 x.Vk,.int .i64 x.bh.gE,.int .i64 x.bh.qa,.int .i64 x.bh.qg,.int .i64 x.pZ,.int .i64 x.Vi]∧ra S w a0 c0 x.Vb.Va∧ra S w a1 c1 x.own∧ra S w a3 c3 x.U7.ag∧ra S w a7 c7 x.U7.gc.pT∧ra S w a8 c8 x.pU
  own w cs F x:=∃ (a0:Option Addr) (c0:Nat) (a1:Option Addr) (c1:Nat) (a3:Option Addr) (c3:Nat) (a7:Option Addr) (c7:Nat) (a8:Option Addr) (c8:Nat),cs=[.slice a0 x.Vb.Va.length c0,.slice a1 x.own.length c1,.slice x.Vd.a x.Vd.n x.Vd.c,.slice a3 x.U7.ag.length c3,.int .i64 x.U7.gc.Ve,.int .i64 x.U7.gc.Vn,.int .i64 x.U7.gc.Vg,.slice a7 x.U7.gc.pT.length c7,.slice a8 x.pU.length c8,.int .i64 x.Vj,.int .i64 x.Vk,.int .i64 x.bh.gE,.int .i64 x.bh.qa,.int .i64 x.bh.qg,.int .i64 x.pZ,.int .i64 x.Vi]∧qX [sl a0 c0 x.Vb.Va,sl a1 c1 x.own,sl a3 c3 x.U7.ag,sl a7 c7 x.U7.gc.pT,sl a8 c8 x.pU] w F
  tI:=by rintro _ _ _ _ ⟨a0,c0,a1,c1,a3,c3,a7,c7,a8,c8,rfl,_⟩;rfl
  rn:=by rintro _ _ _ _ ⟨a0,c0,a1,c1,a3,c3,a7,c7,a8,c8,rfl,_⟩;rfl
  sR:=by rintro _ _ _ _ _ ⟨a0,c0,a1,c1,a3,c3,a7,c7,a8,c8,rfl,h0,h1,h3,h7,h8⟩ hk;exact ⟨a0,c0,a1,c1,a3,c3,a7,c7,a8,c8,rfl,h0.vv hk,h1.vv hk,h3.vv hk,h7.vv hk,h8.vv hk⟩
  sU:=by rintro _ _ _ _ _ ⟨a0,c0,a1,c1,a3,c3,a7,c7,a8,c8,rfl,h0,h1,h3,h7,h8⟩ hk;exact ⟨a0,c0,a1,c1,a3,c3,a7,c7,a8,c8,rfl,h0.mono hk,h1.mono hk,h3.mono hk,h7.mono hk,h8.mono hk⟩
  sb:=by rintro _ _ _ _ _ ⟨a0,c0,a1,c1,a3,c3,a7,c7,a8,c8,rfl,h⟩ hk;exact ⟨a0,c0,a1,c1,a3,c3,a7,c7,a8,c8,rfl,h.frame hk⟩
  tG:=by rintro _ _ _ _ _ ⟨a0,c0,a1,c1,a3,c3,a7,c7,a8,c8,rfl,h⟩ hk;exact ⟨a0,c0,a1,c1,a3,c3,a7,c7,a8,c8,rfl,qX.vm h 0 rfl hk,qX.vm h 1 rfl hk,qX.vm h 2 rfl hk,qX.vm h 3 rfl hk,qX.vm h 4 rfl hk⟩
  sI:=by rintro _ _ _ _ ⟨a0,c0,a1,c1,a3,c3,a7,c7,a8,c8,rfl,_⟩;simp [Value.oneCell']
  rH _:=⟨none,0,none,0,none,0,none,0,none,0,rfl,⟨[],[],rfl,.inl ⟨rfl,rfl,rfl,rfl⟩,⟨[],[],rfl,.inl ⟨rfl,rfl,rfl,rfl⟩,⟨[],[],rfl,.inl ⟨rfl,rfl,rfl,rfl⟩,⟨[],[],rfl,.inl ⟨rfl,rfl,rfl,rfl⟩,⟨[],[],rfl,.inl ⟨rfl,rfl,rfl,rfl⟩,rfl⟩⟩⟩⟩⟩⟩
structure sd where
  Vt:Hd
instance:qe sd where
  ty:=228
  sz:=1
  zero:=⟨⟨none,0,0⟩⟩
  zc:=[.slice none 0 0]
  pos:=by omega
  rd _ _ cs x:=cs=[.slice x.Vt.a x.Vt.n x.Vt.c]
  own _ cs F x:=cs=[.slice x.Vt.a x.Vt.n x.Vt.c]∧F=[]
  tI:=by rintro _ _ _ _ rfl;rfl
  rn:=by rintro _ _ _ _ ⟨rfl,_⟩;rfl
  sR h _:=h
  sU h _:=h
  sb h _:=h
  tG h _:=h.1
  sI:=by rintro _ _ _ _ ⟨rfl,_⟩;simp [Value.oneCell']
  rH _:=⟨rfl,rfl⟩
instance:Flat sd:=⟨fun h=>⟨h,rfl⟩⟩
structure xM where
  Vr:Int
  Vc:Int
  box:Int
  Vp:Int
  qx:Int
  gE:Int
  Vl:Int
  qw:Int
  qq:Int
  Vm:Bool
  deriving DecidableEq
instance:qe xM where
  ty:=101
  sz:=13
  zero:=⟨0,0,0,0,0,0,0,0,0,false⟩
  zc:=[.int .i64 0,.int .i64 0,.int .i64 0,.int .i64 0,.int .i64 0,.int .i64 0,.int .i64 0,.int .i64 0,.int .i64 0,.bool false,.slice none 0 0,.slice none 0 0,.slice none 0 0]
  pos:=by omega
  rd _ _ cs x:=∃ (a0:Option Addr) (n0 c0:Nat) (a1:Option Addr) (n1 c1:Nat) (a2:Option Addr) (n2 c2:Nat),cs=[.int .i64 x.Vr,.int .i64 x.Vc,.int .i64 x.box,.int .i64 x.Vp,.int .i64 x.qx,.int .i64 x.gE,.int .i64 x.Vl,.int .i64 x.qw,.int .i64 x.qq,.bool x.Vm,.slice a0 n0 c0,.slice a1 n1 c1,.slice a2 n2 c2]
  own _ cs F x:=(∃ (a0:Option Addr) (n0 c0:Nat) (a1:Option Addr) (n1 c1:Nat) (a2:Option Addr) (n2 c2:Nat),cs=[.int .i64 x.Vr,.int .i64 x.Vc,.int .i64 x.box,.int .i64 x.Vp,.int .i64 x.qx,.int .i64 x.gE,.int .i64 x.Vl,.int .i64 x.qw,.int .i64 x.qq,.bool x.Vm,.slice a0 n0 c0,.slice a1 n1 c1,.slice a2 n2 c2])∧F=[]
  tI:=by rintro _ _ _ _ ⟨a0,n0,c0,a1,n1,c1,a2,n2,c2,rfl⟩;rfl
  rn:=by rintro _ _ _ _ ⟨⟨a0,n0,c0,a1,n1,c1,a2,n2,c2,rfl⟩,_⟩;rfl
  sR h _:=h
  sU h _:=h
  sb h _:=h
  tG h _:=h.1
  sI:=by rintro _ _ _ _ ⟨⟨a0,n0,c0,a1,n1,c1,a2,n2,c2,rfl⟩,_⟩;simp [Value.oneCell']
  rH _:=⟨⟨_,_,_,_,_,_,_,_,_,rfl⟩,rfl⟩
def tj (l:List cd):List (List qc):=l.map fun p=>p.Vd
def tS (l:List qF):List (List qc):=l.map fun t=>t.Vt
def sQ (l:List cd):List qF:=(tj l).map qF.mk
def Aw (p:cd) (t:List qc):cd:=cd.mk p.Vb p.own t p.U7 p.pU p.Vj p.Vk p.bh p.pZ p.Vi
def sO (l:List cd) (ts:List (List qc)):List cd:=List.zipWith Aw l ts
def gd (b:Bool):Option Unit:=bif b then some () else none
class Fit (α:Type) where
  fit:α→Prop
instance:Fit Int:=⟨fun x=>-9223372036854775808≤x∧x≤9223372036854775807⟩
instance:Fit Bool:=⟨fun _=>True⟩
instance:Fit U8:=⟨fun x=>0≤x.v∧x.v≤255⟩
instance {α:Type} [Fit α]:Fit (List α):=⟨fun l=>l.length≤maxLen∧∀ y,y ∈ l→Fit.fit y⟩
instance:Fit qj:=⟨fun x=>Fit.fit x.gE∧Fit.fit x.qa∧Fit.fit x.qg⟩
instance:Fit qD:=⟨fun x=>Fit.fit x.Vc∧Fit.fit x.a∧Fit.fit x.b∧Fit.fit x.c∧Fit.fit x.d∧Fit.fit x.e⟩
instance:Fit ui:=⟨fun x=>Fit.fit x.Vc∧Fit.fit x.U9∧Fit.fit x.qA∧Fit.fit x.call⟩
instance:Fit qo:=⟨fun x=>Fit.fit x.code∧Fit.fit x.Vv⟩
instance:Fit qc:=⟨fun x=>Fit.fit x.Vs∧Fit.fit x.Vq∧Fit.fit x.qI⟩
instance:Fit qB:=⟨fun x=>Fit.fit x.Vp∧Fit.fit x.rJ∧Fit.fit x.sX∧Fit.fit x.sc∧Fit.fit x.Vc∧Fit.fit x.sq⟩
instance:Fit qM:=⟨fun x=>Fit.fit x.Vu∧Fit.fit x.n⟩
instance:Fit rA:=⟨fun x=>Fit.fit x.Va⟩
instance:Fit qF:=⟨fun x=>Fit.fit x.Vt⟩
instance:Fit j8:=⟨fun x=>Fit.fit x.Vr∧Fit.fit x.Vc∧Fit.fit x.box∧Fit.fit x.Vp∧Fit.fit x.qx∧Fit.fit x.gE∧Fit.fit x.Vl∧Fit.fit x.qw∧Fit.fit x.qq∧Fit.fit x.Vm∧Fit.fit x.pX∧Fit.fit x.Vh∧Fit.fit x.Vf⟩
instance:Fit rl:=⟨fun x=>Fit.fit x.Ve∧Fit.fit x.Vn∧Fit.fit x.Vg∧Fit.fit x.pT⟩
instance:Fit qd:=⟨fun x=>Fit.fit x.ag∧Fit.fit x.gc⟩
instance:Fit cd:=⟨fun x=>Fit.fit x.Vb∧Fit.fit x.own∧Fit.fit x.Vd∧Fit.fit x.U7∧Fit.fit x.pU∧Fit.fit x.Vj∧Fit.fit x.Vk∧Fit.fit x.bh∧Fit.fit x.pZ∧Fit.fit x.Vi⟩
instance:Fit qi:=⟨fun x=>Fit.fit x.Vo∧Fit.fit x.parts⟩
instance:Fit qu:=⟨fun x=>Fit.fit x.U9∧Fit.fit x.me∧Fit.fit x.Vo∧Fit.fit x.qA⟩
end Go.Kx
