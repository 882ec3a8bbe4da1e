/- The data that the program works on, as plain structures; how they lie in cells. Printed by gendat.py. -/
import Derived.Test.YtikeaiogpfjdnaaGreatOwn
namespace Go.Kx
open Go Go.RowKit
set_option linter.unusedVariables false
set_option linter.unusedSimpArgs false
instance:pX Int where
  ty:=3
  sz:=1
  zero:=0
  zc:=[.int .i64 0]
  pos:=by omega
  rd _ _ cs x:=cs=[.int .i64 x]
  own _ cs F x:=cs=[.int .i64 x]∧F=[]
  tk:=by rintro _ _ _ _ rfl;rfl
  re:=by rintro _ _ _ _ ⟨rfl,_⟩;rfl
  sK h _:=h
  sH h _:=h
  rW h _:=h
  ti h _:=h.1
  sI:=by rintro _ _ _ _ ⟨rfl,_⟩;simp [Value.oneCell']
  rJ _:=⟨rfl,rfl⟩
instance:Flat Int:=⟨fun h=>⟨h,rfl⟩⟩
instance:pX Bool where
  ty:=4
  sz:=1
  zero:=false
  zc:=[.bool false]
  pos:=by omega
  rd _ _ cs x:=cs=[.bool x]
  own _ cs F x:=cs=[.bool x]∧F=[]
  tk:=by rintro _ _ _ _ rfl;rfl
  re:=by rintro _ _ _ _ ⟨rfl,_⟩;rfl
  sK h _:=h
  sH h _:=h
  rW h _:=h
  ti h _:=h.1
  sI:=by rintro _ _ _ _ ⟨rfl,_⟩;simp [Value.oneCell']
  rJ _:=⟨rfl,rfl⟩
instance:Flat Bool:=⟨fun h=>⟨h,rfl⟩⟩
abbrev O0:=ByteArray
instance:pX O0 where
  ty:=9
  sz:=1
  zero:=⟨#[]⟩
  zc:=[.string ⟨#[]⟩]
  pos:=by omega
  rd _ _ cs x:=cs=[.string x]
  own _ cs F x:=cs=[.string x]∧F=[]
  tk:=by rintro _ _ _ _ rfl;rfl
  re:=by rintro _ _ _ _ ⟨rfl,_⟩;rfl
  sK h _:=h
  sH h _:=h
  rW h _:=h
  ti h _:=h.1
  sI:=by rintro _ _ _ _ ⟨rfl,_⟩;simp [Value.oneCell']
  rJ _:=⟨rfl,rfl⟩
instance:Flat O0:=⟨fun h=>⟨h,rfl⟩⟩
structure U8 where
  v:Int
  deriving DecidableEq
instance:pX U8 where
  ty:=5
  sz:=1
  zero:=⟨0⟩
  zc:=[.int .u8 0]
  pos:=by omega
  rd _ _ cs x:=cs=[.int .u8 x.v]
  own _ cs F x:=cs=[.int .u8 x.v]∧F=[]
  tk:=by rintro _ _ _ _ rfl;rfl
  re:=by rintro _ _ _ _ ⟨rfl,_⟩;rfl
  sK h _:=h
  sH h _:=h
  rW h _:=h
  ti h _:=h.1
  sI:=by rintro _ _ _ _ ⟨rfl,_⟩;simp [Value.oneCell']
  rJ _:=⟨rfl,rfl⟩
instance:Flat U8:=⟨fun h=>⟨h,rfl⟩⟩
structure Hd where
  a:Option Addr
  n:Nat
  c:Nat
structure qa where
  bh:Int
  pU:Int
  qc:Int
  deriving DecidableEq
instance:pX qa where
  ty:=35
  sz:=3
  zero:=⟨0,0,0⟩
  zc:=[.int .i64 0,.int .i64 0,.int .i64 0]
  pos:=by omega
  rd _ _ cs x:=cs=[.int .i64 x.bh,.int .i64 x.pU,.int .i64 x.qc]
  own _ cs F x:=cs=[.int .i64 x.bh,.int .i64 x.pU,.int .i64 x.qc]∧F=[]
  tk:=by rintro _ _ _ _ rfl;rfl
  re:=by rintro _ _ _ _ ⟨rfl,_⟩;rfl
  sK h _:=h
  sH h _:=h
  rW h _:=h
  ti h _:=h.1
  sI:=by rintro _ _ _ _ ⟨rfl,_⟩;simp [Value.oneCell']
  rJ _:=⟨rfl,rfl⟩
instance:Flat qa:=⟨fun h=>⟨h,rfl⟩⟩
structure qn where
  kind:Int
  a:Int
  b:Int
  c:Int
  d:Int
  e:Int
  deriving DecidableEq
instance:pX qn where
  ty:=59
  sz:=6
  zero:=⟨0,0,0,0,0,0⟩
  zc:=[.int .i64 0,.int .i64 0,.int .i64 0,.int .i64 0,.int .i64 0,.int .i64 0]
  pos:=by omega
  rd _ _ cs x:=cs=[.int .i64 x.kind,.int .i64 x.a,.int .i64 x.b,.int .i64 x.c,.int .i64 x.d,.int .i64 x.e]
  own _ cs F x:=cs=[.int .i64 x.kind,.int .i64 x.a,.int .i64 x.b,.int .i64 x.c,.int .i64 x.d,.int .i64 x.e]∧F=[]
  tk:=by rintro _ _ _ _ rfl;rfl
  re:=by rintro _ _ _ _ ⟨rfl,_⟩;rfl
  sK h _:=h
  sH h _:=h
  rW h _:=h
  ti h _:=h.1
  sI:=by rintro _ _ _ _ ⟨rfl,_⟩;simp [Value.oneCell']
  rJ _:=⟨rfl,rfl⟩
instance:Flat qn:=⟨fun h=>⟨h,rfl⟩⟩
structure qh where
  code:Int
  val:Int
  deriving DecidableEq
instance:pX qh where
  ty:=87
  sz:=2
  zero:=⟨0,0⟩
  zc:=[.int .i64 0,.int .i64 0]
  pos:=by omega
  rd _ _ cs x:=cs=[.int .i64 x.code,.int .i64 x.val]
  own _ cs F x:=cs=[.int .i64 x.code,.int .i64 x.val]∧F=[]
  tk:=by rintro _ _ _ _ rfl;rfl
  re:=by rintro _ _ _ _ ⟨rfl,_⟩;rfl
  sK h _:=h
  sH h _:=h
  rW h _:=h
  ti h _:=h.1
  sI:=by rintro _ _ _ _ ⟨rfl,_⟩;simp [Value.oneCell']
  rJ _:=⟨rfl,rfl⟩
instance:Flat qh:=⟨fun h=>⟨h,rfl⟩⟩
structure pW where
  live:Bool
  parent:Int
  qw:qa
  deriving DecidableEq
instance:pX pW where
  ty:=46
  sz:=5
  zero:=⟨false,0,⟨0,0,0⟩⟩
  zc:=[.bool false,.int .i64 0,.int .i64 0,.int .i64 0,.int .i64 0]
  pos:=by omega
  rd _ _ cs x:=cs=[.bool x.live,.int .i64 x.parent,.int .i64 x.qw.bh,.int .i64 x.qw.pU,.int .i64 x.qw.qc]
  own _ cs F x:=cs=[.bool x.live,.int .i64 x.parent,.int .i64 x.qw.bh,.int .i64 x.qw.pU,.int .i64 x.qw.qc]∧F=[]
  tk:=by rintro _ _ _ _ rfl;rfl
  re:=by rintro _ _ _ _ ⟨rfl,_⟩;rfl
  sK h _:=h
  sH h _:=h
  rW h _:=h
  ti h _:=h.1
  sI:=by rintro _ _ _ _ ⟨rfl,_⟩;simp [Value.oneCell']
  rJ _:=⟨rfl,rfl⟩
instance:Flat pW:=⟨fun h=>⟨h,rfl⟩⟩
structure qy where
  res:Int
  ss:Int
  ta:Int
  s7:Int
  kind:Int
  tv:Int
  deriving DecidableEq
instance:pX qy where
  ty:=126
  sz:=6
  zero:=⟨0,0,0,0,0,0⟩
  zc:=[.int .i64 0,.int .i64 0,.int .i64 0,.int .i64 0,.int .i64 0,.int .i64 0]
  pos:=by omega
  rd _ _ cs x:=cs=[.int .i64 x.res,.int .i64 x.ss,.int .i64 x.ta,.int .i64 x.s7,.int .i64 x.kind,.int .i64 x.tv]
  own _ cs F x:=cs=[.int .i64 x.res,.int .i64 x.ss,.int .i64 x.ta,.int .i64 x.s7,.int .i64 x.kind,.int .i64 x.tv]∧F=[]
  tk:=by rintro _ _ _ _ rfl;rfl
  re:=by rintro _ _ _ _ ⟨rfl,_⟩;rfl
  sK h _:=h
  sH h _:=h
  rW h _:=h
  ti h _:=h.1
  sI:=by rintro _ _ _ _ ⟨rfl,_⟩;simp [Value.oneCell']
  rJ _:=⟨rfl,rfl⟩
instance:Flat qy:=⟨fun h=>⟨h,rfl⟩⟩
structure qt where
  src:Int
  n:Int
  deriving DecidableEq
instance:pX qt where
  ty:=189
  sz:=2
  zero:=⟨0,0⟩
  zc:=[.int .i64 0,.int .i64 0]
  pos:=by omega
  rd _ _ cs x:=cs=[.int .i64 x.src,.int .i64 x.n]
  own _ cs F x:=cs=[.int .i64 x.src,.int .i64 x.n]∧F=[]
  tk:=by rintro _ _ _ _ rfl;rfl
  re:=by rintro _ _ _ _ ⟨rfl,_⟩;rfl
  sK h _:=h
  sH h _:=h
  rW h _:=h
  ti h _:=h.1
  sI:=by rintro _ _ _ _ ⟨rfl,_⟩;simp [Value.oneCell']
  rJ _:=⟨rfl,rfl⟩
instance:Flat qt:=⟨fun h=>⟨h,rfl⟩⟩
structure rm where
  levels:List Int
  deriving DecidableEq
instance:pX rm where
  ty:=26
  sz:=1
  zero:=⟨[]⟩
  zc:=[.slice none 0 0]
  pos:=by omega
  rd S w cs x:=∃ (a0:Option Addr) (c0:Nat),cs=[.slice a0 x.levels.length c0]∧qQ S w a0 c0 x.levels
  own w cs F x:=∃ (a0:Option Addr) (c0:Nat),cs=[.slice a0 x.levels.length c0]∧qT [sl a0 c0 x.levels] w F
  tk:=by rintro _ _ _ _ ⟨a0,c0,rfl,_⟩;rfl
  re:=by rintro _ _ _ _ ⟨a0,c0,rfl,_⟩;rfl
  sK:=by rintro _ _ _ _ _ ⟨a0,c0,rfl,h0⟩ hk;exact ⟨a0,c0,rfl,h0.uo hk⟩
  sH:=by rintro _ _ _ _ _ ⟨a0,c0,rfl,h0⟩ hk;exact ⟨a0,c0,rfl,h0.mono hk⟩
  rW:=by rintro _ _ _ _ _ ⟨a0,c0,rfl,h⟩ hk;exact ⟨a0,c0,rfl,h.frame hk⟩
  ti:=by rintro _ _ _ _ _ ⟨a0,c0,rfl,h⟩ hk;exact ⟨a0,c0,rfl,qT.ui h 0 rfl hk⟩
  sI:=by rintro _ _ _ _ ⟨a0,c0,rfl,_⟩;simp [Value.oneCell']
  rJ _:=⟨none,0,rfl,⟨[],[],rfl,.inl ⟨rfl,rfl,rfl,rfl⟩,rfl⟩⟩
structure eg where
  gen:Int
  kind:Int
  box:Int
  res:Int
  qp:Int
  bh:Int
  wait:Int
  qo:Int
  qq:Int
  mark:Bool
  pS:List Int
  data:List Int
  queue:List qt
  deriving DecidableEq
instance:pX eg where
  ty:=44
  sz:=13
  zero:=⟨0,0,0,0,0,0,0,0,0,false,[],[],[]⟩
  zc:=[.int .i64 0,.int .i64 0,.int .i64 0,.int .i64 0,.int .i64 0,.int .i64 0,.int .i64 0,.int .i64 0,.int .i64 0,.bool false,.slice none 0 0,.slice none 0 0,.slice none 0 0]
  pos:=by omega
  rd S w cs x:=∃ (a10:Option Addr) (c10:Nat) (a11:Option Addr) (c11:Nat) (a12:Option Addr) (c12:Nat),cs=[.int .i64 x.gen,.int .i64 x.kind,.int .i64 x.box,.int .i64 x.res,.int .i64 x.qp,.int .i64 x.bh,.int .i64 x.wait,.int .i64 x.qo,.int .i64 x.qq,.bool x.mark,.slice a10 x.pS.length c10,.slice a11 x.data.length c11,.slice a12 x.queue.length c12]∧qQ S w a10 c10 x.pS∧qQ S w a11 c11 x.data∧qQ S w a12 c12 x.queue
  own w cs F x:=∃ (a10:Option Addr) (c10:Nat) (a11:Option Addr) (c11:Nat) (a12:Option Addr) (c12:Nat),cs=[.int .i64 x.gen,.int .i64 x.kind,.int .i64 x.box,.int .i64 x.res,.int .i64 x.qp,.int .i64 x.bh,.int .i64 x.wait,.int .i64 x.qo,.int .i64 x.qq,.bool x.mark,.slice a10 x.pS.length c10,.slice a11 x.data.length c11,.slice a12 x.queue.length c12]∧qT [sl a10 c10 x.pS,sl a11 c11 x.data,sl a12 c12 x.queue] w F
  tk:=by rintro _ _ _ _ ⟨a10,c10,a11,c11,a12,c12,rfl,_⟩;rfl
  re:=by rintro _ _ _ _ ⟨a10,c10,a11,c11,a12,c12,rfl,_⟩;rfl
  sK:=by rintro _ _ _ _ _ ⟨a10,c10,a11,c11,a12,c12,rfl,h10,h11,h12⟩ hk;exact ⟨a10,c10,a11,c11,a12,c12,rfl,h10.uo hk,h11.uo hk,h12.uo hk⟩
  sH:=by rintro _ _ _ _ _ ⟨a10,c10,a11,c11,a12,c12,rfl,h10,h11,h12⟩ hk;exact ⟨a10,c10,a11,c11,a12,c12,rfl,h10.mono hk,h11.mono hk,h12.mono hk⟩
  rW:=by rintro _ _ _ _ _ ⟨a10,c10,a11,c11,a12,c12,rfl,h⟩ hk;exact ⟨a10,c10,a11,c11,a12,c12,rfl,h.frame hk⟩
  ti:=by rintro _ _ _ _ _ ⟨a10,c10,a11,c11,a12,c12,rfl,h⟩ hk;exact ⟨a10,c10,a11,c11,a12,c12,rfl,qT.ui h 0 rfl hk,qT.ui h 1 rfl hk,qT.ui h 2 rfl hk⟩
  sI:=by rintro _ _ _ _ ⟨a10,c10,a11,c11,a12,c12,rfl,_⟩;simp [Value.oneCell']
  rJ _:=⟨none,0,none,0,none,0,rfl,⟨[],[],rfl,.inl ⟨rfl,rfl,rfl,rfl⟩,⟨[],[],rfl,.inl ⟨rfl,rfl,rfl,rfl⟩,⟨[],[],rfl,.inl ⟨rfl,rfl,rfl,rfl⟩,rfl⟩⟩⟩⟩
structure rr where
  phase:Int
  pos:Int
  round:Int
  j8:List Int
  deriving DecidableEq
instance:pX rr where
  ty:=30
  sz:=4
  zero:=⟨0,0,0,[]⟩
  zc:=[.int .i64 0,.int .i64 0,.int .i64 0,.slice none 0 0]
  pos:=by omega
  rd S w cs x:=∃ (a3:Option Addr) (c3:Nat),cs=[.int .i64 x.phase,.int .i64 x.pos,.int .i64 x.round,.slice a3 x.j8.length c3]∧qQ S w a3 c3 x.j8
  own w cs F x:=∃ (a3:Option Addr) (c3:Nat),cs=[.int .i64 x.phase,.int .i64 x.pos,.int .i64 x.round,.slice a3 x.j8.length c3]∧qT [sl a3 c3 x.j8] w F
  tk:=by rintro _ _ _ _ ⟨a3,c3,rfl,_⟩;rfl
  re:=by rintro _ _ _ _ ⟨a3,c3,rfl,_⟩;rfl
  sK:=by rintro _ _ _ _ _ ⟨a3,c3,rfl,h3⟩ hk;exact ⟨a3,c3,rfl,h3.uo hk⟩
  sH:=by rintro _ _ _ _ _ ⟨a3,c3,rfl,h3⟩ hk;exact ⟨a3,c3,rfl,h3.mono hk⟩
  rW:=by rintro _ _ _ _ _ ⟨a3,c3,rfl,h⟩ hk;exact ⟨a3,c3,rfl,h.frame hk⟩
  ti:=by rintro _ _ _ _ _ ⟨a3,c3,rfl,h⟩ hk;exact ⟨a3,c3,rfl,qT.ui h 0 rfl hk⟩
  sI:=by rintro _ _ _ _ ⟨a3,c3,rfl,_⟩;simp [Value.oneCell']
  rJ _:=⟨none,0,rfl,⟨[],[],rfl,.inl ⟨rfl,rfl,rfl,rfl⟩,rfl⟩⟩
structure qe where
  ag:List eg
  gc:rr
  deriving DecidableEq
instance:pX qe where
  ty:=32
  sz:=5
  zero:=⟨[],⟨0,0,0,[]⟩⟩
  zc:=[.slice none 0 0,.int .i64 0,.int .i64 0,.int .i64 0,.slice none 0 0]
  pos:=by omega
  rd S w cs x:=∃ (a0:Option Addr) (c0:Nat) (a4:Option Addr) (c4:Nat),cs=[.slice a0 x.ag.length c0,.int .i64 x.gc.phase,.int .i64 x.gc.pos,.int .i64 x.gc.round,.slice a4 x.gc.j8.length c4]∧qQ S w a0 c0 x.ag∧qQ S w a4 c4 x.gc.j8
  own w cs F x:=∃ (a0:Option Addr) (c0:Nat) (a4:Option Addr) (c4:Nat),cs=[.slice a0 x.ag.length c0,.int .i64 x.gc.phase,.int .i64 x.gc.pos,.int .i64 x.gc.round,.slice a4 x.gc.j8.length c4]∧qT [sl a0 c0 x.ag,sl a4 c4 x.gc.j8] w F
  tk:=by rintro _ _ _ _ ⟨a0,c0,a4,c4,rfl,_⟩;rfl
  re:=by rintro _ _ _ _ ⟨a0,c0,a4,c4,rfl,_⟩;rfl
  sK:=by rintro _ _ _ _ _ ⟨a0,c0,a4,c4,rfl,h0,h4⟩ hk;exact ⟨a0,c0,a4,c4,rfl,h0.uo hk,h4.uo hk⟩
  sH:=by rintro _ _ _ _ _ ⟨a0,c0,a4,c4,rfl,h0,h4⟩ hk;exact ⟨a0,c0,a4,c4,rfl,h0.mono hk,h4.mono hk⟩
  rW:=by rintro _ _ _ _ _ ⟨a0,c0,a4,c4,rfl,h⟩ hk;exact ⟨a0,c0,a4,c4,rfl,h.frame hk⟩
  ti:=by rintro _ _ _ _ _ ⟨a0,c0,a4,c4,rfl,h⟩ hk;exact ⟨a0,c0,a4,c4,rfl,qT.ui h 0 rfl hk,qT.ui h 1 rfl hk⟩
  sI:=by rintro _ _ _ _ ⟨a0,c0,a4,c4,rfl,_⟩;simp [Value.oneCell']
  rJ _:=⟨none,0,none,0,rfl,⟨[],[],rfl,.inl ⟨rfl,rfl,rfl,rfl⟩,⟨[],[],rfl,.inl ⟨rfl,rfl,rfl,rfl⟩,rfl⟩⟩⟩
structure cd where
  label:rm
  own:List Int
  tree:List pW
  heap:qe
  pN:List qy
  next:Int
  want:Int
  dz:qa
  pV:Int
  lost:Int
  deriving DecidableEq
instance:pX cd where
  ty:=37
  sz:=16
  zero:=⟨⟨[]⟩,[],[],⟨[],⟨0,0,0,[]⟩⟩,[],0,0,⟨0,0,0⟩,0,0⟩
  zc:=[.slice none 0 0,.slice none 0 0,.slice none 0 0,.slice none 0 0,.int .i64 0,.int .i64 0,.int .i64 0,.slice none 0 0,.slice none 0 0,.int .i64 0,.int .i64 0,.int .i64 0,.int .i64 0,.int .i64 0,.int .i64 0,.int .i64 0]
  pos:=by omega
  rd S w cs x:=∃ (a0:Option Addr) (c0:Nat) (a1:Option Addr) (c1:Nat) (a2:Option Addr) (c2:Nat) (a3:Option Addr) (c3:Nat) (a7:Option Addr) (c7:Nat) (a8:Option Addr) (c8:Nat),cs=[.slice a0 x.label.levels.length c0,.slice a1 x.own.length c1,.slice a2 x.tree.length c2,.slice a3 x.heap.ag.length c3,.int .i64 x.heap.gc.phase,.int .i64 x.heap.gc.pos,.int .i64 x.heap.gc.round,.slice a7 x.heap.gc.j8.length c7,.slice a8 x.pN.length c8,.int .i64 x.next,.int .i64 x.want,.int .i64 x.dz.bh,.int .i64 x.dz.pU,.int .i64 x.dz.qc,.int .i64 x.pV,.int .i64 x.lost]∧qQ S w a0 c0 x.label.levels∧qQ S w a1 c1 x.own∧qQ S w a2 c2 x.tree∧qQ S w a3 c3 x.heap.ag∧qQ S w a7 c7 x.heap.gc.j8∧qQ S w a8 c8 x.pN
  own w cs F x:=∃ (a0:Option Addr) (c0:Nat) (a1:Option Addr) (c1:Nat) (a2:Option Addr) (c2:Nat) (a3:Option Addr) (c3:Nat) (a7:Option Addr) (c7:Nat) (a8:Option Addr) (c8:Nat),cs=[.slice a0 x.label.levels.length c0,.slice a1 x.own.length c1,.slice a2 x.tree.length c2,.slice a3 x.heap.ag.length c3,.int .i64 x.heap.gc.phase,.int .i64 x.heap.gc.pos,.int .i64 x.heap.gc.round,.slice a7 x.heap.gc.j8.length c7,.slice a8 x.pN.length c8,.int .i64 x.next,.int .i64 x.want,.int .i64 x.dz.bh,.int .i64 x.dz.pU,.int .i64 x.dz.qc,.int .i64 x.pV,.int .i64 x.lost]∧qT [sl a0 c0 x.label.levels,sl a1 c1 x.own,sl a2 c2 x.tree,sl a3 c3 x.heap.ag,sl a7 c7 x.heap.gc.j8,sl a8 c8 x.pN] w F
  tk:=by rintro _ _ _ _ ⟨a0,c0,a1,c1,a2,c2,a3,c3,a7,c7,a8,c8,rfl,_⟩;rfl
  re:=by rintro _ _ _ _ ⟨a0,c0,a1,c1,a2,c2,a3,c3,a7,c7,a8,c8,rfl,_⟩;rfl
  sK:=by rintro _ _ _ _ _ ⟨a0,c0,a1,c1,a2,c2,a3,c3,a7,c7,a8,c8,rfl,h0,h1,h2,h3,h7,h8⟩ hk;exact ⟨a0,c0,a1,c1,a2,c2,a3,c3,a7,c7,a8,c8,rfl,h0.uo hk,h1.uo hk,h2.uo hk,h3.uo hk,h7.uo hk,h8.uo hk⟩
  sH:=by rintro _ _ _ _ _ ⟨a0,c0,a1,c1,a2,c2,a3,c3,a7,c7,a8,c8,rfl,h0,h1,h2,h3,h7,h8⟩ hk;exact ⟨a0,c0,a1,c1,a2,c2,a3,c3,a7,c7,a8,c8,rfl,h0.mono hk,h1.mono hk,h2.mono hk,h3.mono hk,h7.mono hk,h8.mono hk⟩
  rW:=by rintro _ _ _ _ _ ⟨a0,c0,a1,c1,a2,c2,a3,c3,a7,c7,a8,c8,rfl,h⟩ hk;exact ⟨a0,c0,a1,c1,a2,c2,a3,c3,a7,c7,a8,c8,rfl,h.frame hk⟩
  ti:=by rintro _ _ _ _ _ ⟨a0,c0,a1,c1,a2,c2,a3,c3,a7,c7,a8,c8,rfl,h⟩ hk;exact ⟨a0,c0,a1,c1,a2,c2,a3,c3,a7,c7,a8,c8,rfl,qT.ui h 0 rfl hk,qT.ui h 1 rfl hk,qT.ui h 2 rfl hk,qT.ui h 3 rfl hk,qT.ui h 4 rfl hk,qT.ui h 5 rfl hk⟩
  sI:=by rintro _ _ _ _ ⟨a0,c0,a1,c1,a2,c2,a3,c3,a7,c7,a8,c8,rfl,_⟩;simp [Value.oneCell']
  rJ _:=⟨none,0,none,0,none,0,none,0,none,0,none,0,rfl,⟨[],[],rfl,.inl ⟨rfl,rfl,rfl,rfl⟩,⟨[],[],rfl,.inl ⟨rfl,rfl,rfl,rfl⟩,⟨[],[],rfl,.inl ⟨rfl,rfl,rfl,rfl⟩,⟨[],[],rfl,.inl ⟨rfl,rfl,rfl,rfl⟩,⟨[],[],rfl,.inl ⟨rfl,rfl,rfl,rfl⟩,⟨[],[],rfl,.inl ⟨rfl,rfl,rfl,rfl⟩,rfl⟩⟩⟩⟩⟩⟩⟩
structure ql where
  now:Int
  parts:List cd
  deriving DecidableEq
instance:pX ql where
  ty:=77
  sz:=2
  zero:=⟨0,[]⟩
  zc:=[.int .i64 0,.slice none 0 0]
  pos:=by omega
  rd S w cs x:=∃ (a1:Option Addr) (c1:Nat),cs=[.int .i64 x.now,.slice a1 x.parts.length c1]∧qQ S w a1 c1 x.parts
  own w cs F x:=∃ (a1:Option Addr) (c1:Nat),cs=[.int .i64 x.now,.slice a1 x.parts.length c1]∧qT [sl a1 c1 x.parts] w F
  tk:=by rintro _ _ _ _ ⟨a1,c1,rfl,_⟩;rfl
  re:=by rintro _ _ _ _ ⟨a1,c1,rfl,_⟩;rfl
  sK:=by rintro _ _ _ _ _ ⟨a1,c1,rfl,h1⟩ hk;exact ⟨a1,c1,rfl,h1.uo hk⟩
  sH:=by rintro _ _ _ _ _ ⟨a1,c1,rfl,h1⟩ hk;exact ⟨a1,c1,rfl,h1.mono hk⟩
  rW:=by rintro _ _ _ _ _ ⟨a1,c1,rfl,h⟩ hk;exact ⟨a1,c1,rfl,h.frame hk⟩
  ti:=by rintro _ _ _ _ _ ⟨a1,c1,rfl,h⟩ hk;exact ⟨a1,c1,rfl,qT.ui h 0 rfl hk⟩
  sI:=by rintro _ _ _ _ ⟨a1,c1,rfl,_⟩;simp [Value.oneCell']
  rJ _:=⟨none,0,rfl,⟨[],[],rfl,.inl ⟨rfl,rfl,rfl,rfl⟩,rfl⟩⟩
structure qj where
  part:cd
  me:Int
  now:Int
  qB:Int
  deriving DecidableEq
structure xo where
  label:rm
  own:List Int
  tree:Hd
  heap:qe
  pN:List qy
  next:Int
  want:Int
  dz:qa
  pV:Int
  lost:Int
instance:pX xo where
  ty:=37
  sz:=16
  zero:=⟨⟨[]⟩,[],⟨none,0,0⟩,⟨[],⟨0,0,0,[]⟩⟩,[],0,0,⟨0,0,0⟩,0,0⟩
  zc:=[.slice none 0 0,.slice none 0 0,.slice none 0 0,.slice none 0 0,.int .i64 0,.int .i64 0,.int .i64 0,.slice none 0 0,.slice none 0 0,.int .i64 0,.int .i64 0,.int .i64 0,.int .i64 0,.int .i64 0,.int .i64 0,.int .i64 0]
  pos:=by omega
  rd S w cs x:=∃ (a0:Option Addr) (c0:Nat) (a1:Option Addr) (c1:Nat) (a3:Option Addr) (c3:Nat) (a7:Option Addr) (c7:Nat) (a8:Option Addr) (c8:Nat),cs=[.slice a0 x.label.levels.length c0,.slice a1 x.own.length c1,.slice x.tree.a x.tree.n x.tree.c,.slice a3 x.heap.ag.length c3,.int .i64 x.heap.gc.phase,.int .i64 x.heap.gc.pos,.int .i64 x.heap.gc.round,.slice a7 x.heap.gc.j8.length c7,.slice a8 x.pN.length c8,.int .i64 x.next,.int .i64 x.want,.int .i64 x.dz.bh,.int .i64 x.dz.pU,.int .i64 x.dz.qc,.int .i64 x.pV,.int .i64 x.lost]∧qQ S w a0 c0 x.label.levels∧qQ S w a1 c1 x.own∧qQ S w a3 c3 x.heap.ag∧qQ S w a7 c7 x.heap.gc.j8∧qQ S w a8 c8 x.pN
  own w cs F x:=∃ (a0:Option Addr) (c0:Nat) (a1:Option Addr) (c1:Nat) (a3:Option Addr) (c3:Nat) (a7:Option Addr) (c7:Nat) (a8:Option Addr) (c8:Nat),cs=[.slice a0 x.label.levels.length c0,.slice a1 x.own.length c1,.slice x.tree.a x.tree.n x.tree.c,.slice a3 x.heap.ag.length c3,.int .i64 x.heap.gc.phase,.int .i64 x.heap.gc.pos,.int .i64 x.heap.gc.round,.slice a7 x.heap.gc.j8.length c7,.slice a8 x.pN.length c8,.int .i64 x.next,.int .i64 x.want,.int .i64 x.dz.bh,.int .i64 x.dz.pU,.int .i64 x.dz.qc,.int .i64 x.pV,.int .i64 x.lost]∧qT [sl a0 c0 x.label.levels,sl a1 c1 x.own,sl a3 c3 x.heap.ag,sl a7 c7 x.heap.gc.j8,sl a8 c8 x.pN] w F
  tk:=by rintro _ _ _ _ ⟨a0,c0,a1,c1,a3,c3,a7,c7,a8,c8,rfl,_⟩;rfl
  re:=by rintro _ _ _ _ ⟨a0,c0,a1,c1,a3,c3,a7,c7,a8,c8,rfl,_⟩;rfl
  sK:=by rintro _ _ _ _ _ ⟨a0,c0,a1,c1,a3,c3,a7,c7,a8,c8,rfl,h0,h1,h3,h7,h8⟩ hk;exact ⟨a0,c0,a1,c1,a3,c3,a7,c7,a8,c8,rfl,h0.uo hk,h1.uo hk,h3.uo hk,h7.uo hk,h8.uo hk⟩
  sH:=by rintro _ _ _ _ _ ⟨a0,c0,a1,c1,a3,c3,a7,c7,a8,c8,rfl,h0,h1,h3,h7,h8⟩ hk;exact ⟨a0,c0,a1,c1,a3,c3,a7,c7,a8,c8,rfl,h0.mono hk,h1.mono hk,h3.mono hk,h7.mono hk,h8.mono hk⟩
  rW:=by rintro _ _ _ _ _ ⟨a0,c0,a1,c1,a3,c3,a7,c7,a8,c8,rfl,h⟩ hk;exact ⟨a0,c0,a1,c1,a3,c3,a7,c7,a8,c8,rfl,h.frame hk⟩
  ti:=by rintro _ _ _ _ _ ⟨a0,c0,a1,c1,a3,c3,a7,c7,a8,c8,rfl,h⟩ hk;exact ⟨a0,c0,a1,c1,a3,c3,a7,c7,a8,c8,rfl,qT.ui h 0 rfl hk,qT.ui h 1 rfl hk,qT.ui h 2 rfl hk,qT.ui h 3 rfl hk,qT.ui h 4 rfl hk⟩
  sI:=by rintro _ _ _ _ ⟨a0,c0,a1,c1,a3,c3,a7,c7,a8,c8,rfl,_⟩;simp [Value.oneCell']
  rJ _:=⟨none,0,none,0,none,0,none,0,none,0,rfl,⟨[],[],rfl,.inl ⟨rfl,rfl,rfl,rfl⟩,⟨[],[],rfl,.inl ⟨rfl,rfl,rfl,rfl⟩,⟨[],[],rfl,.inl ⟨rfl,rfl,rfl,rfl⟩,⟨[],[],rfl,.inl ⟨rfl,rfl,rfl,rfl⟩,⟨[],[],rfl,.inl ⟨rfl,rfl,rfl,rfl⟩,rfl⟩⟩⟩⟩⟩⟩
structure vy where
  gen:Int
  kind:Int
  box:Int
  res:Int
  qp:Int
  bh:Int
  wait:Int
  qo:Int
  qq:Int
  mark:Bool
  deriving DecidableEq
instance:pX vy where
  ty:=44
  sz:=13
  zero:=⟨0,0,0,0,0,0,0,0,0,false⟩
  zc:=[.int .i64 0,.int .i64 0,.int .i64 0,.int .i64 0,.int .i64 0,.int .i64 0,.int .i64 0,.int .i64 0,.int .i64 0,.bool false,.slice none 0 0,.slice none 0 0,.slice none 0 0]
  pos:=by omega
  rd _ _ cs x:=∃ (a0:Option Addr) (n0 c0:Nat) (a1:Option Addr) (n1 c1:Nat) (a2:Option Addr) (n2 c2:Nat),cs=[.int .i64 x.gen,.int .i64 x.kind,.int .i64 x.box,.int .i64 x.res,.int .i64 x.qp,.int .i64 x.bh,.int .i64 x.wait,.int .i64 x.qo,.int .i64 x.qq,.bool x.mark,.slice a0 n0 c0,.slice a1 n1 c1,.slice a2 n2 c2]
  own _ cs F x:=(∃ (a0:Option Addr) (n0 c0:Nat) (a1:Option Addr) (n1 c1:Nat) (a2:Option Addr) (n2 c2:Nat),cs=[.int .i64 x.gen,.int .i64 x.kind,.int .i64 x.box,.int .i64 x.res,.int .i64 x.qp,.int .i64 x.bh,.int .i64 x.wait,.int .i64 x.qo,.int .i64 x.qq,.bool x.mark,.slice a0 n0 c0,.slice a1 n1 c1,.slice a2 n2 c2])∧F=[]
  tk:=by rintro _ _ _ _ ⟨a0,n0,c0,a1,n1,c1,a2,n2,c2,rfl⟩;rfl
  re:=by rintro _ _ _ _ ⟨⟨a0,n0,c0,a1,n1,c1,a2,n2,c2,rfl⟩,_⟩;rfl
  sK h _:=h
  sH h _:=h
  rW h _:=h
  ti h _:=h.1
  sI:=by rintro _ _ _ _ ⟨⟨a0,n0,c0,a1,n1,c1,a2,n2,c2,rfl⟩,_⟩;simp [Value.oneCell']
  rJ _:=⟨⟨_,_,_,_,_,_,_,_,_,rfl⟩,rfl⟩
def Ex (p:cd) (t:List pW):cd:=cd.mk p.label p.own t p.heap p.pN p.next p.want p.dz p.pV p.lost
def DN (l:List cd) (ts:List (List pW)):List cd:=List.zipWith Ex l ts
def gd (b:Bool):Option Unit:=bif b then some () else none
class Fit (α:Type) where
  fit:α→Prop
instance:Fit Int:=⟨fun x=>-9223372036854775808≤x∧x≤9223372036854775807⟩
instance:Fit Bool:=⟨fun _=>True⟩
instance:Fit U8:=⟨fun x=>0≤x.v∧x.v≤255⟩
instance {α:Type} [Fit α]:Fit (List α):=⟨fun l=>l.length≤maxLen∧∀ y,y ∈ l→Fit.fit y⟩
instance:Fit qa:=⟨fun x=>Fit.fit x.bh∧Fit.fit x.pU∧Fit.fit x.qc⟩
instance:Fit qn:=⟨fun x=>Fit.fit x.kind∧Fit.fit x.a∧Fit.fit x.b∧Fit.fit x.c∧Fit.fit x.d∧Fit.fit x.e⟩
instance:Fit qh:=⟨fun x=>Fit.fit x.code∧Fit.fit x.val⟩
instance:Fit pW:=⟨fun x=>Fit.fit x.live∧Fit.fit x.parent∧Fit.fit x.qw⟩
instance:Fit qy:=⟨fun x=>Fit.fit x.res∧Fit.fit x.ss∧Fit.fit x.ta∧Fit.fit x.s7∧Fit.fit x.kind∧Fit.fit x.tv⟩
instance:Fit qt:=⟨fun x=>Fit.fit x.src∧Fit.fit x.n⟩
instance:Fit rm:=⟨fun x=>Fit.fit x.levels⟩
instance:Fit eg:=⟨fun x=>Fit.fit x.gen∧Fit.fit x.kind∧Fit.fit x.box∧Fit.fit x.res∧Fit.fit x.qp∧Fit.fit x.bh∧Fit.fit x.wait∧Fit.fit x.qo∧Fit.fit x.qq∧Fit.fit x.mark∧Fit.fit x.pS∧Fit.fit x.data∧Fit.fit x.queue⟩
instance:Fit rr:=⟨fun x=>Fit.fit x.phase∧Fit.fit x.pos∧Fit.fit x.round∧Fit.fit x.j8⟩
instance:Fit qe:=⟨fun x=>Fit.fit x.ag∧Fit.fit x.gc⟩
instance:Fit cd:=⟨fun x=>Fit.fit x.label∧Fit.fit x.own∧Fit.fit x.tree∧Fit.fit x.heap∧Fit.fit x.pN∧Fit.fit x.next∧Fit.fit x.want∧Fit.fit x.dz∧Fit.fit x.pV∧Fit.fit x.lost⟩
instance:Fit ql:=⟨fun x=>Fit.fit x.now∧Fit.fit x.parts⟩
instance:Fit qj:=⟨fun x=>Fit.fit x.part∧Fit.fit x.me∧Fit.fit x.now∧Fit.fit x.qB⟩
end Go.Kx
