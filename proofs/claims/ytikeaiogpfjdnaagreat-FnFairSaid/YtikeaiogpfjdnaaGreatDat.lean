/- The data that the program works on, as plain structures; how they lie in cells. Printed by gendat.py. -/
import Derived.Test.YtikeaiogpfjdnaaGreatOwn
namespace Go.Kx
open Go Go.RowKit
set_option linter.unusedVariables false
set_option linter.unusedSimpArgs false
instance:Dat Int where
  ty:=3
  sz:=1
  zero:=0
  zc:=[.int .i64 0]
  pos:=by omega
  rd _ _ cs x:=cs=[.int .i64 x]
  own _ cs F x:=cs=[.int .i64 x]∧F=[]
  rd_len:=by rintro _ _ _ _ rfl;rfl
  own_len:=by rintro _ _ _ _ ⟨rfl,_⟩;rfl
  rd_keep h _:=h
  rd_mono h _:=h
  own_frame h _:=h
  own_rd h _:=h.1
  own_one:=by rintro _ _ _ _ ⟨rfl,_⟩;simp [Value.oneCell']
  zero_own _:=⟨rfl,rfl⟩
instance:Flat Int:=⟨fun h=>⟨h,rfl⟩⟩
instance:Dat Bool where
  ty:=4
  sz:=1
  zero:=false
  zc:=[.bool false]
  pos:=by omega
  rd _ _ cs x:=cs=[.bool x]
  own _ cs F x:=cs=[.bool x]∧F=[]
  rd_len:=by rintro _ _ _ _ rfl;rfl
  own_len:=by rintro _ _ _ _ ⟨rfl,_⟩;rfl
  rd_keep h _:=h
  rd_mono h _:=h
  own_frame h _:=h
  own_rd h _:=h.1
  own_one:=by rintro _ _ _ _ ⟨rfl,_⟩;simp [Value.oneCell']
  zero_own _:=⟨rfl,rfl⟩
instance:Flat Bool:=⟨fun h=>⟨h,rfl⟩⟩
abbrev Str:=ByteArray
instance:Dat Str where
  ty:=9
  sz:=1
  zero:=⟨#[]⟩
  zc:=[.string ⟨#[]⟩]
  pos:=by omega
  rd _ _ cs x:=cs=[.string x]
  own _ cs F x:=cs=[.string x]∧F=[]
  rd_len:=by rintro _ _ _ _ rfl;rfl
  own_len:=by rintro _ _ _ _ ⟨rfl,_⟩;rfl
  rd_keep h _:=h
  rd_mono h _:=h
  own_frame h _:=h
  own_rd h _:=h.1
  own_one:=by rintro _ _ _ _ ⟨rfl,_⟩;simp [Value.oneCell']
  zero_own _:=⟨rfl,rfl⟩
instance:Flat Str:=⟨fun h=>⟨h,rfl⟩⟩
structure U8 where
  v:Int
  deriving DecidableEq
instance:Dat U8 where
  ty:=5
  sz:=1
  zero:=⟨0⟩
  zc:=[.int .u8 0]
  pos:=by omega
  rd _ _ cs x:=cs=[.int .u8 x.v]
  own _ cs F x:=cs=[.int .u8 x.v]∧F=[]
  rd_len:=by rintro _ _ _ _ rfl;rfl
  own_len:=by rintro _ _ _ _ ⟨rfl,_⟩;rfl
  rd_keep h _:=h
  rd_mono h _:=h
  own_frame h _:=h
  own_rd h _:=h.1
  own_one:=by rintro _ _ _ _ ⟨rfl,_⟩;simp [Value.oneCell']
  zero_own _:=⟨rfl,rfl⟩
instance:Flat U8:=⟨fun h=>⟨h,rfl⟩⟩
def iAnd (a b:Int):Int:=IntKind.i64.wrap ((BitVec.ofInt IntKind.i64.bits a &&& BitVec.ofInt IntKind.i64.bits b).toNat:Int)
def iXor (a b:Int):Int:=IntKind.i64.wrap ((BitVec.ofInt IntKind.i64.bits a ^^^ BitVec.ofInt IntKind.i64.bits b).toNat:Int)
def iShr (a b:Int):Int:=a.fdiv (2 ^ (min b.toNat IntKind.i64.bits))
structure Hd where
  a:Option Addr
  n:Nat
  c:Nat
structure DAmt where
  pages:Int
  rent:Int
  cpu:Int
  deriving DecidableEq
instance:Dat DAmt where
  ty:=35
  sz:=3
  zero:=⟨0,0,0⟩
  zc:=[.int .i64 0,.int .i64 0,.int .i64 0]
  pos:=by omega
  rd _ _ cs x:=cs=[.int .i64 x.pages,.int .i64 x.rent,.int .i64 x.cpu]
  own _ cs F x:=cs=[.int .i64 x.pages,.int .i64 x.rent,.int .i64 x.cpu]∧F=[]
  rd_len:=by rintro _ _ _ _ rfl;rfl
  own_len:=by rintro _ _ _ _ ⟨rfl,_⟩;rfl
  rd_keep h _:=h
  rd_mono h _:=h
  own_frame h _:=h
  own_rd h _:=h.1
  own_one:=by rintro _ _ _ _ ⟨rfl,_⟩;simp [Value.oneCell']
  zero_own _:=⟨rfl,rfl⟩
instance:Flat DAmt:=⟨fun h=>⟨h,rfl⟩⟩
structure DCall where
  kind:Int
  a:Int
  b:Int
  c:Int
  d:Int
  e:Int
  deriving DecidableEq
instance:Dat DCall where
  ty:=59
  sz:=6
  zero:=⟨0,0,0,0,0,0⟩
  zc:=[.int .i64 0,.int .i64 0,.int .i64 0,.int .i64 0,.int .i64 0,.int .i64 0]
  pos:=by omega
  rd _ _ cs x:=cs=[.int .i64 x.kind,.int .i64 x.a,.int .i64 x.b,.int .i64 x.c,.int .i64 x.d,.int .i64 x.e]
  own _ cs F x:=cs=[.int .i64 x.kind,.int .i64 x.a,.int .i64 x.b,.int .i64 x.c,.int .i64 x.d,.int .i64 x.e]∧F=[]
  rd_len:=by rintro _ _ _ _ rfl;rfl
  own_len:=by rintro _ _ _ _ ⟨rfl,_⟩;rfl
  rd_keep h _:=h
  rd_mono h _:=h
  own_frame h _:=h
  own_rd h _:=h.1
  own_one:=by rintro _ _ _ _ ⟨rfl,_⟩;simp [Value.oneCell']
  zero_own _:=⟨rfl,rfl⟩
instance:Flat DCall:=⟨fun h=>⟨h,rfl⟩⟩
structure DReply where
  code:Int
  val:Int
  deriving DecidableEq
instance:Dat DReply where
  ty:=87
  sz:=2
  zero:=⟨0,0⟩
  zc:=[.int .i64 0,.int .i64 0]
  pos:=by omega
  rd _ _ cs x:=cs=[.int .i64 x.code,.int .i64 x.val]
  own _ cs F x:=cs=[.int .i64 x.code,.int .i64 x.val]∧F=[]
  rd_len:=by rintro _ _ _ _ rfl;rfl
  own_len:=by rintro _ _ _ _ ⟨rfl,_⟩;rfl
  rd_keep h _:=h
  rd_mono h _:=h
  own_frame h _:=h
  own_rd h _:=h.1
  own_one:=by rintro _ _ _ _ ⟨rfl,_⟩;simp [Value.oneCell']
  zero_own _:=⟨rfl,rfl⟩
instance:Flat DReply:=⟨fun h=>⟨h,rfl⟩⟩
structure DRes where
  live:Bool
  parent:Int
  bal:DAmt
  deriving DecidableEq
instance:Dat DRes where
  ty:=46
  sz:=5
  zero:=⟨false,0,⟨0,0,0⟩⟩
  zc:=[.bool false,.int .i64 0,.int .i64 0,.int .i64 0,.int .i64 0]
  pos:=by omega
  rd _ _ cs x:=cs=[.bool x.live,.int .i64 x.parent,.int .i64 x.bal.pages,.int .i64 x.bal.rent,.int .i64 x.bal.cpu]
  own _ cs F x:=cs=[.bool x.live,.int .i64 x.parent,.int .i64 x.bal.pages,.int .i64 x.bal.rent,.int .i64 x.bal.cpu]∧F=[]
  rd_len:=by rintro _ _ _ _ rfl;rfl
  own_len:=by rintro _ _ _ _ ⟨rfl,_⟩;rfl
  rd_keep h _:=h
  rd_mono h _:=h
  own_frame h _:=h
  own_rd h _:=h.1
  own_one:=by rintro _ _ _ _ ⟨rfl,_⟩;simp [Value.oneCell']
  zero_own _:=⟨rfl,rfl⟩
instance:Flat DRes:=⟨fun h=>⟨h,rfl⟩⟩
structure DTap where
  res:Int
  toPart:Int
  toRes:Int
  which:Int
  kind:Int
  rate:Int
  deriving DecidableEq
instance:Dat DTap where
  ty:=126
  sz:=6
  zero:=⟨0,0,0,0,0,0⟩
  zc:=[.int .i64 0,.int .i64 0,.int .i64 0,.int .i64 0,.int .i64 0,.int .i64 0]
  pos:=by omega
  rd _ _ cs x:=cs=[.int .i64 x.res,.int .i64 x.toPart,.int .i64 x.toRes,.int .i64 x.which,.int .i64 x.kind,.int .i64 x.rate]
  own _ cs F x:=cs=[.int .i64 x.res,.int .i64 x.toPart,.int .i64 x.toRes,.int .i64 x.which,.int .i64 x.kind,.int .i64 x.rate]∧F=[]
  rd_len:=by rintro _ _ _ _ rfl;rfl
  own_len:=by rintro _ _ _ _ ⟨rfl,_⟩;rfl
  rd_keep h _:=h
  rd_mono h _:=h
  own_frame h _:=h
  own_rd h _:=h.1
  own_one:=by rintro _ _ _ _ ⟨rfl,_⟩;simp [Value.oneCell']
  zero_own _:=⟨rfl,rfl⟩
instance:Flat DTap:=⟨fun h=>⟨h,rfl⟩⟩
structure DMsg where
  src:Int
  n:Int
  deriving DecidableEq
instance:Dat DMsg where
  ty:=189
  sz:=2
  zero:=⟨0,0⟩
  zc:=[.int .i64 0,.int .i64 0]
  pos:=by omega
  rd _ _ cs x:=cs=[.int .i64 x.src,.int .i64 x.n]
  own _ cs F x:=cs=[.int .i64 x.src,.int .i64 x.n]∧F=[]
  rd_len:=by rintro _ _ _ _ rfl;rfl
  own_len:=by rintro _ _ _ _ ⟨rfl,_⟩;rfl
  rd_keep h _:=h
  rd_mono h _:=h
  own_frame h _:=h
  own_rd h _:=h.1
  own_one:=by rintro _ _ _ _ ⟨rfl,_⟩;simp [Value.oneCell']
  zero_own _:=⟨rfl,rfl⟩
instance:Flat DMsg:=⟨fun h=>⟨h,rfl⟩⟩
structure DLabel where
  levels:List Int
  deriving DecidableEq
instance:Dat DLabel where
  ty:=26
  sz:=1
  zero:=⟨[]⟩
  zc:=[.slice none 0 0]
  pos:=by omega
  rd S w cs x:=∃ (a0:Option Addr) (c0:Nat),cs=[.slice a0 x.levels.length c0]∧rdS S w a0 c0 x.levels
  own w cs F x:=∃ (a0:Option Addr) (c0:Nat),cs=[.slice a0 x.levels.length c0]∧Holds [sl a0 c0 x.levels] w F
  rd_len:=by rintro _ _ _ _ ⟨a0,c0,rfl,_⟩;rfl
  own_len:=by rintro _ _ _ _ ⟨a0,c0,rfl,_⟩;rfl
  rd_keep:=by rintro _ _ _ _ _ ⟨a0,c0,rfl,h0⟩ hk;exact ⟨a0,c0,rfl,h0.keep hk⟩
  rd_mono:=by rintro _ _ _ _ _ ⟨a0,c0,rfl,h0⟩ hk;exact ⟨a0,c0,rfl,h0.mono hk⟩
  own_frame:=by rintro _ _ _ _ _ ⟨a0,c0,rfl,h⟩ hk;exact ⟨a0,c0,rfl,h.frame hk⟩
  own_rd:=by rintro _ _ _ _ _ ⟨a0,c0,rfl,h⟩ hk;exact ⟨a0,c0,rfl,Holds.rd_at h 0 rfl hk⟩
  own_one:=by rintro _ _ _ _ ⟨a0,c0,rfl,_⟩;simp [Value.oneCell']
  zero_own _:=⟨none,0,rfl,⟨[],[],rfl,.inl ⟨rfl,rfl,rfl,rfl⟩,rfl⟩⟩
structure DBoot where
  label:DLabel
  own:List Int
  amt:DAmt
  deriving DecidableEq
instance:Dat DBoot where
  ty:=131
  sz:=5
  zero:=⟨⟨[]⟩,[],⟨0,0,0⟩⟩
  zc:=[.slice none 0 0,.slice none 0 0,.int .i64 0,.int .i64 0,.int .i64 0]
  pos:=by omega
  rd S w cs x:=∃ (a0:Option Addr) (c0:Nat) (a1:Option Addr) (c1:Nat),cs=[.slice a0 x.label.levels.length c0,.slice a1 x.own.length c1,.int .i64 x.amt.pages,.int .i64 x.amt.rent,.int .i64 x.amt.cpu]∧rdS S w a0 c0 x.label.levels∧rdS S w a1 c1 x.own
  own w cs F x:=∃ (a0:Option Addr) (c0:Nat) (a1:Option Addr) (c1:Nat),cs=[.slice a0 x.label.levels.length c0,.slice a1 x.own.length c1,.int .i64 x.amt.pages,.int .i64 x.amt.rent,.int .i64 x.amt.cpu]∧Holds [sl a0 c0 x.label.levels,sl a1 c1 x.own] w F
  rd_len:=by rintro _ _ _ _ ⟨a0,c0,a1,c1,rfl,_⟩;rfl
  own_len:=by rintro _ _ _ _ ⟨a0,c0,a1,c1,rfl,_⟩;rfl
  rd_keep:=by rintro _ _ _ _ _ ⟨a0,c0,a1,c1,rfl,h0,h1⟩ hk;exact ⟨a0,c0,a1,c1,rfl,h0.keep hk,h1.keep hk⟩
  rd_mono:=by rintro _ _ _ _ _ ⟨a0,c0,a1,c1,rfl,h0,h1⟩ hk;exact ⟨a0,c0,a1,c1,rfl,h0.mono hk,h1.mono hk⟩
  own_frame:=by rintro _ _ _ _ _ ⟨a0,c0,a1,c1,rfl,h⟩ hk;exact ⟨a0,c0,a1,c1,rfl,h.frame hk⟩
  own_rd:=by rintro _ _ _ _ _ ⟨a0,c0,a1,c1,rfl,h⟩ hk;exact ⟨a0,c0,a1,c1,rfl,Holds.rd_at h 0 rfl hk,Holds.rd_at h 1 rfl hk⟩
  own_one:=by rintro _ _ _ _ ⟨a0,c0,a1,c1,rfl,_⟩;simp [Value.oneCell']
  zero_own _:=⟨none,0,none,0,rfl,⟨[],[],rfl,.inl ⟨rfl,rfl,rfl,rfl⟩,⟨[],[],rfl,.inl ⟨rfl,rfl,rfl,rfl⟩,rfl⟩⟩⟩
structure DTree where
  list:List DRes
  deriving DecidableEq
instance:Dat DTree where
  ty:=192
  sz:=1
  zero:=⟨[]⟩
  zc:=[.slice none 0 0]
  pos:=by omega
  rd S w cs x:=∃ (a0:Option Addr) (c0:Nat),cs=[.slice a0 x.list.length c0]∧rdS S w a0 c0 x.list
  own w cs F x:=∃ (a0:Option Addr) (c0:Nat),cs=[.slice a0 x.list.length c0]∧Holds [sl a0 c0 x.list] w F
  rd_len:=by rintro _ _ _ _ ⟨a0,c0,rfl,_⟩;rfl
  own_len:=by rintro _ _ _ _ ⟨a0,c0,rfl,_⟩;rfl
  rd_keep:=by rintro _ _ _ _ _ ⟨a0,c0,rfl,h0⟩ hk;exact ⟨a0,c0,rfl,h0.keep hk⟩
  rd_mono:=by rintro _ _ _ _ _ ⟨a0,c0,rfl,h0⟩ hk;exact ⟨a0,c0,rfl,h0.mono hk⟩
  own_frame:=by rintro _ _ _ _ _ ⟨a0,c0,rfl,h⟩ hk;exact ⟨a0,c0,rfl,h.frame hk⟩
  own_rd:=by rintro _ _ _ _ _ ⟨a0,c0,rfl,h⟩ hk;exact ⟨a0,c0,rfl,Holds.rd_at h 0 rfl hk⟩
  own_one:=by rintro _ _ _ _ ⟨a0,c0,rfl,_⟩;simp [Value.oneCell']
  zero_own _:=⟨none,0,rfl,⟨[],[],rfl,.inl ⟨rfl,rfl,rfl,rfl⟩,rfl⟩⟩
structure DObj where
  gen:Int
  kind:Int
  box:Int
  res:Int
  til:Int
  pages:Int
  wait:Int
  got:Int
  ran:Int
  mark:Bool
  links:List Int
  data:List Int
  queue:List DMsg
  deriving DecidableEq
instance:Dat DObj where
  ty:=44
  sz:=13
  zero:=⟨0,0,0,0,0,0,0,0,0,false,[],[],[]⟩
  zc:=[.int .i64 0,.int .i64 0,.int .i64 0,.int .i64 0,.int .i64 0,.int .i64 0,.int .i64 0,.int .i64 0,.int .i64 0,.bool false,.slice none 0 0,.slice none 0 0,.slice none 0 0]
  pos:=by omega
  rd S w cs x:=∃ (a10:Option Addr) (c10:Nat) (a11:Option Addr) (c11:Nat) (a12:Option Addr) (c12:Nat),cs=[.int .i64 x.gen,.int .i64 x.kind,.int .i64 x.box,.int .i64 x.res,.int .i64 x.til,.int .i64 x.pages,.int .i64 x.wait,.int .i64 x.got,.int .i64 x.ran,.bool x.mark,.slice a10 x.links.length c10,.slice a11 x.data.length c11,.slice a12 x.queue.length c12]∧rdS S w a10 c10 x.links∧rdS S w a11 c11 x.data∧rdS S w a12 c12 x.queue
  own w cs F x:=∃ (a10:Option Addr) (c10:Nat) (a11:Option Addr) (c11:Nat) (a12:Option Addr) (c12:Nat),cs=[.int .i64 x.gen,.int .i64 x.kind,.int .i64 x.box,.int .i64 x.res,.int .i64 x.til,.int .i64 x.pages,.int .i64 x.wait,.int .i64 x.got,.int .i64 x.ran,.bool x.mark,.slice a10 x.links.length c10,.slice a11 x.data.length c11,.slice a12 x.queue.length c12]∧Holds [sl a10 c10 x.links,sl a11 c11 x.data,sl a12 c12 x.queue] w F
  rd_len:=by rintro _ _ _ _ ⟨a10,c10,a11,c11,a12,c12,rfl,_⟩;rfl
  own_len:=by rintro _ _ _ _ ⟨a10,c10,a11,c11,a12,c12,rfl,_⟩;rfl
  rd_keep:=by rintro _ _ _ _ _ ⟨a10,c10,a11,c11,a12,c12,rfl,h10,h11,h12⟩ hk;exact ⟨a10,c10,a11,c11,a12,c12,rfl,h10.keep hk,h11.keep hk,h12.keep hk⟩
  rd_mono:=by rintro _ _ _ _ _ ⟨a10,c10,a11,c11,a12,c12,rfl,h10,h11,h12⟩ hk;exact ⟨a10,c10,a11,c11,a12,c12,rfl,h10.mono hk,h11.mono hk,h12.mono hk⟩
  own_frame:=by rintro _ _ _ _ _ ⟨a10,c10,a11,c11,a12,c12,rfl,h⟩ hk;exact ⟨a10,c10,a11,c11,a12,c12,rfl,h.frame hk⟩
  own_rd:=by rintro _ _ _ _ _ ⟨a10,c10,a11,c11,a12,c12,rfl,h⟩ hk;exact ⟨a10,c10,a11,c11,a12,c12,rfl,Holds.rd_at h 0 rfl hk,Holds.rd_at h 1 rfl hk,Holds.rd_at h 2 rfl hk⟩
  own_one:=by rintro _ _ _ _ ⟨a10,c10,a11,c11,a12,c12,rfl,_⟩;simp [Value.oneCell']
  zero_own _:=⟨none,0,none,0,none,0,rfl,⟨[],[],rfl,.inl ⟨rfl,rfl,rfl,rfl⟩,⟨[],[],rfl,.inl ⟨rfl,rfl,rfl,rfl⟩,⟨[],[],rfl,.inl ⟨rfl,rfl,rfl,rfl⟩,rfl⟩⟩⟩⟩
structure DGc where
  phase:Int
  pos:Int
  round:Int
  grey:List Int
  deriving DecidableEq
instance:Dat DGc where
  ty:=30
  sz:=4
  zero:=⟨0,0,0,[]⟩
  zc:=[.int .i64 0,.int .i64 0,.int .i64 0,.slice none 0 0]
  pos:=by omega
  rd S w cs x:=∃ (a3:Option Addr) (c3:Nat),cs=[.int .i64 x.phase,.int .i64 x.pos,.int .i64 x.round,.slice a3 x.grey.length c3]∧rdS S w a3 c3 x.grey
  own w cs F x:=∃ (a3:Option Addr) (c3:Nat),cs=[.int .i64 x.phase,.int .i64 x.pos,.int .i64 x.round,.slice a3 x.grey.length c3]∧Holds [sl a3 c3 x.grey] w F
  rd_len:=by rintro _ _ _ _ ⟨a3,c3,rfl,_⟩;rfl
  own_len:=by rintro _ _ _ _ ⟨a3,c3,rfl,_⟩;rfl
  rd_keep:=by rintro _ _ _ _ _ ⟨a3,c3,rfl,h3⟩ hk;exact ⟨a3,c3,rfl,h3.keep hk⟩
  rd_mono:=by rintro _ _ _ _ _ ⟨a3,c3,rfl,h3⟩ hk;exact ⟨a3,c3,rfl,h3.mono hk⟩
  own_frame:=by rintro _ _ _ _ _ ⟨a3,c3,rfl,h⟩ hk;exact ⟨a3,c3,rfl,h.frame hk⟩
  own_rd:=by rintro _ _ _ _ _ ⟨a3,c3,rfl,h⟩ hk;exact ⟨a3,c3,rfl,Holds.rd_at h 0 rfl hk⟩
  own_one:=by rintro _ _ _ _ ⟨a3,c3,rfl,_⟩;simp [Value.oneCell']
  zero_own _:=⟨none,0,rfl,⟨[],[],rfl,.inl ⟨rfl,rfl,rfl,rfl⟩,rfl⟩⟩
structure DHeap where
  arena:List DObj
  gc:DGc
  deriving DecidableEq
instance:Dat DHeap where
  ty:=32
  sz:=5
  zero:=⟨[],⟨0,0,0,[]⟩⟩
  zc:=[.slice none 0 0,.int .i64 0,.int .i64 0,.int .i64 0,.slice none 0 0]
  pos:=by omega
  rd S w cs x:=∃ (a0:Option Addr) (c0:Nat) (a4:Option Addr) (c4:Nat),cs=[.slice a0 x.arena.length c0,.int .i64 x.gc.phase,.int .i64 x.gc.pos,.int .i64 x.gc.round,.slice a4 x.gc.grey.length c4]∧rdS S w a0 c0 x.arena∧rdS S w a4 c4 x.gc.grey
  own w cs F x:=∃ (a0:Option Addr) (c0:Nat) (a4:Option Addr) (c4:Nat),cs=[.slice a0 x.arena.length c0,.int .i64 x.gc.phase,.int .i64 x.gc.pos,.int .i64 x.gc.round,.slice a4 x.gc.grey.length c4]∧Holds [sl a0 c0 x.arena,sl a4 c4 x.gc.grey] w F
  rd_len:=by rintro _ _ _ _ ⟨a0,c0,a4,c4,rfl,_⟩;rfl
  own_len:=by rintro _ _ _ _ ⟨a0,c0,a4,c4,rfl,_⟩;rfl
  rd_keep:=by rintro _ _ _ _ _ ⟨a0,c0,a4,c4,rfl,h0,h4⟩ hk;exact ⟨a0,c0,a4,c4,rfl,h0.keep hk,h4.keep hk⟩
  rd_mono:=by rintro _ _ _ _ _ ⟨a0,c0,a4,c4,rfl,h0,h4⟩ hk;exact ⟨a0,c0,a4,c4,rfl,h0.mono hk,h4.mono hk⟩
  own_frame:=by rintro _ _ _ _ _ ⟨a0,c0,a4,c4,rfl,h⟩ hk;exact ⟨a0,c0,a4,c4,rfl,h.frame hk⟩
  own_rd:=by rintro _ _ _ _ _ ⟨a0,c0,a4,c4,rfl,h⟩ hk;exact ⟨a0,c0,a4,c4,rfl,Holds.rd_at h 0 rfl hk,Holds.rd_at h 1 rfl hk⟩
  own_one:=by rintro _ _ _ _ ⟨a0,c0,a4,c4,rfl,_⟩;simp [Value.oneCell']
  zero_own _:=⟨none,0,none,0,rfl,⟨[],[],rfl,.inl ⟨rfl,rfl,rfl,rfl⟩,⟨[],[],rfl,.inl ⟨rfl,rfl,rfl,rfl⟩,rfl⟩⟩⟩
structure DPart where
  label:DLabel
  own:List Int
  tree:List DRes
  heap:DHeap
  taps:List DTap
  next:Int
  want:Int
  spent:DAmt
  press:Int
  lost:Int
  deriving DecidableEq
instance:Dat DPart where
  ty:=37
  sz:=16
  zero:=⟨⟨[]⟩,[],[],⟨[],⟨0,0,0,[]⟩⟩,[],0,0,⟨0,0,0⟩,0,0⟩
  zc:=[.slice none 0 0,.slice none 0 0,.slice none 0 0,.slice none 0 0,.int .i64 0,.int .i64 0,.int .i64 0,.slice none 0 0,.slice none 0 0,.int .i64 0,.int .i64 0,.int .i64 0,.int .i64 0,.int .i64 0,.int .i64 0,.int .i64 0]
  pos:=by omega
  rd S w cs x:=∃ (a0:Option Addr) (c0:Nat) (a1:Option Addr) (c1:Nat) (a2:Option Addr) (c2:Nat) (a3:Option Addr) (c3:Nat) (a7:Option Addr) (c7:Nat) (a8:Option Addr) (c8:Nat),cs=[.slice a0 x.label.levels.length c0,.slice a1 x.own.length c1,.slice a2 x.tree.length c2,.slice a3 x.heap.arena.length c3,.int .i64 x.heap.gc.phase,.int .i64 x.heap.gc.pos,.int .i64 x.heap.gc.round,.slice a7 x.heap.gc.grey.length c7,.slice a8 x.taps.length c8,.int .i64 x.next,.int .i64 x.want,.int .i64 x.spent.pages,.int .i64 x.spent.rent,.int .i64 x.spent.cpu,.int .i64 x.press,.int .i64 x.lost]∧rdS S w a0 c0 x.label.levels∧rdS S w a1 c1 x.own∧rdS S w a2 c2 x.tree∧rdS S w a3 c3 x.heap.arena∧rdS S w a7 c7 x.heap.gc.grey∧rdS S w a8 c8 x.taps
  own w cs F x:=∃ (a0:Option Addr) (c0:Nat) (a1:Option Addr) (c1:Nat) (a2:Option Addr) (c2:Nat) (a3:Option Addr) (c3:Nat) (a7:Option Addr) (c7:Nat) (a8:Option Addr) (c8:Nat),cs=[.slice a0 x.label.levels.length c0,.slice a1 x.own.length c1,.slice a2 x.tree.length c2,.slice a3 x.heap.arena.length c3,.int .i64 x.heap.gc.phase,.int .i64 x.heap.gc.pos,.int .i64 x.heap.gc.round,.slice a7 x.heap.gc.grey.length c7,.slice a8 x.taps.length c8,.int .i64 x.next,.int .i64 x.want,.int .i64 x.spent.pages,.int .i64 x.spent.rent,.int .i64 x.spent.cpu,.int .i64 x.press,.int .i64 x.lost]∧Holds [sl a0 c0 x.label.levels,sl a1 c1 x.own,sl a2 c2 x.tree,sl a3 c3 x.heap.arena,sl a7 c7 x.heap.gc.grey,sl a8 c8 x.taps] w F
  rd_len:=by rintro _ _ _ _ ⟨a0,c0,a1,c1,a2,c2,a3,c3,a7,c7,a8,c8,rfl,_⟩;rfl
  own_len:=by rintro _ _ _ _ ⟨a0,c0,a1,c1,a2,c2,a3,c3,a7,c7,a8,c8,rfl,_⟩;rfl
  rd_keep:=by rintro _ _ _ _ _ ⟨a0,c0,a1,c1,a2,c2,a3,c3,a7,c7,a8,c8,rfl,h0,h1,h2,h3,h7,h8⟩ hk;exact ⟨a0,c0,a1,c1,a2,c2,a3,c3,a7,c7,a8,c8,rfl,h0.keep hk,h1.keep hk,h2.keep hk,h3.keep hk,h7.keep hk,h8.keep hk⟩
  rd_mono:=by rintro _ _ _ _ _ ⟨a0,c0,a1,c1,a2,c2,a3,c3,a7,c7,a8,c8,rfl,h0,h1,h2,h3,h7,h8⟩ hk;exact ⟨a0,c0,a1,c1,a2,c2,a3,c3,a7,c7,a8,c8,rfl,h0.mono hk,h1.mono hk,h2.mono hk,h3.mono hk,h7.mono hk,h8.mono hk⟩
  own_frame:=by rintro _ _ _ _ _ ⟨a0,c0,a1,c1,a2,c2,a3,c3,a7,c7,a8,c8,rfl,h⟩ hk;exact ⟨a0,c0,a1,c1,a2,c2,a3,c3,a7,c7,a8,c8,rfl,h.frame hk⟩
  own_rd:=by rintro _ _ _ _ _ ⟨a0,c0,a1,c1,a2,c2,a3,c3,a7,c7,a8,c8,rfl,h⟩ hk;exact ⟨a0,c0,a1,c1,a2,c2,a3,c3,a7,c7,a8,c8,rfl,Holds.rd_at h 0 rfl hk,Holds.rd_at h 1 rfl hk,Holds.rd_at h 2 rfl hk,Holds.rd_at h 3 rfl hk,Holds.rd_at h 4 rfl hk,Holds.rd_at h 5 rfl hk⟩
  own_one:=by rintro _ _ _ _ ⟨a0,c0,a1,c1,a2,c2,a3,c3,a7,c7,a8,c8,rfl,_⟩;simp [Value.oneCell']
  zero_own _:=⟨none,0,none,0,none,0,none,0,none,0,none,0,rfl,⟨[],[],rfl,.inl ⟨rfl,rfl,rfl,rfl⟩,⟨[],[],rfl,.inl ⟨rfl,rfl,rfl,rfl⟩,⟨[],[],rfl,.inl ⟨rfl,rfl,rfl,rfl⟩,⟨[],[],rfl,.inl ⟨rfl,rfl,rfl,rfl⟩,⟨[],[],rfl,.inl ⟨rfl,rfl,rfl,rfl⟩,⟨[],[],rfl,.inl ⟨rfl,rfl,rfl,rfl⟩,rfl⟩⟩⟩⟩⟩⟩⟩
structure DWorld where
  now:Int
  parts:List DPart
  deriving DecidableEq
instance:Dat DWorld where
  ty:=77
  sz:=2
  zero:=⟨0,[]⟩
  zc:=[.int .i64 0,.slice none 0 0]
  pos:=by omega
  rd S w cs x:=∃ (a1:Option Addr) (c1:Nat),cs=[.int .i64 x.now,.slice a1 x.parts.length c1]∧rdS S w a1 c1 x.parts
  own w cs F x:=∃ (a1:Option Addr) (c1:Nat),cs=[.int .i64 x.now,.slice a1 x.parts.length c1]∧Holds [sl a1 c1 x.parts] w F
  rd_len:=by rintro _ _ _ _ ⟨a1,c1,rfl,_⟩;rfl
  own_len:=by rintro _ _ _ _ ⟨a1,c1,rfl,_⟩;rfl
  rd_keep:=by rintro _ _ _ _ _ ⟨a1,c1,rfl,h1⟩ hk;exact ⟨a1,c1,rfl,h1.keep hk⟩
  rd_mono:=by rintro _ _ _ _ _ ⟨a1,c1,rfl,h1⟩ hk;exact ⟨a1,c1,rfl,h1.mono hk⟩
  own_frame:=by rintro _ _ _ _ _ ⟨a1,c1,rfl,h⟩ hk;exact ⟨a1,c1,rfl,h.frame hk⟩
  own_rd:=by rintro _ _ _ _ _ ⟨a1,c1,rfl,h⟩ hk;exact ⟨a1,c1,rfl,Holds.rd_at h 0 rfl hk⟩
  own_one:=by rintro _ _ _ _ ⟨a1,c1,rfl,_⟩;simp [Value.oneCell']
  zero_own _:=⟨none,0,rfl,⟨[],[],rfl,.inl ⟨rfl,rfl,rfl,rfl⟩,rfl⟩⟩
structure DCur where
  b:List U8
  i:Int
  h:Int
  deriving DecidableEq
structure DPartV where
  label:DLabel
  own:List Int
  tree:Hd
  heap:DHeap
  taps:List DTap
  next:Int
  want:Int
  spent:DAmt
  press:Int
  lost:Int
instance:Dat DPartV where
  ty:=37
  sz:=16
  zero:=⟨⟨[]⟩,[],⟨none,0,0⟩,⟨[],⟨0,0,0,[]⟩⟩,[],0,0,⟨0,0,0⟩,0,0⟩
  zc:=[.slice none 0 0,.slice none 0 0,.slice none 0 0,.slice none 0 0,.int .i64 0,.int .i64 0,.int .i64 0,.slice none 0 0,.slice none 0 0,.int .i64 0,.int .i64 0,.int .i64 0,.int .i64 0,.int .i64 0,.int .i64 0,.int .i64 0]
  pos:=by omega
  rd S w cs x:=∃ (a0:Option Addr) (c0:Nat) (a1:Option Addr) (c1:Nat) (a3:Option Addr) (c3:Nat) (a7:Option Addr) (c7:Nat) (a8:Option Addr) (c8:Nat),cs=[.slice a0 x.label.levels.length c0,.slice a1 x.own.length c1,.slice x.tree.a x.tree.n x.tree.c,.slice a3 x.heap.arena.length c3,.int .i64 x.heap.gc.phase,.int .i64 x.heap.gc.pos,.int .i64 x.heap.gc.round,.slice a7 x.heap.gc.grey.length c7,.slice a8 x.taps.length c8,.int .i64 x.next,.int .i64 x.want,.int .i64 x.spent.pages,.int .i64 x.spent.rent,.int .i64 x.spent.cpu,.int .i64 x.press,.int .i64 x.lost]∧rdS S w a0 c0 x.label.levels∧rdS S w a1 c1 x.own∧rdS S w a3 c3 x.heap.arena∧rdS S w a7 c7 x.heap.gc.grey∧rdS S w a8 c8 x.taps
  own w cs F x:=∃ (a0:Option Addr) (c0:Nat) (a1:Option Addr) (c1:Nat) (a3:Option Addr) (c3:Nat) (a7:Option Addr) (c7:Nat) (a8:Option Addr) (c8:Nat),cs=[.slice a0 x.label.levels.length c0,.slice a1 x.own.length c1,.slice x.tree.a x.tree.n x.tree.c,.slice a3 x.heap.arena.length c3,.int .i64 x.heap.gc.phase,.int .i64 x.heap.gc.pos,.int .i64 x.heap.gc.round,.slice a7 x.heap.gc.grey.length c7,.slice a8 x.taps.length c8,.int .i64 x.next,.int .i64 x.want,.int .i64 x.spent.pages,.int .i64 x.spent.rent,.int .i64 x.spent.cpu,.int .i64 x.press,.int .i64 x.lost]∧Holds [sl a0 c0 x.label.levels,sl a1 c1 x.own,sl a3 c3 x.heap.arena,sl a7 c7 x.heap.gc.grey,sl a8 c8 x.taps] w F
  rd_len:=by rintro _ _ _ _ ⟨a0,c0,a1,c1,a3,c3,a7,c7,a8,c8,rfl,_⟩;rfl
  own_len:=by rintro _ _ _ _ ⟨a0,c0,a1,c1,a3,c3,a7,c7,a8,c8,rfl,_⟩;rfl
  rd_keep:=by rintro _ _ _ _ _ ⟨a0,c0,a1,c1,a3,c3,a7,c7,a8,c8,rfl,h0,h1,h3,h7,h8⟩ hk;exact ⟨a0,c0,a1,c1,a3,c3,a7,c7,a8,c8,rfl,h0.keep hk,h1.keep hk,h3.keep hk,h7.keep hk,h8.keep hk⟩
  rd_mono:=by rintro _ _ _ _ _ ⟨a0,c0,a1,c1,a3,c3,a7,c7,a8,c8,rfl,h0,h1,h3,h7,h8⟩ hk;exact ⟨a0,c0,a1,c1,a3,c3,a7,c7,a8,c8,rfl,h0.mono hk,h1.mono hk,h3.mono hk,h7.mono hk,h8.mono hk⟩
  own_frame:=by rintro _ _ _ _ _ ⟨a0,c0,a1,c1,a3,c3,a7,c7,a8,c8,rfl,h⟩ hk;exact ⟨a0,c0,a1,c1,a3,c3,a7,c7,a8,c8,rfl,h.frame hk⟩
  own_rd:=by rintro _ _ _ _ _ ⟨a0,c0,a1,c1,a3,c3,a7,c7,a8,c8,rfl,h⟩ hk;exact ⟨a0,c0,a1,c1,a3,c3,a7,c7,a8,c8,rfl,Holds.rd_at h 0 rfl hk,Holds.rd_at h 1 rfl hk,Holds.rd_at h 2 rfl hk,Holds.rd_at h 3 rfl hk,Holds.rd_at h 4 rfl hk⟩
  own_one:=by rintro _ _ _ _ ⟨a0,c0,a1,c1,a3,c3,a7,c7,a8,c8,rfl,_⟩;simp [Value.oneCell']
  zero_own _:=⟨none,0,none,0,none,0,none,0,none,0,rfl,⟨[],[],rfl,.inl ⟨rfl,rfl,rfl,rfl⟩,⟨[],[],rfl,.inl ⟨rfl,rfl,rfl,rfl⟩,⟨[],[],rfl,.inl ⟨rfl,rfl,rfl,rfl⟩,⟨[],[],rfl,.inl ⟨rfl,rfl,rfl,rfl⟩,⟨[],[],rfl,.inl ⟨rfl,rfl,rfl,rfl⟩,rfl⟩⟩⟩⟩⟩⟩
structure DTreeV where
  list:Hd
instance:Dat DTreeV where
  ty:=192
  sz:=1
  zero:=⟨⟨none,0,0⟩⟩
  zc:=[.slice none 0 0]
  pos:=by omega
  rd _ _ cs x:=cs=[.slice x.list.a x.list.n x.list.c]
  own _ cs F x:=cs=[.slice x.list.a x.list.n x.list.c]∧F=[]
  rd_len:=by rintro _ _ _ _ rfl;rfl
  own_len:=by rintro _ _ _ _ ⟨rfl,_⟩;rfl
  rd_keep h _:=h
  rd_mono h _:=h
  own_frame h _:=h
  own_rd h _:=h.1
  own_one:=by rintro _ _ _ _ ⟨rfl,_⟩;simp [Value.oneCell']
  zero_own _:=⟨rfl,rfl⟩
instance:Flat DTreeV:=⟨fun h=>⟨h,rfl⟩⟩
structure DObjP where
  gen:Int
  kind:Int
  box:Int
  res:Int
  til:Int
  pages:Int
  wait:Int
  got:Int
  ran:Int
  mark:Bool
  deriving DecidableEq
instance:Dat DObjP where
  ty:=44
  sz:=13
  zero:=⟨0,0,0,0,0,0,0,0,0,false⟩
  zc:=[.int .i64 0,.int .i64 0,.int .i64 0,.int .i64 0,.int .i64 0,.int .i64 0,.int .i64 0,.int .i64 0,.int .i64 0,.bool false,.slice none 0 0,.slice none 0 0,.slice none 0 0]
  pos:=by omega
  rd _ _ cs x:=∃ (a0:Option Addr) (n0 c0:Nat) (a1:Option Addr) (n1 c1:Nat) (a2:Option Addr) (n2 c2:Nat),cs=[.int .i64 x.gen,.int .i64 x.kind,.int .i64 x.box,.int .i64 x.res,.int .i64 x.til,.int .i64 x.pages,.int .i64 x.wait,.int .i64 x.got,.int .i64 x.ran,.bool x.mark,.slice a0 n0 c0,.slice a1 n1 c1,.slice a2 n2 c2]
  own _ cs F x:=(∃ (a0:Option Addr) (n0 c0:Nat) (a1:Option Addr) (n1 c1:Nat) (a2:Option Addr) (n2 c2:Nat),cs=[.int .i64 x.gen,.int .i64 x.kind,.int .i64 x.box,.int .i64 x.res,.int .i64 x.til,.int .i64 x.pages,.int .i64 x.wait,.int .i64 x.got,.int .i64 x.ran,.bool x.mark,.slice a0 n0 c0,.slice a1 n1 c1,.slice a2 n2 c2])∧F=[]
  rd_len:=by rintro _ _ _ _ ⟨a0,n0,c0,a1,n1,c1,a2,n2,c2,rfl⟩;rfl
  own_len:=by rintro _ _ _ _ ⟨⟨a0,n0,c0,a1,n1,c1,a2,n2,c2,rfl⟩,_⟩;rfl
  rd_keep h _:=h
  rd_mono h _:=h
  own_frame h _:=h
  own_rd h _:=h.1
  own_one:=by rintro _ _ _ _ ⟨⟨a0,n0,c0,a1,n1,c1,a2,n2,c2,rfl⟩,_⟩;simp [Value.oneCell']
  zero_own _:=⟨⟨_,_,_,_,_,_,_,_,_,rfl⟩,rfl⟩
def partTrees (l:List DPart):List (List DRes):=l.map fun p=>p.tree
def treeLists (l:List DTree):List (List DRes):=l.map fun t=>t.list
def treesOf (l:List DPart):List DTree:=(partTrees l).map DTree.mk
def putTree (p:DPart) (t:List DRes):DPart:=DPart.mk p.label p.own t p.heap p.taps p.next p.want p.spent p.press p.lost
def putTrees (l:List DPart) (ts:List (List DRes)):List DPart:=List.zipWith putTree l ts
def gd (b:Bool):Option Unit:=bif b then some () else none
class Fit (α:Type) where
  fit:α→Prop
instance:Fit Int:=⟨fun x=>-9223372036854775808≤x∧x≤9223372036854775807⟩
instance:Fit Bool:=⟨fun _=>True⟩
instance:Fit U8:=⟨fun x=>0≤x.v∧x.v≤255⟩
instance {α:Type} [Fit α]:Fit (List α):=⟨fun l=>l.length≤maxLen∧∀ y,y ∈ l→Fit.fit y⟩
instance:Fit DAmt:=⟨fun x=>Fit.fit x.pages∧Fit.fit x.rent∧Fit.fit x.cpu⟩
instance:Fit DCall:=⟨fun x=>Fit.fit x.kind∧Fit.fit x.a∧Fit.fit x.b∧Fit.fit x.c∧Fit.fit x.d∧Fit.fit x.e⟩
instance:Fit DReply:=⟨fun x=>Fit.fit x.code∧Fit.fit x.val⟩
instance:Fit DRes:=⟨fun x=>Fit.fit x.live∧Fit.fit x.parent∧Fit.fit x.bal⟩
instance:Fit DTap:=⟨fun x=>Fit.fit x.res∧Fit.fit x.toPart∧Fit.fit x.toRes∧Fit.fit x.which∧Fit.fit x.kind∧Fit.fit x.rate⟩
instance:Fit DMsg:=⟨fun x=>Fit.fit x.src∧Fit.fit x.n⟩
instance:Fit DLabel:=⟨fun x=>Fit.fit x.levels⟩
instance:Fit DBoot:=⟨fun x=>Fit.fit x.label∧Fit.fit x.own∧Fit.fit x.amt⟩
instance:Fit DTree:=⟨fun x=>Fit.fit x.list⟩
instance:Fit DObj:=⟨fun x=>Fit.fit x.gen∧Fit.fit x.kind∧Fit.fit x.box∧Fit.fit x.res∧Fit.fit x.til∧Fit.fit x.pages∧Fit.fit x.wait∧Fit.fit x.got∧Fit.fit x.ran∧Fit.fit x.mark∧Fit.fit x.links∧Fit.fit x.data∧Fit.fit x.queue⟩
instance:Fit DGc:=⟨fun x=>Fit.fit x.phase∧Fit.fit x.pos∧Fit.fit x.round∧Fit.fit x.grey⟩
instance:Fit DHeap:=⟨fun x=>Fit.fit x.arena∧Fit.fit x.gc⟩
instance:Fit DPart:=⟨fun x=>Fit.fit x.label∧Fit.fit x.own∧Fit.fit x.tree∧Fit.fit x.heap∧Fit.fit x.taps∧Fit.fit x.next∧Fit.fit x.want∧Fit.fit x.spent∧Fit.fit x.press∧Fit.fit x.lost⟩
instance:Fit DWorld:=⟨fun x=>Fit.fit x.now∧Fit.fit x.parts⟩
instance:Fit DCur:=⟨fun x=>Fit.fit x.b∧Fit.fit x.i∧Fit.fit x.h⟩
end Go.Kx
