/- The plain law of 'FnGate'. No program in sight. -/
import Derived.Test.YtljikolgijlbeaaGreatLSim
import Derived.Test.YtljikolgijlbeaaGreatLTick
import Derived.Test.YtljikolgijlbeaaGreatLDraw
namespace Go.Kx
open Go
set_option linter.unusedVariables false
set_option linter.unusedSimpArgs false
set_option linter.unusedSectionVars false
set_option maxRecDepth 100000
section
variable {g:Chg} (hg:Gq g)
include hg
theorem victim_f (p:DPart) (now:Int):victim (fP g p) now=victim p now:=by
  unfold victim
  rw [threads_f hg]
  have hb:better (fP g p)=better p:=by
    funext v i
    unfold better
    rw [balAt_f hg,balAt_f hg]
  rw [hb]
theorem kill_f (p:DPart) (now:Int):partKill (fP g p) now=fP g (partKill p now):=by
  unfold partKill
  rw [partOk_f hg]
  have hk:killed (fP g p) now=fA g (killed p now):=by
    unfold killed
    rw [victim_f hg]
    split
    · show (fA g p.heap.arena).set _ (tilled (nth (fA g p.heap.arena) _) _)=_
      rw [nth_f hg]
      exact fA_set hg p.heap.arena _ (tilled (nth p.heap.arena (victim p now)) (IntKind.i64.wrap (now - 1)))
    · rfl
  rw [hk]
  show (if partOk p&&(inR now 1 1000000&&!decide (p.press<3)) then _ else _)=_
  split <;> rfl
theorem nth_fP (l:List DPart) (i:Int):nth (l.map (fP g)) i=fP g (nth l i):=by
  unfold nth
  rw [List.getElem?_map]
  cases l[i.toNat]? with
  | none=>rfl
  | some o=>rfl
theorem putTrees_f:∀ (l:List DPart) (ts:List (List DRes)),putTrees (l.map (fP g)) ts=(putTrees l ts).map (fP g)
  | [],_=>by simp [putTrees]
  | _::_,[]=>by simp [putTrees]
  | p::l,t::ts=>by
    show putTree (fP g p) t::putTrees (l.map (fP g)) ts=fP g (putTree p t)::(putTrees l ts).map (fP g)
    rw [putTrees_f l ts];rfl
theorem taps_f (w:DWorld) (p:Int):partTaps (fW g w) p=fW g (partTaps w p):=by
  unfold partTaps
  have h1:hasPart (fW g w) p=hasPart w p:=by
    unfold hasPart fW
    rw [List.length_map]
  have h2:treesOf (fW g w).parts=treesOf w.parts:=by
    have e:(w.parts.map (fP g)).map (fun p=>p.tree)=w.parts.map (fun p=>p.tree):=by rw [List.map_map];rfl
    show ((w.parts.map (fP g)).map (fun p=>p.tree)).map DTree.mk=(w.parts.map (fun p=>p.tree)).map DTree.mk
    rw [e]
  rw [worldOk_f hg,h1,h2,show nth (fW g w).parts p=fP g (nth w.parts p) from nth_fP hg _ _,show putTrees (fW g w).parts _=(putTrees w.parts _).map (fP g) from putTrees_f hg _ _]
  split <;> rfl
theorem mid_f (p:DPart) (i now:Int):tickMid (fP g p) i now=fP g (tickMid p i now):=by
  unfold tickMid
  rw [kill_f hg,wake_f hg,collect_f hg]
theorem tickPart_f (n:Nat) (p:DPart) (i now:Int):tickPart n (fP g p) i now=fP g (tickPart n p i now):=by
  unfold tickPart
  rw [mid_f hg,run_f hg]
  cases Int.tmod now (n:Int)==i <;> rfl
theorem tickStep_f (n k:Nat) (w:DWorld):tickStep n k (fW g w)=fW g (tickStep n k w):=by
  unfold tickStep
  rw [taps_f hg]
  show DWorld.mk (partTaps w (k:Int)).now (((partTaps w (k:Int)).parts.map (fP g)).set k (tickPart n (nth ((partTaps w (k:Int)).parts.map (fP g)) (k:Int)) (k:Int) (partTaps w (k:Int)).now))=DWorld.mk _ (((partTaps w (k:Int)).parts.set k _).map (fP g))
  rw [nth_fP hg,tickPart_f hg,List.map_set]
theorem ticks_f {n:Nat}:∀ (l m:List DPart) (k:Nat) (w:DWorld),l.length=m.length→foldI (fun k t (_:DPart)=>tickStep n k t) k (fW g w) l=fW g (foldI (fun k t (_:DPart)=>tickStep n k t) k w m)
  | [],[],_,_,_=>rfl
  | [],_::_,_,_,h=>by simp at h
  | _::_,[],_,_,h=>by simp at h
  | a::l,b::m,k,w,h=>by
    show foldI _ (k+1) (tickStep n k (fW g w)) l=fW g (foldI _ (k+1) (tickStep n k w) m)
    rw [tickStep_f hg]
    exact ticks_f l m (k+1) _ (by simpa using h)
theorem tick_f (w:DWorld):tick (fW g w)=fW g (tick w):=by
  unfold tick
  rw [worldOk_f hg]
  have hl:(fW g w).parts.length=w.parts.length:=List.length_map ..
  rw [hl]
  show (if worldOk w&&!(w.now==1000000) then foldI _ 0 (fW g (DWorld.mk (IntKind.i64.wrap (w.now+1)) w.parts)) (fW g w).parts else _)=_
  rw [ticks_f hg (fW g w).parts w.parts 0 _ hl]
  split <;> rfl
theorem sz_f (p:DPart):sz_DPart (fP g p)=sz_DPart p:=by
  have h1:∀ o,sz_DObj (fq g o)=sz_DObj o:=fun o=>by
    unfold sz_DObj fq
    simp only [hg.len]
  have h2:szL sz_DObj (fA g p.heap.arena)=szL sz_DObj p.heap.arena:=szL_map h1 _
  unfold sz_DPart sz_DHeap
  show _+(_+(_+((szL sz_DObj (fA g p.heap.arena)+_)+_)))=_
  rw [h2];rfl
theorem sz_fL:∀ l:List DPart,szL sz_DPart (l.map (fP g))=szL sz_DPart l:=fun l=>by
  have:∀ l:List DPart,sumL sz_DPart (l.map (fP g))=sumL sz_DPart l:=by
    intro l
    induction l with
    | nil=>rfl
    | cons p l ih =>
      show sz_DPart (fP g p)+sumL sz_DPart (l.map (fP g))=sz_DPart p+sumL sz_DPart l
      rw [ih,sz_f hg]
  unfold szL
  rw [this,List.length_map]
def waitB (w:DWorld):Bool:=w.parts.all fun p=>p.heap.arena.all fun o=>decide (-9223372036854775808≤o.wait)
omit hg in
theorem waitB_w {w:DWorld} (h:waitB w=true):wW (fW g w).parts:=by
  unfold waitB at h
  rw [List.all_eq_true] at h
  intro p hp
  obtain ⟨q,hq,rfl⟩:=List.mem_map.1 (show p ∈ w.parts.map (fP g) from hp)
  have h2:=h q hq
  rw [List.all_eq_true] at h2
  intro o ho
  obtain ⟨x,hx,rfl⟩:=List.mem_map.1 (show o ∈ q.heap.arena.map (fq g) from ho)
  show (-9223372036854775808:Int)≤x.wait
  exact of_decide_eq_true (h2 x hx)
def chk:Nat→DWorld→DWorld→Bool
  | 0,w,y=>decide (w=y)
  | k+1,w,y=>decide (sz_DWorld w≤1048576)&&(waitB w&&chk k (tick w) y)
theorem itr_s {σ ρ:Type} {body:σ→Option (σ⊕ρ)} {s s':σ} {n:Nat} (h:body s=some (.inl s')):iter body (n+1) s=iter body n s':=by show (body s).bind _=_;rw [h];rfl
theorem itr_e {σ ρ:Type} {body:σ→Option (σ⊕ρ)} {s:σ} {r:ρ} {n:Nat} (h:body s=some (.inr r)):iter body (n+1) s=some r:=by show (body s).bind _=_;rw [h];rfl
theorem tick_1 {N:Nat} (hN:BIG≤N) {w:DWorld} (h1:sz_DWorld w≤1048576) (h2:waitB w=true):F_i_Tick N (fW g w)=some (fW g (tick w)):=by
  rw [i_Tick hN (by
    have:sz_DWorld (fW g w)=sz_DWorld w:=by
      unfold sz_DWorld
      show szL sz_DPart (w.parts.map (fP g))+0=_
      rw [sz_fL hg]
    rw [this];exact h1) (waitB_w h2),tick_f hg]
theorem waitLoop {N:Nat} (hN:BIG≤N) {y:DWorld}:∀ (k j M:Nat) (w:DWorld),j+k=22→chk k w y=true→k<M →
    iter (fun (s11:Int×Int×(List DPart))=>(bif (decide (s11.1<22)) then ((F_i_Tick N (DWorld.mk s11.2.1 s11.2.2)).bind fun y14=>some (.inl (IntKind.i64.wrap (s11.1+1),y14.now,y14.parts))) else (some (.inr (s11.1,s11.2.1,s11.2.2))):Option ((Int×Int×(List DPart))⊕(Int×Int×(List DPart))))) M ((j:Int),(fW g w).now,(fW g w).parts)=some (22,(fW g y).now,(fW g y).parts)
  | 0,j,M,w,hj,hc,hM=>by
    have hj:j=22:=by omega
    subst hj
    have hc:w=y:=of_decide_eq_true hc
    subst hc
    obtain ⟨M,rfl⟩:∃ m,M=m+1:=⟨M - 1,by omega⟩
    exact itr_e hg rfl
  | k+1,j,M,w,hj,hc,hM=>by
    unfold chk at hc
    rw [Bool.and_eq_true,Bool.and_eq_true] at hc
    obtain ⟨M,rfl⟩:∃ m,M=m+1:=⟨M - 1,by omega⟩
    have hlt:decide ((j:Int)<22)=true:=decide_eq_true (by omega)
    rw [itr_s hg (s':=(((j+1:Nat):Int),(fW g (tick w)).now,(fW g (tick w)).parts))]
    · exact waitLoop hN k (j+1) M (tick w) (by omega) hc.2.2 (by omega)
    · show (bif decide ((j:Int)<22) then ((F_i_Tick N (fW g w)).bind fun y14=>some (Sum.inl (IntKind.i64.wrap ((j:Int)+1),y14.now,y14.parts))) else _)=_
      rw [hlt,tick_1 hg hN (of_decide_eq_true hc.1) hc.2.1,wrap1 (show j<BIG by have:(16777216:Nat)=BIG:=rfl;omega)]
      rfl
theorem wait_f {N:Nat} (hN:BIG≤N) {w y:DWorld} (hc:chk 22 w y=true):F_l_wait N (fW g w) 22=some (fW g y):=by
  unfold F_l_wait
  have hB:(16777216:Nat)≤N:=hN
  have hc':=hc
  unfold chk at hc'
  rw [Bool.and_eq_true,Bool.and_eq_true] at hc'
  rw [tick_1 hg hN (of_decide_eq_true hc'.1) hc'.2.1]
  simp only [show decide ((0:Int)<22)=true from rfl,cond_true,Option.bind_some]
  rw [show IntKind.i64.wrap (0+1)=((1:Nat):Int) from by decide,waitLoop hg hN 21 1 N (tick w) rfl hc'.2.2 (by omega)]
  rfl
end
theorem bigN:BIG≤BIG+6:=Nat.le_add_right _ _
def gr:DObj:=DObj.mk 0 1 (-1) 0 1000000 0 0 0 0 false [-1, -1] [] []
def th (wt got:Int):DObj:=DObj.mk 1 4 0 0 1000000 0 wt got 0 true [-1, -1] [] []
def ga (c:Int) (q:List DMsg):DObj:=DObj.mk 1 3 0 0 20 c 0 0 0 true [-1, -1] [] q
def t3:DObj:=DObj.mk 1 4 0 0 20 1 0 0 0 true [-1, -1] [] []
def gz:DObj:=DObj.mk 0 0 0 0 0 0 0 0 0 false [] [] []
def pA:DPart:=DPart.mk (DLabel.mk [0,0,0,0]) [] [DRes.mk true (-1) (DAmt.mk 50 9000 500),zRes,zRes,zRes,zRes] (DHeap.mk [gr,th 0 0,gz,gz,gz,gz,gz,gz,gz,gz] (DGc.mk 0 0 0 [0])) [] 0 0 (DAmt.mk 0 0 0) 0 0
def pM (c:Int):DPart:=DPart.mk (DLabel.mk [0,0,0,0]) [] [DRes.mk true (-1) (DAmt.mk (50 - c) (9000 - 20 * c) 500),zRes,zRes,zRes,zRes] (DHeap.mk [gr,th 0 0,ga c [],gz,gz,gz,gz,gz,gz,gz] (DGc.mk 0 0 0 [0])) [] 0 0 (DAmt.mk 0 (20 * c) 0) 0 0
def ag (c:Int) (t:DObj) (q:List DMsg):List DObj:=[gr,t,ga c q,t3,gz,gz,gz,gz,gz,gz]
def pw (c:Int) (t:DObj) (q:List DMsg):DPart:=DPart.mk (DLabel.mk [0,0,0,0]) [] [DRes.mk true (-1) (DAmt.mk (49 - c) (8980 - 20 * c) 500),zRes,zRes,zRes,zRes] (DHeap.mk (ag c t q) (DGc.mk 0 0 0 [0])) [] 0 0 (DAmt.mk 0 (20+20 * c) 0) 0 0
def pY (c:Int):DPart:=DPart.mk (DLabel.mk [0,0,0,0]) [] [DRes.mk true (-1) (DAmt.mk 50 (8980 - 20 * c) 478),zRes,zRes,zRes,zRes] (DHeap.mk [gr,DObj.mk 1 4 0 0 1000000 0 0 (-1) 2 false [-1, -1] [] [],blank 1,blank 1,gz,gz,gz,gz,gz,gz] (DGc.mk 1 4 4 [])) [] 1 0 (DAmt.mk 0 (20+20 * c) 22) 0 0
def C3 (c:Int):Prop:=c=0∨c=1∨c=2
def told (v:Int):Chg:=⟨fun q=>q.map fun m=>bif inR m.n 0 999 then ⟨m.src,v⟩ else m,fun x=>x⟩
def gave (v:Int):Chg:=⟨fun q=>q,fun x=>bif x==1 then v else x⟩
theorem told_ok {v:Int} (h0:0≤v) (h1:v≤255):Gq (told v) where
  len q:=List.length_map ..
  ok q:=by
    show (q.map _).all msgOk=_
    rw [List.all_map]
    congr 1
    funext m
    show msgOk (bif inR m.n 0 999 then ⟨m.src,v⟩ else m)=msgOk m
    cases hn:inR m.n 0 999
    · rfl
    · unfold msgOk
      simp only [cond_true,hn,inR_iff.2 (show 0≤v∧v≤999 by omega)]
  told _:=rfl
  not:=rfl
theorem gave_ok {v:Int} (h0:0≤v) (h1:v≤255):Gq (gave v) where
  len _:=rfl
  ok _:=rfl
  told x:=by
    show inR (bif x==1 then v else x) (-1) 999=_
    cases hx:x==1
    · rfl
    · have:x=1:=by simpa using hx
      subst this
      show inR v (-1) 999=true
      exact inR_iff.2 (by omega)
  not:=rfl
structure Fx (c:Int) (t:DObj) (q:List DMsg):Prop where
  ok:partOk (pw c t q)=true
  wok:worldOk (DWorld.mk 0 [pw c t q])=true
  sl:goodSlot (ag c t q) 0 0 36=2
  sz:sz_DPart (pw c t q)<1000
theorem Fx.to {g:Chg} (hg:Gq g) {c:Int} {t t':DObj} {q q':List DMsg} (h:Fx c t q) (e:fP g (pw c t q)=pw c t' q'):Fx c t' q' where
  ok:=by rw [← e,partOk_f hg];exact h.ok
  wok:=by rw [← e];exact (worldOk_f hg ⟨0,[pw c t q]⟩).trans h.wok
  sl:=by rw [show ag c t' q'=fA g (ag c t q) from (congrArg (fun p:DPart=>p.heap.arena) e).symm,goodSlot_f hg];exact h.sl
  sz:=by rw [← e,sz_f hg];exact h.sz
theorem fx0 {c:Int} (hc:C3 c):Fx c (th 37 0) [⟨33,0⟩]:=by
  rcases hc with rfl | rfl | rfl <;> exact ⟨by decide +kernel,by decide +kernel,by decide +kernel,by decide +kernel⟩
theorem fx1 {c:Int} (hc:C3 c):Fx c (th 0 1) []:=by
  rcases hc with rfl | rfl | rfl <;> exact ⟨by decide +kernel,by decide +kernel,by decide +kernel,by decide +kernel⟩
theorem fxz {c:Int} (hc:C3 c):Fx c (th 0 0) []:=by
  rcases hc with rfl | rfl | rfl <;> exact ⟨by decide +kernel,by decide +kernel,by decide +kernel,by decide +kernel⟩
theorem e_told (c n:Int):fP (told n) (pw c (th 37 0) [⟨33,0⟩])=pw c (th 37 0) [⟨33,n⟩]:=by kernel_rfl
theorem e_gave (c m:Int):fP (gave m) (pw c (th 0 1) [])=pw c (th 0 m) []:=by kernel_rfl
section
variable {c n m:Int} (hc:C3 c) (n0:0≤n) (n1:n≤255) (m0:0≤m) (m1:m≤255)
include hc
theorem fxn (n0:0≤n) (n1:n≤255):Fx c (th 37 0) [⟨33,n⟩]:=(fx0 hc).to (told_ok n0 n1) (e_told c n)
theorem fxm (m0:0≤m) (m1:m≤255):Fx c (th 0 m) []:=(fx1 hc).to (gave_ok m0 m1) (e_gave c m)
theorem can_n1 (n0:0≤n) (n1:n≤255):canCall (pw c (th 37 0) [⟨33,n⟩]) 0 1=false:=by
  rw [← e_told,canCall_f (told_ok n0 n1)]
  rcases hc with rfl | rfl | rfl <;> decide +kernel
theorem can_n3 (n0:0≤n) (n1:n≤255):canCall (pw c (th 37 0) [⟨33,n⟩]) 0 3=true:=by
  rw [← e_told,canCall_f (told_ok n0 n1)]
  rcases hc with rfl | rfl | rfl <;> decide +kernel
theorem can_m (m0:0≤m) (m1:m≤255):canCall (pw c (th 0 m) []) 0 1=true:=by
  rw [← e_gave,canCall_f (gave_ok m0 m1)]
  rcases hc with rfl | rfl | rfl <;> decide +kernel
end
theorem do_one {w:DWorld} {p t:Int} {c:DCall} {r:DWorld×DReply} (h:F_i_WorldCall (BIG+6) w p t c=some r):F_l_do (BIG+6) w p t [c]=some r:=by
  unfold F_l_do
  rw [show idx [c] 0=some c from rfl]
  simp only [Option.bind_some,h]
  rfl
section
variable {c:Int} {t:DObj} {q:List DMsg} (h:Fx c t q)
include h
theorem Fx.szB:sz_DPart (pw c t q)<BIG:=Nat.lt_trans h.sz (by decide)
theorem Fx.szW:szL sz_DPart [pw c t q]<BIG:=by
  have:=h.sz
  have hB:(16777216:Nat)=BIG:=rfl
  show 1+(sz_DPart (pw c t q)+0)<BIG
  omega
theorem Fx.szA:szL sz_DObj (ag c t q)<BIG:=(szPart h.szB).2.2.2.1
theorem Fx.slot (k:Int):F_i_caller_slot (BIG+6) (DCaller.mk (pw c t q) 0 0 k) 36 3=some (2,0,DCaller.mk (pw c t q) 0 0 k):=by
  unfold F_i_caller_slot
  simp only [show F_i_isHandle (BIG+6) 36=some true by kernel_rfl,show F_i_HandlePart (BIG+6) 36=some 0 by kernel_rfl,Option.bind_some,Bool.not_true,cond_false,show (pw c t q).heap.arena=ag c t q from rfl,i_GoodSlot bigN h.szA,h.sl]
  rfl
theorem Fx.part {k:Int} (hk:canCall (pw c t q) 0 k=true) {d:DCall} {code val:Int} {x:DCaller} (hd:F_i_caller_do (BIG+6) (DCaller.mk (pw c t q) 0 0 k) d=some (code,val,x)) {r:DPart×DReply}
    (hr:(bif (code==0) then (some (DPart.mk (pw c t q).label (pw c t q).own x.part.tree x.part.heap x.part.taps x.part.next x.part.want x.part.spent x.part.press x.part.lost,DReply.mk 0 val)) else (bif (d.kind==1) then none else some (pw c t q,DReply.mk code 0)):Option (DPart×DReply))=some r):F_i_PartCall (BIG+6) (pw c t q) 0 0 k d=some r:=by
  unfold F_i_PartCall
  simp only [i_PartOk bigN h.szB,h.ok,show F_i_isPart (BIG+6) 0=some true by kernel_rfl,show F_i_isTime (BIG+6) 0=some true by kernel_rfl,Option.bind_some,Bool.not_true,cond_false,i_CanCall bigN h.szB,hk,i_copyPart bigN h.szB,hd]
  rw [← hr]
  cases hcd:code==0
  · cases hkk:d.kind==1
    · rfl
    · rw [hcd,hkk] at hr;cases hr
  · rfl
theorem Fx.call {k:Int} (hk:canCall (pw c t q) 0 k=true) {d:DCall} (h7:(d.kind==7)=false) (h17:(d.kind==17)=false) (h16:(d.kind==16)=false) {p:DPart} {r:DReply} (hp:F_i_PartCall (BIG+6) (pw c t q) 0 0 k d=some (p,r)) :
    F_l_do (BIG+6) (DWorld.mk 0 [pw c t q]) 0 k [d]=some (DWorld.mk 0 [p],r):=by
  refine do_one ?_
  unfold F_i_WorldCall F_i_otherPart
  simp only [i_copyWorld bigN (w:=DWorld.mk 0 [pw c t q]) h.szW,i_WorldOk bigN (w:=DWorld.mk 0 [pw c t q]) h.szW,h.wok,Option.bind_some,Bool.not_true,cond_false,show F_i_hasPart (BIG+6) (DWorld.mk 0 [pw c t q]) 0=some true by kernel_rfl,show idx [pw c t q] 0=some (pw c t q) from rfl,
    i_CanCall bigN h.szB,hk,h7,h17,h16,cond_true,show decide ((0:Int)<0)=false from rfl,hp]
  rfl
theorem Fx.dead {k:Int} (hk:canCall (pw c t q) 0 k=false) (d:DCall):F_l_do (BIG+6) (DWorld.mk 0 [pw c t q]) 0 k [d]=some (DWorld.mk 0 [pw c t q],DReply.mk 1 0):=by
  refine do_one ?_
  unfold F_i_WorldCall
  simp only [i_copyWorld bigN (w:=DWorld.mk 0 [pw c t q]) h.szW,i_WorldOk bigN (w:=DWorld.mk 0 [pw c t q]) h.szW,h.wok,Option.bind_some,Bool.not_true,Bool.not_false,cond_false,cond_true,show F_i_hasPart (BIG+6) (DWorld.mk 0 [pw c t q]) 0=some true by kernel_rfl,show idx [pw c t q] 0=some (pw c t q) from rfl,
    i_CanCall bigN h.szB,hk]
end
theorem vok (N:Nat) {v:Int} (h0:0≤v) (h1:v≤255):F_i_within N v 0 999=some true:=by
  rw [i_in];exact congrArg some (inR_iff.2 ⟨h0,by omega⟩)
theorem do_g {x:DCaller} {d:DCall} (hk:(d.kind==12)=true∨(d.kind==13)=true) {code val:Int} {y:DCaller} (hg:F_i_caller_gate (BIG+6) x d=some (code,val,y)) :
    ∃ y':DCaller,F_i_caller_do (BIG+6) x d=some (code,val,y')∧y'.part.tree=x.part.tree∧y'.part.heap=DHeap.mk y.part.heap.arena (DGc.mk y.part.heap.gc.phase y.part.heap.gc.pos y.part.heap.gc.round x.part.heap.gc.grey)∧y'.part.taps=x.part.taps∧y'.part.next=y.part.next∧y'.part.want=y.part.want∧y'.part.spent=y.part.spent∧y'.part.press=y.part.press∧y'.part.lost=y.part.lost:=by
  have hkk:d.kind=12∨d.kind=13:=by simpa using hk
  unfold F_i_caller_do
  rcases hkk with e | e <;>
  · rw [e]
    simp only [show ((12:Int)==1)=false from rfl,show ((12:Int)==2)=false from rfl,show ((12:Int)==3)=false from rfl,show ((12:Int)==4)=false from rfl,show ((12:Int)==5)=false from rfl,show ((12:Int)==6)=false from rfl,show ((12:Int)==7)=false from rfl,show ((12:Int)==8)=false from rfl,show ((12:Int)==9)=false from rfl,show ((12:Int)==10)=false from rfl,show ((12:Int)==11)=false from rfl,show ((12:Int)==12)=true from rfl,
      show ((13:Int)==1)=false from rfl,show ((13:Int)==2)=false from rfl,show ((13:Int)==3)=false from rfl,show ((13:Int)==4)=false from rfl,show ((13:Int)==5)=false from rfl,show ((13:Int)==6)=false from rfl,show ((13:Int)==7)=false from rfl,show ((13:Int)==8)=false from rfl,show ((13:Int)==9)=false from rfl,show ((13:Int)==10)=false from rfl,show ((13:Int)==11)=false from rfl,show ((13:Int)==12)=false from rfl,show ((13:Int)==13)=true from rfl,
      cond_false,cond_true,Option.bind_some,hg]
    exact ⟨_,rfl,rfl,rfl,rfl,rfl,rfl,rfl,rfl,rfl⟩
section
variable {c n m:Int} (hc:C3 c)
include hc
theorem gate_call (n0:0≤n) (n1:n≤255):F_i_caller_gate (BIG+6) (DCaller.mk (pw c (th 0 0) []) 0 0 1) (DCall.mk 12 36 n 0 0 0)=some (0,0,DCaller.mk (pw c (th 37 0) [⟨33,n⟩]) 0 0 1):=by
  unfold F_i_caller_gate
  simp only [(fxz hc).slot 1,Option.bind_some,vok (BIG+6) n0 n1]
  kernel_rfl
theorem gate_serve (m0:0≤m) (m1:m≤255) (n0:0≤n) (n1:n≤255):F_i_caller_gate (BIG+6) (DCaller.mk (pw c (th 37 0) [⟨33,n⟩]) 0 0 3) (DCall.mk 13 36 m 0 0 0)=some (0,n,DCaller.mk (pw c (th 0 m) []) 0 0 3):=by
  unfold F_i_caller_gate
  simp only [(fxn hc n0 n1).slot 3,Option.bind_some,vok (BIG+6) m0 m1]
  rcases hc with rfl | rfl | rfl <;> kernel_rfl
theorem gate_busy (m0:0≤m) (m1:m≤255):F_i_caller_gate (BIG+6) (DCaller.mk (pw c (th 0 m) []) 0 0 1) (DCall.mk 13 36 m 0 0 0)=some (8,0,DCaller.mk (pw c (th 0 m) []) 0 0 1):=by
  unfold F_i_caller_gate
  simp only [(fxm hc m0 m1).slot 1,Option.bind_some,vok (BIG+6) m0 m1]
  kernel_rfl
theorem h_call (n0:0≤n) (n1:n≤255):F_l_do (BIG+6) (DWorld.mk 0 [pw c (th 0 0) []]) 0 1 [DCall.mk 12 36 n 0 0 0]=some (DWorld.mk 0 [pw c (th 37 0) [⟨33,n⟩]],DReply.mk 0 0):=by
  have hk:canCall (pw c (th 0 0) []) 0 1=true:=by rcases hc with rfl | rfl | rfl <;> decide +kernel
  obtain ⟨y,hd,e1,e2,e3,e4,e5,e6,e7,e8⟩:=do_g (.inl rfl) (gate_call hc n0 n1)
  exact (fxz hc).call hk rfl rfl rfl ((fxz hc).part hk hd (by rw [e1,e2,e3,e4,e5,e6,e7,e8];rfl))
theorem h_serve (m0:0≤m) (m1:m≤255) (n0:0≤n) (n1:n≤255):F_l_do (BIG+6) (DWorld.mk 0 [pw c (th 37 0) [⟨33,n⟩]]) 0 3 [DCall.mk 13 36 m 0 0 0]=some (DWorld.mk 0 [pw c (th 0 m) []],DReply.mk 0 n):=by
  have hk:=can_n3 hc n0 n1
  obtain ⟨y,hd,e1,e2,e3,e4,e5,e6,e7,e8⟩:=do_g (.inr rfl) (gate_serve hc m0 m1 n0 n1)
  exact (fxn hc n0 n1).call hk rfl rfl rfl ((fxn hc n0 n1).part hk hd (by rw [e1,e2,e3,e4,e5,e6,e7,e8];rfl))
theorem h_busy (m0:0≤m) (m1:m≤255):F_l_do (BIG+6) (DWorld.mk 0 [pw c (th 0 m) []]) 0 1 [DCall.mk 13 36 m 0 0 0]=some (DWorld.mk 0 [pw c (th 0 m) []],DReply.mk 8 0):=by
  have hk:=can_m hc m0 m1
  obtain ⟨y,hd,_⟩:=do_g (.inr rfl) (gate_busy hc m0 m1)
  exact (fxm hc m0 m1).call hk rfl rfl rfl ((fxm hc m0 m1).part hk hd rfl)
theorem h_self (m0:0≤m) (m1:m≤255):F_l_do (BIG+6) (DWorld.mk 0 [pw c (th 0 m) []]) 0 1 [DCall.mk 14 1 0 0 0 0]=some (DWorld.mk 0 [pw c (th 0 m) []],DReply.mk 0 m):=by
  have hk:=can_m hc m0 m1
  have hd:F_i_caller_do (BIG+6) (DCaller.mk (pw c (th 0 m) []) 0 0 1) (DCall.mk 14 1 0 0 0 0)=some (0,m,DCaller.mk (pw c (th 0 m) []) 0 0 1):=by kernel_rfl
  exact (fxm hc m0 m1).call hk rfl rfl rfl ((fxm hc m0 m1).part hk hd rfl)
theorem h_dead (n0:0≤n) (n1:n≤255):F_l_do (BIG+6) (DWorld.mk 0 [pw c (th 37 0) [⟨33,n⟩]]) 0 1 [DCall.mk 14 0 0 0 0 0]=some (DWorld.mk 0 [pw c (th 37 0) [⟨33,n⟩]],DReply.mk 1 0) :=
  (fxn hc n0 n1).dead (can_n1 hc n0 n1) _
theorem h_make:F_l_do (BIG+6) (DWorld.mk 0 [pA]) 0 1 [DCall.mk 1 3 0 c 20 0]=some (DWorld.mk 0 [pM c],DReply.mk 0 36):=by
  rcases hc with rfl | rfl | rfl <;> kernel_rfl
theorem h_thread:F_l_do (BIG+6) (DWorld.mk 0 [pM c]) 0 1 [DCall.mk 1 4 0 1 20 0]=some (DWorld.mk 0 [pw c (th 0 0) []],DReply.mk 0 39):=by
  rcases hc with rfl | rfl | rfl <;> kernel_rfl
theorem h_chk:chk 22 (DWorld.mk 0 [pw c (th 37 0) [⟨33,0⟩]]) (DWorld.mk 22 [pY c])=true:=by
  rcases hc with rfl | rfl | rfl <;> kernel_rfl
theorem h_wait (n0:0≤n) (n1:n≤255):F_l_wait (BIG+6) (DWorld.mk 0 [pw c (th 37 0) [⟨33,n⟩]]) 22=some (DWorld.mk 22 [pY c]):=by
  have h:=wait_f (told_ok n0 n1) bigN (h_chk hc)
  rw [show fW (told n) (DWorld.mk 22 [pY c])=DWorld.mk 22 [pY c] by kernel_rfl] at h
  rw [← e_told]
  exact h
theorem h_woken:F_l_do (BIG+6) (DWorld.mk 22 [pY c]) 0 1 [DCall.mk 14 1 0 0 0 0]=some (DWorld.mk 22 [pY c],DReply.mk 0 (-1)):=by
  rcases hc with rfl | rfl | rfl <;> kernel_rfl
end
theorem at_ex {x:List U8} (hx:Fit.fit x) (hl:x.length≤1048576) (N:Nat) {i:Int} (h0:0≤i) (h5:i≤5):∃ v,F_l_at N x i=some v∧0≤v∧v≤255:=by
  unfold F_l_at
  cases hlt:decide (i<(x.length:Int))
  · simp only [cond_false]
    rw [wrap_ok (n:=i * 37) (by omega) (by omega),wrap_ok (n:=(x.length:Int) * 11) (by omega) (by omega),wrap_ok (n:=i * 37+(x.length:Int) * 11) (by omega) (by omega)]
    obtain ⟨q1,q2⟩:=tmod_rng (a:=i * 37+(x.length:Int) * 11) (n:=256) (by omega) (by decide)
    exact ⟨_,rfl,q1,by omega⟩
  · obtain ⟨y,hy,hm⟩:=idx_ex h0 (of_decide_eq_true hlt)
    have hf:0≤y.v∧y.v≤255:=hx.2 y hm
    simp only [cond_true,hy,Option.bind_some]
    exact ⟨_,rfl,by rw [wrap_ok (by omega) (by omega)];omega⟩
theorem boots_A:F_i_WorldNew (BIG+6) [DBoot.mk (DLabel.mk [0,0,0,0]) [] (DAmt.mk 50 9000 500)]=some (DWorld.mk 0 [pA]):=by kernel_rfl
theorem L_FnGate {x:List U8} (hx:Fit.fit x):∃ N,F_l_FnGate N x=some true:=by
  refine ⟨BIG+6,?_⟩
  unfold F_l_FnGate F_l_big
  simp only [Option.bind_some]
  cases hb:decide ((x.length:Int) > 1048576)
  case true=>rfl
  have hl:=of_decide_eq_false hb
  obtain ⟨n,en,n0,n1⟩:=at_ex hx (by omega) (BIG+6) (i:=0) (by decide) (by decide)
  obtain ⟨m,em,m0,m1⟩:=at_ex hx (by omega) (BIG+6) (i:=1) (by decide) (by decide)
  obtain ⟨v,ev,v0,v1⟩:=at_ex hx (by omega) (BIG+6) (i:=2) (by decide) (by decide)
  obtain ⟨q1,q2⟩:=tmod_rng (a:=v) (n:=3) v0 (by decide)
  have hc:C3 (Int.tmod v 3):=by unfold C3;omega
  simp only [cond_false,en,em,ev,show F_l_rich (BIG+6)=some [DBoot.mk (DLabel.mk [0,0,0,0]) [] (DAmt.mk 50 9000 500)] by kernel_rfl,boots_A,Option.bind_some,show F_s_HandleOf (BIG+6) 0 0 0=some 0 by kernel_rfl,show F_s_HandleSlot (BIG+6) 39=some 3 by kernel_rfl]
  generalize Int.tmod v 3=c at hc ⊢
  simp only [h_make hc,h_thread hc,h_call hc n0 n1,Option.bind_some,bne_self_eq_false,cond_false,h_dead hc n0 n1,h_serve hc m0 m1 n0 n1,h_self hc m0 m1,h_busy hc m0 m1,h_wait hc n0 n1,h_woken hc,decide_true,beq_self_eq_true,cond_true,show F_s_HandleSlot (BIG+6) 39=some 3 by kernel_rfl]
end Go.Kx
