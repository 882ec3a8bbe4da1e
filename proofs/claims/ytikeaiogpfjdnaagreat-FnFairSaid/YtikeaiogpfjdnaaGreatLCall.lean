/- Plain laws: what a call does in a part. No program in sight. -/
import Derived.Test.YtikeaiogpfjdnaaGreatLCollect
namespace Go.Kx
open Go
set_option linter.unusedVariables false
set_option linter.unusedSimpArgs false
set_option maxRecDepth 10000
theorem am_eta (a:DAmt):DAmt.mk a.pages a.rent a.cpu=a:=rfl
def slotC (l:List DObj) (now me h kind:Int):Int:=bif hOk h then (bif hPart h != me then 3 else (bif decide (goodSlot l now me h<0) then 4 else (bif (kind != 0)&&((nth l (goodSlot l now me h)).kind != kind) then 5 else 0))) else 2
theorem good_at {l:List DObj} {now me h:Int} (q:decide (goodSlot l now me h<0)=false):Ar l∧0≤goodSlot l now me h∧goodSlot l now me h≤9∧(nth l (goodSlot l now me h)).kind ≠ 0:=by
  unfold goodSlot at *
  cases hg:goodP l now me h
  · rw [hg] at q;simp at q
  · simp only [cond_true]
    unfold goodP at hg
    simp only [Bool.and_eq_true] at hg
    obtain ⟨⟨h1,h2,_⟩,h3,_⟩:=hg
    obtain ⟨a,b⟩:=hSlot_ok h2
    exact ⟨arenaOk_iff.1 h1,a,b,by simpa using h3⟩
theorem slot_ok {l:List DObj} {now me h k:Int} (q:slotC l now me h k=0):Ar l∧0≤goodSlot l now me h∧goodSlot l now me h≤9∧(nth l (goodSlot l now me h)).kind ≠ 0∧(k ≠ 0→(nth l (goodSlot l now me h)).kind=k):=by
  unfold slotC at q
  cases h1:hOk h
  · rw [h1] at q;simp at q
  cases h2:hPart h != me
  case true=>rw [h1,h2] at q;simp at q
  cases h3:decide (goodSlot l now me h<0)
  case true=>rw [h1,h2,h3] at q;simp at q
  obtain ⟨a,b,c,d⟩:=good_at h3
  refine ⟨a,b,c,d,fun hk=>?_⟩
  rw [h1,h2,h3] at q
  simp only [cond_true,cond_false] at q
  have hk':(k != 0)=true:=by simpa using hk
  rw [hk'] at q
  cases h4:(nth l (goodSlot l now me h)).kind != k
  · simpa using h4
  · rw [h4] at q;simp at q
theorem s_slot {N:Nat} (hN:BIG≤N) {p:DPart} (hb:szL sz_DObj p.heap.arena<BIG) (hw:wP p) (me now h:Int):F_s_l14Slot N p me now h=some (bif slotC p.heap.arena now me h 0==0 then goodSlot p.heap.arena now me h else -1,slotC p.heap.arena now me h 0):=by
  unfold F_s_l14Slot slotC
  simp only [s_l8Handle,s_HandlePart,s_GoodSlot hN hb hw,Option.bind_some]
  rw [show inR h 0 29999=hOk h from rfl]
  cases hOk h
  · rfl
  cases hPart h != me
  case true=>rfl
  cases q:decide (goodSlot p.heap.arena now me h<0) <;> rfl
theorem s_kind {N:Nat} (hN:BIG≤N) {p:DPart} (hb:szL sz_DObj p.heap.arena<BIG) (hw:wP p) (me now h:Int) {k:Int} (hk:0<k):F_s_l14Kind N p me now h k=some (bif slotC p.heap.arena now me h k==0 then goodSlot p.heap.arena now me h else -1,slotC p.heap.arena now me h k):=by
  unfold F_s_l14Kind
  rw [s_slot hN hb hw]
  have k1:decide (k > 0)=true:=decide_eq_true hk
  have k2:(k != 0)=true:=by simp;omega
  simp only [Option.bind_some,k1,cond_true]
  unfold slotC
  rw [k2]
  cases hOk h
  · rfl
  cases hPart h != me
  case true=>rfl
  cases q:decide (goodSlot p.heap.arena now me h<0)
  case true=>rfl
  obtain ⟨ar,g0,g9,_⟩:=good_at q
  simp only [bne_self_eq_false,Bool.false_and,Bool.true_and,cond_true,cond_false,beq_self_eq_true,(ar.at g0 g9).1,Option.bind_some]
  cases (nth p.heap.arena (goodSlot p.heap.arena now me h)).kind != k <;> rfl
def gcShade (h:DHeap) (i:Int):DHeap:=bif heapOk h&&inR i 0 9 then shade h i else h
theorem s_GcShade {N:Nat} (hN:BIG≤N) {h:DHeap} (h1:szL sz_DObj h.arena<BIG) (h2:h.gc.grey.length+1<BIG) (hw:wA h.arena) (i:Int):F_s_GcShade N h i=some (gcShade h i):=by
  have h2':h.gc.grey.length<BIG:=by omega
  unfold F_s_GcShade gcShade
  simp only [s_l10Copy hN h1 h2',s_HeapOk hN h1 h2' hw,s_l8Slot,Option.bind_some]
  cases q:heapOk h
  · rfl
  cases hi:inR i 0 9
  · rfl
  have ar:=heapOk_ar q
  have hl:=ar.len
  rw [inR_iff] at hi
  simp only [Bool.not_true,cond_true,cond_false,Option.bind_some,Bool.and_self,s_l10Shade hN hi.1 (show i<(h.arena.length:Int) by omega) h2]
def linked (o:DObj) (b x:Int):DObj:=DObj.mk o.gen o.kind o.box o.res o.til o.pages o.wait o.got o.ran o.mark (o.links.set b.toNat x) o.data o.queue
def boxed (o:DObj) (b:Int):DObj:=DObj.mk o.gen o.kind b o.res o.til o.pages o.wait o.got o.ran o.mark o.links o.data o.queue
def written (o:DObj) (b x:Int):DObj:=DObj.mk o.gen o.kind o.box o.res o.til o.pages o.wait o.got o.ran o.mark o.links (o.data.set b.toNat x) o.queue
def queued (o:DObj) (q:List DMsg):DObj:=DObj.mk o.gen o.kind o.box o.res o.til o.pages o.wait o.got o.ran o.mark o.links o.data q
def waiting (o:DObj) (x:Int):DObj:=DObj.mk o.gen o.kind o.box o.res o.til o.pages x o.got o.ran o.mark o.links o.data o.queue
def answered (o:DObj) (x:Int):DObj:=DObj.mk o.gen o.kind o.box o.res o.til o.pages o.wait x o.ran o.mark o.links o.data o.queue
def withHeap (p:DPart) (h:DHeap):DPart:=DPart.mk p.label p.own p.tree h p.taps p.next p.want p.spent p.press p.lost
def withTree (p:DPart) (t:List DRes):DPart:=DPart.mk p.label p.own t p.heap p.taps p.next p.want p.spent p.press p.lost
def withTaps (p:DPart) (t:List DTap):DPart:=DPart.mk p.label p.own p.tree p.heap t p.next p.want p.spent p.press p.lost
def shadeAt (h:DHeap) (c i:Int):DHeap:=bif decide (c ≥ 0) then gcShade h i else h
def linkTo (p:DPart) (i b x:Int):DPart:=withHeap p (shadeAt (DHeap.mk (p.heap.arena.set i.toNat (linked (nth p.heap.arena i) b x)) p.heap.gc) x x)
def doLink (p:DPart) (me now:Int) (c:DCall):Int×Int×DPart :=
  bif !inR c.b 0 1 then (2,0,p) else
  bif slotC p.heap.arena now me c.a 0 != 0 then (slotC p.heap.arena now me c.a 0,0,p) else
  bif (c.kind==2)&&(slotC p.heap.arena now me c.c 0 != 0) then (slotC p.heap.arena now me c.c 0,0,p) else
  (0,0,linkTo p (goodSlot p.heap.arena now me c.a) c.b (bif c.kind==2 then goodSlot p.heap.arena now me c.c else -1))
structure Pin (p:DPart):Prop where
  ok:partOk p=true
  sz:sz_DPart p≤3000000
  w:wP p
theorem Pin.ar {p:DPart} (h:Pin p):Ar p.heap.arena:=partOk_ar h.ok
theorem Pin.b4 {p:DPart} (h:Pin p):szL sz_DObj p.heap.arena<BIG:=(szPart (p:=p) (Nat.lt_of_le_of_lt h.sz (by decide))).2.2.2.1
theorem Pin.b5 {p:DPart} (h:Pin p):p.heap.gc.grey.length+1<BIG:=by
  have:=h.sz
  have hB:(16777216:Nat)=BIG:=rfl
  unfold sz_DPart sz_DHeap sz_DGc at this
  omega
theorem obj_sz {l:List DObj} (h:Ar l) {i:Int} (h0:0≤i) (h9:i≤9):sz_DObj (nth l i)≤12:=objOk_sz (h.ok _ (h.at h0 h9).2)
theorem set_b {l:List DObj} (h:Ar l) {i:Int} {o:DObj} (ho:sz_DObj o≤100000):szL sz_DObj (l.set i.toNat o)<BIG:=setB h ho _
theorem linked_sz (o:DObj) (b x:Int):sz_DObj (linked o b x)=sz_DObj o:=by unfold sz_DObj linked;simp only [List.length_set]
theorem idx_two {l:List Int} (h:l.length=2) {b:Int} (hb:inR b 0 1=true):idx l b=some (nth l b):=by
  rw [inR_iff] at hb
  exact idx_ok hb.1 (by omega)
theorem ne_false {a:Int} (h:(a != 0)=false):a=0:=by simpa using h
def pressed (p:DPart):DPart:=DPart.mk p.label p.own p.tree p.heap p.taps p.next p.want p.spent (if 1000000<IntKind.i64.wrap (p.press+1) then 1000000 else IntKind.i64.wrap (p.press+1)) p.lost
def fin (c:DCall) (p:DPart) (r:Int×Int×DPart):DPart×DReply:=bif r.1==0 then (r.2.2,DReply.mk 0 r.2.1) else (bif (c.kind==1)&&((r.1==6) || (r.1==7)) then pressed p else p,DReply.mk r.1 0)
theorem fin_ok (c:DCall) (p q:DPart) (v:Int):fin c p (0,v,q)=(q,DReply.mk 0 v):=rfl
theorem fin_no {c:DCall} {p q:DPart} {k v:Int} (h:(k != 0)=true) (hc:(c.kind==1)=false):fin c p (k,v,q)=(p,DReply.mk k 0):=by
  unfold fin
  have:(k==0)=false:=by simpa [bne] using h
  rw [this,hc];rfl
theorem shade_s {N:Nat} (hN:BIG≤N) {h:DHeap} (h1:szL sz_DObj h.arena<BIG) (h2:h.gc.grey.length+1<BIG) (hw:wA h.arena) (c i:Int) {β:Type} (f:DHeap→Option β):((bif decide (c ≥ 0) then ((F_s_GcShade N h i).bind fun y=>some (y.arena,y.gc.phase,y.gc.pos,y.gc.round,y.gc.grey)) else (some (h.arena,h.gc.phase,h.gc.pos,h.gc.round,h.gc.grey)):Option ((List DObj)×Int×Int×Int×(List Int))).bind fun j=>f (DHeap.mk j.1 (DGc.mk j.2.1 j.2.2.1 j.2.2.2.1 j.2.2.2.2)))=f (shadeAt h c i):=by
  unfold shadeAt
  rw [s_GcShade hN h1 h2 hw]
  cases decide (c ≥ 0) <;> rfl
theorem s_link {N:Nat} (hN:BIG≤N) {p:DPart} (hp:Pin p) (me now:Int) {c:DCall} (hc:(c.kind==1)=false):F_s_l14Link N p me now c=some (fin c p (doLink p me now c)):=by
  have h4:=hp.b4
  unfold F_s_l14Link doLink
  simp only [s_in,s_slot hN h4 hp.w,Option.bind_some]
  cases q1:inR c.b 0 1
  · simp only [Bool.not_false,cond_true,fin_no (show ((2:Int) != 0)=true from rfl) hc]
  cases q2:slotC p.heap.arena now me c.a 0 != 0
  case true=>simp only [Bool.not_true,cond_false,cond_true,fin_no q2 hc]
  have q2':=ne_false q2
  obtain ⟨ar,g0,g9,gk,_⟩:=slot_ok q2'
  have l2:=objOk_two (ar.ok _ (ar.at g0 g9).2) (by simpa using gk)
  simp only [Bool.not_true,cond_false,q2',beq_self_eq_true,cond_true]
  generalize goodSlot p.heap.arena now me c.a=i at *
  have hs:∀ x,szL sz_DObj (p.heap.arena.set i.toNat (linked (nth p.heap.arena i) c.b x))<BIG:=fun x=>set_b ar (by rw [linked_sz];have:=obj_sz ar g0 g9;omega)
  have hx:∀ x,wA (p.heap.arena.set i.toNat (linked (nth p.heap.arena i) c.b x)):=fun x=>wA_set hp.w (show wOk (nth p.heap.arena i) from hp.w _ (ar.at g0 g9).2)
  cases hk:c.kind==2
  · simp only [cond_false,Option.bind_some,Sum.elim_inl,(ar.at g0 g9).1,idx_two l2 q1,Bool.false_and,fin_ok]
    exact shade_s (h:=DHeap.mk (p.heap.arena.set i.toNat (linked (nth p.heap.arena i) c.b (-1))) p.heap.gc) hN (hs (-1)) hp.b5 (hx (-1)) (-1) (-1) fun y=>some (withHeap p y,DReply.mk 0 0)
  · cases q3:slotC p.heap.arena now me c.c 0 != 0
    · have q3':=ne_false q3
      simp only [cond_true,cond_false,Option.bind_some,Sum.elim_inl,(ar.at g0 g9).1,idx_two l2 q1,Bool.and_false,q3',beq_self_eq_true,fin_ok]
      generalize goodSlot p.heap.arena now me c.c=x
      exact shade_s (h:=DHeap.mk (p.heap.arena.set i.toNat (linked (nth p.heap.arena i) c.b x)) p.heap.gc) hN (hs x) hp.b5 (hx x) x x fun y=>some (withHeap p y,DReply.mk 0 0)
    · simp only [cond_true,cond_false,Option.bind_some,Sum.elim_inr,Bool.and_true,fin_no q3 hc]
def moveTo (p:DPart) (i x:Int):DPart:=withHeap p (shadeAt (DHeap.mk (p.heap.arena.set i.toNat (boxed (nth p.heap.arena i) x)) p.heap.gc) x i)
def doMove (p:DPart) (me now:Int) (c:DCall):Int×Int×DPart :=
  bif slotC p.heap.arena now me c.a 0 != 0 then (slotC p.heap.arena now me c.a 0,0,p) else
  bif goodSlot p.heap.arena now me c.a==0 then (5,0,p) else
  bif (c.kind==4)&&(slotC p.heap.arena now me c.b 1 != 0) then (slotC p.heap.arena now me c.b 1,0,p) else
  (0,0,moveTo p (goodSlot p.heap.arena now me c.a) (bif c.kind==4 then goodSlot p.heap.arena now me c.b else -1))
theorem s_move {N:Nat} (hN:BIG≤N) {p:DPart} (hp:Pin p) (me now:Int) {c:DCall} (hc:(c.kind==1)=false):F_s_l14Move N p me now c=some (fin c p (doMove p me now c)):=by
  have h4:=hp.b4
  unfold F_s_l14Move doMove
  simp only [s_slot hN h4 hp.w,s_kind hN h4 hp.w _ _ _ (show (0:Int)<1 by decide),Option.bind_some]
  cases q2:slotC p.heap.arena now me c.a 0 != 0
  case true=>simp only [cond_true,fin_no q2 hc]
  have q2':=ne_false q2
  obtain ⟨ar,g0,g9,gk,_⟩:=slot_ok q2'
  simp only [Bool.not_true,cond_false,q2',beq_self_eq_true,cond_true]
  generalize goodSlot p.heap.arena now me c.a=i at *
  cases hi:i==0
  case true=>simp only [cond_true,fin_no (show ((5:Int) != 0)=true from rfl) hc]
  have hs:∀ x,szL sz_DObj (p.heap.arena.set i.toNat (boxed (nth p.heap.arena i) x))<BIG:=fun x=>set_b ar (by have:sz_DObj (nth p.heap.arena i)≤12:=obj_sz ar g0 g9;show sz_DObj (nth p.heap.arena i)≤_;omega)
  have hx:∀ x,wA (p.heap.arena.set i.toNat (boxed (nth p.heap.arena i) x)):=fun x=>wA_set hp.w (show wOk (nth p.heap.arena i) from hp.w _ (ar.at g0 g9).2)
  cases hk:c.kind==4
  · simp only [cond_false,Option.bind_some,Sum.elim_inl,(ar.at g0 g9).1,Bool.false_and,fin_ok]
    exact shade_s (h:=DHeap.mk (p.heap.arena.set i.toNat (boxed (nth p.heap.arena i) (-1))) p.heap.gc) hN (hs (-1)) hp.b5 (hx (-1)) (-1) i fun y=>some (withHeap p y,DReply.mk 0 0)
  · cases q3:slotC p.heap.arena now me c.b 1 != 0
    · have q3':=ne_false q3
      simp only [cond_true,cond_false,Option.bind_some,Sum.elim_inl,(ar.at g0 g9).1,Bool.and_false,q3',beq_self_eq_true,fin_ok]
      generalize goodSlot p.heap.arena now me c.b=x
      exact shade_s (h:=DHeap.mk (p.heap.arena.set i.toNat (boxed (nth p.heap.arena i) x)) p.heap.gc) hN (hs x) hp.b5 (hx x) x i fun y=>some (withHeap p y,DReply.mk 0 0)
    · simp only [cond_true,cond_false,Option.bind_some,Sum.elim_inr,Bool.and_true,fin_no q3 hc]
def writeTo (p:DPart) (i b x:Int):DPart:=changeAt p (p.heap.arena.set i.toNat (written (nth p.heap.arena i) b x))
def doData (p:DPart) (me now:Int) (c:DCall):Int×Int×DPart :=
  bif slotC p.heap.arena now me c.a 2 != 0 then (slotC p.heap.arena now me c.a 2,0,p) else
  bif !inR c.b 0 (((nth p.heap.arena (goodSlot p.heap.arena now me c.a)).data.length:Int) - 1) then (2,0,p) else
  bif c.kind==7 then (0,nth (nth p.heap.arena (goodSlot p.heap.arena now me c.a)).data c.b,p) else
  bif !inR c.c 0 999 then (2,0,p) else (0,0,writeTo p (goodSlot p.heap.arena now me c.a) c.b c.c)
theorem len_w {α:Type} {l:List α} (h:l.length<BIG):IntKind.i64.wrap ((l.length:Int) - 1)=(l.length:Int) - 1:=by
  have:l.length<16777216:=h
  exact wrap_ok (by omega) (by omega)
theorem data_len {o:DObj} (h:sz_DObj o≤12):o.data.length<BIG:=by
  have hB:(16777216:Nat)=BIG:=rfl
  unfold sz_DObj at h
  omega
theorem s_data {N:Nat} (hN:BIG≤N) {p:DPart} (hp:Pin p) (me now:Int) {c:DCall} (hc:(c.kind==1)=false) (hk:(c.kind==6)=!(c.kind==7)):F_s_l14Write N p me now c=some (fin c p (doData p me now c)):=by
  have h4:=hp.b4
  unfold F_s_l14Write doData
  simp only [s_kind hN h4 hp.w _ _ _ (show (0:Int)<2 by decide),s_in,Option.bind_some]
  cases q2:slotC p.heap.arena now me c.a 2 != 0
  case true=>simp only [cond_true,fin_no q2 hc]
  have q2':=ne_false q2
  obtain ⟨ar,g0,g9,gk,_⟩:=slot_ok q2'
  simp only [Bool.not_true,cond_false,q2',beq_self_eq_true,cond_true]
  generalize goodSlot p.heap.arena now me c.a=i at *
  have ho:=obj_sz ar g0 g9
  simp only [(ar.at g0 g9).1,Option.bind_some,len_w (data_len ho)]
  cases q3:inR c.b 0 (((nth p.heap.arena i).data.length:Int) - 1)
  · simp only [Bool.not_false,cond_true,Option.bind_some,fin_no (show ((2:Int) != 0)=true from rfl) hc]
  have hd:idx (nth p.heap.arena i).data c.b=some (nth (nth p.heap.arena i).data c.b):=by
    rw [inR_iff] at q3
    exact idx_ok q3.1 (by omega)
  rw [hk]
  simp only [Bool.not_true,cond_false,hd,Option.bind_some]
  cases c.kind==7
  · cases inR c.c 0 999
    · simp only [Bool.not_false,cond_true,cond_false,Option.bind_some,fin_no (show ((2:Int) != 0)=true from rfl) hc]
    · rfl
  · rfl
def canPay (p:DPart) (f:Int) (a:DAmt):Bool:=(treePay p.tree f a).2&&(amtAdd p.spent (DAmt.mk 0 a.rent 0)).2
def paid (p:DPart) (f:Int) (a:DAmt):DPart:=DPart.mk p.label p.own (treePay p.tree f a).1 p.heap p.taps p.next p.want (amtAdd p.spent (DAmt.mk 0 a.rent 0)).1 p.press p.lost
theorem Pin.b3 {p:DPart} (h:Pin p):p.tree.length<BIG:=(szPart (p:=p) (Nat.lt_of_le_of_lt h.sz (by decide))).2.2.1
def doRenew (p:DPart) (me now:Int) (c:DCall):Int×Int×DPart :=
  bif slotC p.heap.arena now me c.a 0 != 0 then (slotC p.heap.arena now me c.a 0,0,p) else
  bif (goodSlot p.heap.arena now me c.a==0) || (!inR c.b 1 1000 || decide (IntKind.i64.wrap ((nth p.heap.arena (goodSlot p.heap.arena now me c.a)).til+c.b) > 1000000)) then (2,0,p) else
  bif !canPay p (resOf p (nth p.heap.arena (goodSlot p.heap.arena now me c.a)).res) (DAmt.mk 0 (IntKind.i64.wrap ((nth p.heap.arena (goodSlot p.heap.arena now me c.a)).pages * c.b)) 0) then (6,0,p) else
  (0,0,changeAt (paid p (resOf p (nth p.heap.arena (goodSlot p.heap.arena now me c.a)).res) (DAmt.mk 0 (IntKind.i64.wrap ((nth p.heap.arena (goodSlot p.heap.arena now me c.a)).pages * c.b)) 0)) (p.heap.arena.set (goodSlot p.heap.arena now me c.a).toNat (tilled (nth p.heap.arena (goodSlot p.heap.arena now me c.a)) (IntKind.i64.wrap ((nth p.heap.arena (goodSlot p.heap.arena now me c.a)).til+c.b)))))
theorem s_renew {N:Nat} (hN:BIG≤N) {p:DPart} (hp:Pin p) (me now:Int) {c:DCall} (hc:(c.kind==1)=false):F_s_l14Renew N p me now c=some (fin c p (doRenew p me now c)):=by
  have h4:=hp.b4
  have h3:=hp.b3
  unfold F_s_l14Renew doRenew
  simp only [s_slot hN h4 hp.w,s_in,Option.bind_some]
  cases q2:slotC p.heap.arena now me c.a 0 != 0
  case true=>simp only [cond_true,fin_no q2 hc]
  have q2':=ne_false q2
  obtain ⟨ar,g0,g9,gk,_⟩:=slot_ok q2'
  simp only [Bool.not_true,cond_false,q2',beq_self_eq_true,cond_true]
  generalize goodSlot p.heap.arena now me c.a=i at *
  simp only [(ar.at g0 g9).1,Option.bind_some,bOr,s_ResOf hN,s_TreePay hN h3,s_AmtAdd]
  cases ((i==0) || (!inR c.b 1 1000 || decide (IntKind.i64.wrap ((nth p.heap.arena i).til+c.b) > 1000000)))
  · unfold canPay
    cases (treePay p.tree (resOf p (nth p.heap.arena i).res) (DAmt.mk 0 (IntKind.i64.wrap ((nth p.heap.arena i).pages * c.b)) 0)).2 <;> cases (amtAdd p.spent (DAmt.mk 0 (IntKind.i64.wrap ((nth p.heap.arena i).pages * c.b)) 0)).2 <;> simp only [Bool.not_true,Bool.not_false,Bool.and_self,Bool.and_false,Bool.false_and,Bool.or_self,Bool.or_true,Bool.true_or,Bool.false_or,Bool.or_false,Bool.true_and,Bool.and_true,cond_true,cond_false,fin_no (show ((6:Int) != 0)=true from rfl) hc,fin_ok]
    rfl
  · simp only [cond_true,fin_no (show ((2:Int) != 0)=true from rfl) hc]
def doRes (p:DPart) (c:DCall):Int×Int×DPart :=
  bif c.kind==9 then
    bif !inR c.a 0 4 || !amtOk (DAmt.mk c.b c.c c.d) then (2,0,p) else
    bif !(treeSplit p.tree c.a (DAmt.mk c.b c.c c.d)).2.2 then (6,0,p) else (0,(treeSplit p.tree c.a (DAmt.mk c.b c.c c.d)).2.1,withTree p (treeSplit p.tree c.a (DAmt.mk c.b c.c c.d)).1)
  else bif c.kind==10 then
    bif !inR c.a 0 4 || (!inR c.b 0 4 || (!inR c.c 0 2 || !okA c.d)) then (2,0,p) else
    bif !(treeGive p.tree c.a c.b (amtOne c.c c.d)).2 then (6,0,p) else (0,0,withTree p (treeGive p.tree c.a c.b (amtOne c.c c.d)).1)
  else bif !(treeDrop p.tree c.a).2 then (2,0,p) else (0,0,withTree p (treeDrop p.tree c.a).1)
theorem s_res {N:Nat} (hN:BIG≤N) {p:DPart} (hp:Pin p) {c:DCall} (hc:(c.kind==1)=false):F_s_l14Res N p c=some (fin c p (doRes p c)):=by
  have h3:=hp.b3
  have n2:=fun q=>fin_no (p:=p) (q:=q) (v:=0) (show ((2:Int) != 0)=true from rfl) hc
  have n6:=fun q=>fin_no (p:=p) (q:=q) (v:=0) (show ((6:Int) != 0)=true from rfl) hc
  unfold F_s_l14Res doRes
  simp only [s_l6Res,s_AmtOk,s_in,s_5,s_AmtOne,s_TreeSplit hN h3,s_TreeGive hN h3,s_TreeDrop hN h3,Option.bind_some,bOr]
  cases c.kind==9
  · cases c.kind==10
    · cases (treeDrop p.tree c.a).2
      · simp only [Bool.not_false,cond_true,cond_false,n2]
      · rfl
    · cases (!inR c.a 0 4 || (!inR c.b 0 4 || (!inR c.c 0 2 || !okA c.d)))
      · cases (treeGive p.tree c.a c.b (amtOne c.c c.d)).2
        · simp only [Bool.not_false,cond_true,cond_false,n6]
        · rfl
      · simp only [cond_true,cond_false,n2]
  · cases (!inR c.a 0 4 || !amtOk (DAmt.mk c.b c.c c.d))
    · cases (treeSplit p.tree c.a (DAmt.mk c.b c.c c.d)).2.2
      · simp only [Bool.not_false,cond_true,cond_false,n6]
      · rfl
    · simp only [cond_true,n2]
def doSelf (p:DPart) (th a:Int):Int×Int×DPart :=
  bif a==0 then (0,(nth p.heap.arena th).ran,p) else bif a==1 then (0,(nth p.heap.arena th).got,p) else
  bif (a==2) || ((a==3) || (a==4)) then (0,amtPart (balAt p th) (IntKind.i64.wrap (a - 2)),p) else (2,0,p)
theorem bThree (a b c:Bool):(bif a then some a else bif b then some b else some c)=some (a || (b || c)):=by cases a <;> cases b <;> rfl
theorem bTwo (a b:Bool):(bif a then some a else some b)=some (a || b):=by cases a <;> rfl
theorem s_self {N:Nat} (hN:BIG≤N) {p:DPart} (hp:Pin p) {th:Int} (h0:0≤th) (h9:th≤9) {c:DCall} (hc:(c.kind==1)=false):F_s_l14Self N p th c=some (fin c p (doSelf p th c.a)):=by
  unfold F_s_l14Self doSelf
  obtain ⟨r0,r4⟩:=resOf_rng p (nth p.heap.arena th).res
  simp only [(hp.ar.at h0 h9).1,s_ResOf hN,treeIdx hp.ok r0 r4,s_AmtPart,Option.bind_some,bThree,am_eta]
  cases c.a==0
  · cases c.a==1
    · cases (c.a==2) || ((c.a==3) || (c.a==4))
      · simp only [cond_false,fin_no (show ((2:Int) != 0)=true from rfl) hc]
      · rfl
    · rfl
  · rfl
theorem putGo_or {l:List DObj} {o:DObj}:∀ (m:List DObj) (k:Nat),putGo l o k m=(l, -1)∨∃ (j:Nat) (g:Int),j<k+m.length∧putGo l o k m=(l.set j (genned o g),(j:Int))∧arenaOk (l.set j (genned o g))=true
  | [],k=>.inl rfl
  | x::m,k=>by
    unfold putGo
    split
    · rcases putGo_or (l:=l) (o:=o) m (k+1) with h | ⟨j,g,h1,h2,h3⟩
      · exact .inl h
      · exact .inr ⟨j,g,by simp only [List.length_cons];omega,h2,h3⟩
    · unfold putAt
      split
      · rename_i q
        simp only [Bool.and_eq_true] at q
        exact .inr ⟨k,_,by simp,rfl,q.1⟩
      · exact .inl rfl
theorem arenaPut_or {l:List DObj} {o:DObj} (h:decide ((arenaPut l o).2<0)=false):∃ (j:Nat) (g:Int),arenaPut l o=(l.set j (genned o g),(j:Int))∧Ar (l.set j (genned o g))∧j<10:=by
  unfold arenaPut at *
  cases ha:arenaOk l
  · rw [ha] at h;simp at h
  · rw [ha] at h
    simp only [if_true] at *
    have hl:=(arenaOk_iff.1 ha).len
    rcases putGo_or (l:=l) (o:=o) (l.drop 1) 1 with e | ⟨j,g,h1,h2,h3⟩
    · rw [e] at h;simp at h
    · exact ⟨j,g,h2,arenaOk_iff.1 h3,by simp only [List.length_drop] at h1;omega⟩
def newObj (now box:Int) (c:DCall):DObj:=DObj.mk 0 c.a box c.e (IntKind.i64.wrap (now+c.d)) c.c 0 0 0 false [-1, -1] (bif c.a==2 then List.replicate c.c.toNat 0 else []) []
def makeBad (now:Int) (c:DCall):Bool:=!inR c.a 1 4 || (!inR c.c 0 8 || (!inR c.d 1 1000 || (decide (IntKind.i64.wrap (now+c.d) > 1000000) || !inR c.e 0 4)))
def cost (c:DCall):DAmt:=DAmt.mk c.c (IntKind.i64.wrap (c.c * c.d)) 0
def doMake (p:DPart) (me now:Int) (c:DCall):Int×Int×DPart :=
  bif makeBad now c then (2,0,p) else
  bif slotC p.heap.arena now me c.b 1 != 0 then (slotC p.heap.arena now me c.b 1,0,p) else
  bif !canPay p c.e (cost c) then (6,0,p) else
  bif decide ((arenaPut p.heap.arena (newObj now (goodSlot p.heap.arena now me c.b) c)).2<0) then (7,0,paid p c.e (cost c)) else
  (0,handleOf me (arenaPut p.heap.arena (newObj now (goodSlot p.heap.arena now me c.b) c)).2 (nth (arenaPut p.heap.arena (newObj now (goodSlot p.heap.arena now me c.b) c)).1 (arenaPut p.heap.arena (newObj now (goodSlot p.heap.arena now me c.b) c)).2).gen,
    withHeap (paid p c.e (cost c)) (gcBorn (DHeap.mk (arenaPut p.heap.arena (newObj now (goodSlot p.heap.arena now me c.b) c)).1 p.heap.gc) (arenaPut p.heap.arena (newObj now (goodSlot p.heap.arena now me c.b) c)).2))
theorem makeBad_rng {now:Int} {c:DCall} (h:makeBad now c=false):0≤c.c∧c.c≤8:=by
  unfold makeBad at h
  simp only [Bool.or_eq_false_iff,Bool.not_eq_false'] at h
  exact inR_iff.1 h.2.1
theorem newObj_sz {now box:Int} {c:DCall} (h:0≤c.c∧c.c≤8):sz_DObj (newObj now box c)≤100:=by
  unfold sz_DObj newObj
  cases c.a==2
  · simp
  · simp only [cond_true,List.length_replicate,List.length_cons,List.length_nil]
    omega
theorem newObj_w (now box:Int) (c:DCall):wOk (newObj now box c):=by show (-9223372036854775808:Int)≤0;decide
theorem mk_c {c:Int} (h:0≤c∧c≤8):mk Int c=some (List.replicate c.toNat 0):=by
  have hB:(16777216:Nat)=BIG:=rfl
  unfold mk
  rw [if_pos ⟨h.1,by omega⟩]
  rfl
theorem bFive (a b c d e:Bool):(bif a then some true else bif b then some true else bif c then some true else bif d then some true else some e)=some (a || (b || (c || (d || e)))):=by cases a <;> cases b <;> cases c <;> cases d <;> rfl
theorem slotC_ne (l:List DObj) (now me h k:Int):(slotC l now me h k==6)=false∧(slotC l now me h k==7)=false:=by
  unfold slotC
  cases hOk h
  · exact ⟨rfl,rfl⟩
  cases hPart h != me
  case true=>exact ⟨rfl,rfl⟩
  cases decide (goodSlot l now me h<0)
  case true=>exact ⟨rfl,rfl⟩
  cases (k != 0)&&((nth l (goodSlot l now me h)).kind != k) <;> exact ⟨rfl,rfl⟩
theorem fin_slot {c:DCall} {p q:DPart} {k v:Int} (h:(k != 0)=true) (h6:(k==6)=false) (h7:(k==7)=false):fin c p (k,v,q)=(p,DReply.mk k 0):=by
  unfold fin
  have:(k==0)=false:=by simpa [bne] using h
  rw [this]
  simp only [cond_false,h6,h7,Bool.or_self,Bool.and_false]
theorem fin_press {c:DCall} {p q:DPart} {k v:Int} (h:(k != 0)=true) (h6:((k==6) || (k==7))=true) (hc:(c.kind==1)=true):fin c p (k,v,q)=(pressed p,DReply.mk k 0):=by
  unfold fin
  have:(k==0)=false:=by simpa [bne] using h
  rw [this]
  simp only [cond_false,h6,hc,Bool.and_self,cond_true]
theorem s_make {N:Nat} (hN:BIG≤N) {p:DPart} (hp:Pin p) (me now:Int) {c:DCall} (hc1:(c.kind==1)=true):F_s_l14Make N p me now c=some (fin c p (doMake p me now c)):=by
  have h4:=hp.b4
  have h3:=hp.b3
  have h5:=hp.b5
  unfold F_s_l14Make doMake
  simp only [s_kind hN h4 hp.w _ _ _ (show (0:Int)<1 by decide),s_in,s_l6Res,Option.bind_some,bFive]
  rw [show (!inR c.a 1 4 || (!inR c.c 0 8 || (!inR c.d 1 1000 || (decide (IntKind.i64.wrap (now+c.d) > 1000000) || !inR c.e 0 4))))=makeBad now c from rfl]
  cases q1:makeBad now c
  case true=>simp only [cond_true,fin_slot (show ((2:Int) != 0)=true from rfl) rfl rfl]
  have hc:=makeBad_rng q1
  cases q2:slotC p.heap.arena now me c.b 1 != 0
  case true=>simp only [cond_true,cond_false,fin_slot q2 (slotC_ne _ _ _ _ _).1 (slotC_ne _ _ _ _ _).2]
  have q2':=ne_false q2
  simp only [cond_false,cond_true,q2',beq_self_eq_true]
  generalize goodSlot p.heap.arena now me c.b=box
  rw [show DAmt.mk c.c (IntKind.i64.wrap (c.c * c.d)) 0=cost c from rfl]
  simp only [s_TreePay hN h3,s_AmtAdd,Option.bind_some,bOr]
  rw [show (!(treePay p.tree c.e (cost c)).2 || !(amtAdd p.spent (DAmt.mk 0 (IntKind.i64.wrap (c.c * c.d)) 0)).2)=!canPay p c.e (cost c) by unfold canPay;rw [Bool.not_and];rfl]
  cases q3:canPay p c.e (cost c)
  · simp only [Bool.not_false,cond_true,fin_press (show ((6:Int) != 0)=true from rfl) rfl hc1]
    rfl
  simp only [Bool.not_true,cond_false,cond_true,mk_c hc,Option.bind_some]
  rw [show (bif c.a==2 then some (List.replicate c.c.toNat 0) else some ([]:List Int))=some (bif c.a==2 then List.replicate c.c.toNat 0 else []) from cond_some _ _ _]
  simp only [Option.bind_some]
  rw [show DObj.mk 0 c.a box c.e (IntKind.i64.wrap (now+c.d)) c.c 0 0 0 false [-1, -1] (bif c.a==2 then List.replicate c.c.toNat 0 else []) []=newObj now box c from rfl]
  have ho:=newObj_sz (now:=now) (box:=box) hc
  rw [s_ArenaPut hN h4 hp.w (o:=newObj now box c) (by omega) (newObj_w _ _ _)]
  simp only [Option.bind_some]
  cases q4:decide ((arenaPut p.heap.arena (newObj now box c)).2<0)
  case true =>
    simp only [cond_true,fin_press (show ((7:Int) != 0)=true from rfl) rfl hc1]
    rfl
  obtain ⟨j,g,e,ar,hj⟩:=arenaPut_or q4
  have h1:=ar.sz
  have hB:(16777216:Nat)=BIG:=rfl
  have hw':wA (p.heap.arena.set j (genned (newObj now box c) g)):=wA_set hp.w (genned_w (newObj_w _ _ _))
  rw [e]
  simp only [cond_false,(ar.at (i:=(j:Int)) (by omega) (by omega)).1,Option.bind_some,s_HandleOf]
  rw [s_GcBorn hN (h:=DHeap.mk (p.heap.arena.set j (genned (newObj now box c) g)) p.heap.gc) (by show szL sz_DObj (p.heap.arena.set j (genned (newObj now box c) g))<BIG;omega) (by show p.heap.gc.grey.length<BIG;omega) hw']
  rfl
def gHit (l:List DObj) (k w b:Int):List DObj:=bif decide (k ≥ 0)&&((nth l k).wait==w) then (l.set k.toNat (waiting (nth l k) 0)).set k.toNat (answered (nth (l.set k.toNat (waiting (nth l k) 0)) k) b) else l
theorem gHit_tail {l:List DObj} {k w b:Int} (h:0≤k→k<(l.length:Int)) {β:Type} (f:List DObj→Option β) :
    ((bif decide (k ≥ 0) then ((idx l k).bind fun y=>some (y.wait==w)) else (some false):Option Bool).bind fun j=>(bif j then ((idx l k).bind fun y=>(some (l.set (k:Int).toNat (waiting y 0))).bind fun z=>(idx z k).bind fun x=>(some (z.set (k:Int).toNat (answered x b))).bind fun v=>some v) else (some l):Option (List DObj)).bind f)=f (gHit l k w b):=by
  unfold gHit
  cases hk:decide (k ≥ 0)
  · rfl
  have k0:0≤k:=by simpa using hk
  have e:=idx_ok k0 (h k0)
  have e2:∀ z,idx (l.set k.toNat z) k=some (nth (l.set k.toNat z) k):=fun z=>idx_ok k0 (by simp only [List.length_set];exact h k0)
  simp only [cond_true,e,e2,Option.bind_some,Bool.true_and]
  cases (nth l k).wait==w <;> rfl
def asked (l:List DObj) (g me th:Int) (c:DCall):List DObj:=l.set g.toNat (queued (nth l g) ((nth l g).queue++[DMsg.mk (handleOf me th (nth l th).gen) c.b]))
def served (l:List DObj) (g:Int):List DObj:=l.set g.toNat (queued (nth l g) ((nth l g).queue.drop 1))
def doGate (p:DPart) (me now th:Int) (c:DCall):Int×Int×DPart :=
  bif slotC p.heap.arena now me c.a 3 != 0 then (slotC p.heap.arena now me c.a 3,0,p) else
  bif !inR c.b 0 999 then (2,0,p) else
  bif c.kind==12 then
    bif decide (((nth p.heap.arena (goodSlot p.heap.arena now me c.a)).queue.length:Int) ≥ 2) then (8,0,p) else
    (0,0,changeAt p ((asked p.heap.arena (goodSlot p.heap.arena now me c.a) me th c).set th.toNat (waiting (nth (asked p.heap.arena (goodSlot p.heap.arena now me c.a) me th c) th) (IntKind.i64.wrap (c.a+1)))))
  else
    bif ((nth p.heap.arena (goodSlot p.heap.arena now me c.a)).queue.length:Int)==0 then (8,0,p) else
    (0,(nth (nth p.heap.arena (goodSlot p.heap.arena now me c.a)).queue 0).n,changeAt p (gHit (served p.heap.arena (goodSlot p.heap.arena now me c.a)) (goodSlot (served p.heap.arena (goodSlot p.heap.arena now me c.a)) now me (nth (nth p.heap.arena (goodSlot p.heap.arena now me c.a)).queue 0).src) (IntKind.i64.wrap (c.a+1)) c.b))
theorem sub_drop {α:Type} {l:List α} {k:Nat} (h:k≤l.length):sub l (k:Int) (l.length:Int)=some (l.drop k):=by
  unfold sub
  rw [if_pos ⟨by omega,by omega,by omega⟩]
  simp only [Int.toNat_natCast]
  rw [List.take_of_length_le (by simp)]
theorem queue_len {o:DObj} (h:sz_DObj o≤12):o.queue.length≤12:=by unfold sz_DObj at h;omega
theorem queued_sz {o:DObj} {q:List DMsg} (h:sz_DObj o≤12) (hq:q.length≤20):sz_DObj (queued o q)≤100000:=by
  unfold sz_DObj at h
  unfold sz_DObj queued
  simp only
  omega
theorem good_lt {l:List DObj} {now me h:Int} (hl:l.length=10) (h0:0≤goodSlot l now me h):goodSlot l now me h<(l.length:Int):=by
  obtain ⟨_,_,h9,_⟩:=good_at (l:=l) (now:=now) (me:=me) (h:=h) (decide_eq_false (by omega))
  omega
theorem s_gate {N:Nat} (hN:BIG≤N) {p:DPart} (hp:Pin p) (me now:Int) {th:Int} (t0:0≤th) (t9:th≤9) {c:DCall} (hc:(c.kind==1)=false):F_s_l14Gate N p me now th c=some (fin c p (doGate p me now th c)):=by
  have h4:=hp.b4
  unfold F_s_l14Gate doGate
  simp only [s_kind hN h4 hp.w _ _ _ (show (0:Int)<3 by decide),s_in,Option.bind_some]
  cases q2:slotC p.heap.arena now me c.a 3 != 0
  case true=>simp only [cond_true,fin_no q2 hc]
  have q2':=ne_false q2
  obtain ⟨ar,g0,g9,gk,_⟩:=slot_ok q2'
  simp only [Bool.not_true,cond_false,q2',beq_self_eq_true,cond_true]
  generalize goodSlot p.heap.arena now me c.a=i at *
  have ho:=obj_sz ar g0 g9
  have hq:=queue_len ho
  have hl:=ar.len
  have hB:(16777216:Nat)=BIG:=rfl
  simp only [(ar.at g0 g9).1,(ar.at t0 t9).1,Option.bind_some]
  cases q3:inR c.b 0 999
  · simp only [Bool.not_false,cond_true,fin_no (show ((2:Int) != 0)=true from rfl) hc]
  cases q4:c.kind==12
  · simp only [Bool.not_true,Bool.not_false,cond_false,cond_true,Option.bind_some]
    cases q5:((nth p.heap.arena i).queue.length:Int)==0
    case true=>simp only [cond_true,fin_no (show ((8:Int) != 0)=true from rfl) hc]
    have l1:1≤(nth p.heap.arena i).queue.length:=by rw [beq_eq_false_iff_ne] at q5;omega
    have hsub:sub (nth p.heap.arena i).queue 1 ((nth p.heap.arena i).queue.length:Int)=some ((nth p.heap.arena i).queue.drop 1):=sub_drop l1
    have happ:app ([]:List DMsg) ((nth p.heap.arena i).queue.drop 1)=some ((nth p.heap.arena i).queue.drop 1):=appN (by simp only [List.length_drop];omega)
    have hi0:idx (nth p.heap.arena i).queue 0=some (nth (nth p.heap.arena i).queue 0):=idx_ok (i:=0) (by decide) (by omega)
    simp only [cond_false,hsub,happ,hi0,Option.bind_some,fin_ok]
    have hs:szL sz_DObj (p.heap.arena.set i.toNat (queued (nth p.heap.arena i) ((nth p.heap.arena i).queue.drop 1)))<BIG:=set_b ar (queued_sz ho (by simp only [List.length_drop];omega))
    have hx:wA (p.heap.arena.set i.toNat (queued (nth p.heap.arena i) ((nth p.heap.arena i).queue.drop 1))):=wA_set hp.w (show wOk (nth p.heap.arena i) from hp.w _ (ar.at g0 g9).2)
    have e1:=s_GoodSlot hN hs hx now me (nth (nth p.heap.arena i).queue 0).src
    unfold queued at e1
    rw [e1,Option.bind_some]
    exact gHit_tail (l:=served p.heap.arena i) (good_lt (by unfold served;simp only [List.length_set];exact hl)) fun z=>some (changeAt p z,DReply.mk 0 (nth (nth p.heap.arena i).queue 0).n)
  · simp only [Bool.not_true,Bool.not_false,cond_false,cond_true,Option.bind_some,bOr,Bool.or_false]
    cases q5:decide (((nth p.heap.arena i).queue.length:Int) ≥ 2)
    case true=>simp only [cond_true,fin_no (show ((8:Int) != 0)=true from rfl) hc]
    have happ:∀ m,app (nth p.heap.arena i).queue [m]=some ((nth p.heap.arena i).queue++[m]):=fun m=>app1 hq (by omega)
    have hap0:app ([]:List DMsg) (nth p.heap.arena i).queue=some (nth p.heap.arena i).queue:=appN (by omega)
    have e2:∀ z,idx (p.heap.arena.set i.toNat z) th=some (nth (p.heap.arena.set i.toNat z) th):=fun z=>idx_ok t0 (by simp only [List.length_set];omega)
    simp only [cond_false,s_HandleOf,hap0,happ,e2,Option.bind_some,fin_ok]
    rfl
def doUntap (p:DPart) (c:DCall):Int×Int×DPart:=bif !inR c.a 0 ((p.taps.length:Int) - 1) then (2,0,p) else (0,0,withTaps p (p.taps.take c.a.toNat++p.taps.drop (c.a.toNat+1)))
theorem sub_ok {α:Type} {l:List α} {i j:Int} (h0:0≤i) (h1:i≤j) (h2:j≤(l.length:Int)):sub l i j=some ((l.drop i.toNat).take (j.toNat - i.toNat)):=by
  unfold sub
  rw [if_pos ⟨h0,h1,h2⟩]
theorem Pin.b6 {p:DPart} (h:Pin p):p.taps.length<BIG:=(szPart (p:=p) (Nat.lt_of_le_of_lt h.sz (by decide))).2.2.2.2.2
theorem cut_at {α:Type} {l:List α} (hl:l.length<BIG) {a:Int} (h:inR a 0 ((l.length:Int) - 1)=true):IntKind.i64.wrap (a+1)=a+1∧sub l 0 a=some (l.take a.toNat)∧sub l (a+1) (l.length:Int)=some (l.drop (a.toNat+1))∧∃ m,sub l a (a+1)=some m:=by
  have hB:(16777216:Nat)=BIG:=rfl
  rw [inR_iff] at h
  refine ⟨wrap_ok (by omega) (by omega),?_,?_,_,sub_ok h.1 (by omega) (by omega)⟩
  · rw [sub_ok (Int.le_refl 0) h.1 (by omega)]
    simp
  · rw [sub_ok (by omega) (by omega) (Int.le_refl _),show (a+1).toNat=a.toNat+1 by omega,List.take_of_length_le (by simp)]
def doCall (p:DPart) (me now th:Int) (c:DCall):Int×Int×DPart :=
  bif c.kind==1 then doMake p me now c else bif (c.kind==2) || (c.kind==3) then doLink p me now c else bif (c.kind==4) || (c.kind==5) then doMove p me now c else
  bif (c.kind==6) || (c.kind==7) then doData p me now c else bif c.kind==8 then doRenew p me now c else bif (c.kind==9) || ((c.kind==10) || (c.kind==11)) then doRes p c else
  bif (c.kind==12) || (c.kind==13) then doGate p me now th c else bif c.kind==14 then doSelf p th c.a else bif c.kind==15 then doUntap p c else (2,0,p)
theorem self_fr (p:DPart) (th a:Int):(doSelf p th a).2.2=p:=by
  unfold doSelf
  cases a==0
  · cases a==1
    · cases (a==2) || ((a==3) || (a==4)) <;> rfl
    · rfl
  · rfl
theorem one_of {a m n:Int} (hne:m ≠ n) (h:((a==m) || (a==n))=true):(a==m)=!(a==n):=by
  simp only [Bool.or_eq_true,beq_iff_eq] at h
  rcases h with h | h
  · subst h
    have:(a==n)=false:=by rw [beq_eq_false_iff_ne];exact hne
    rw [this];simp
  · subst h
    have:(a==m)=false:=by rw [beq_eq_false_iff_ne];exact fun q=>hne q.symm
    rw [this];simp
theorem canCall_at {p:DPart} {now th:Int} (h:canCall p now th=true):partOk p=true∧0≤th∧th≤9:=by
  unfold canCall at h
  simp only [Bool.and_eq_true] at h
  exact threads_at (now:=now) (by simpa using h.1)
def partCall (p:DPart) (me now th:Int) (c:DCall):DPart×DReply :=
  bif !partOk p || (!inR me 0 2 || !inR now 0 1000000) then (p,DReply.mk 2 0) else bif !canCall p now th then (p,DReply.mk 1 0) else fin c p (doCall p me now th c)
theorem data_keep (p:DPart) (me now:Int) (c:DCall) {β:Type} (x:Option β):keepL p.label.levels (fin c p (doData p me now c)).1.label.levels (keepL p.own (fin c p (doData p me now c)).1.own (keepL p.tree (fin c p (doData p me now c)).1.tree (keepL p.heap.arena (fin c p (doData p me now c)).1.heap.arena (keepL p.heap.gc.grey (fin c p (doData p me now c)).1.heap.gc.grey (keepL p.taps (fin c p (doData p me now c)).1.taps x)))))=x:=by
  have h:(doData p me now c).2.2.label=p.label∧(doData p me now c).2.2.own=p.own∧(doData p me now c).2.2.tree=p.tree∧(doData p me now c).2.2.heap.arena.length=p.heap.arena.length∧(doData p me now c).2.2.heap.gc=p.heap.gc∧(doData p me now c).2.2.taps=p.taps:=by
    unfold doData
    cases slotC p.heap.arena now me c.a 2 != 0
    case true=>exact ⟨rfl,rfl,rfl,rfl,rfl,rfl⟩
    cases !inR c.b 0 (((nth p.heap.arena (goodSlot p.heap.arena now me c.a)).data.length:Int) - 1)
    case true=>exact ⟨rfl,rfl,rfl,rfl,rfl,rfl⟩
    cases c.kind==7
    case true=>exact ⟨rfl,rfl,rfl,rfl,rfl,rfl⟩
    cases !inR c.c 0 999
    case true=>exact ⟨rfl,rfl,rfl,rfl,rfl,rfl⟩
    exact ⟨rfl,rfl,rfl,List.length_set,rfl,rfl⟩
  have g:(fin c p (doData p me now c)).1.label.levels.length=p.label.levels.length∧(fin c p (doData p me now c)).1.own.length=p.own.length∧(fin c p (doData p me now c)).1.tree.length=p.tree.length∧(fin c p (doData p me now c)).1.heap.arena.length=p.heap.arena.length∧(fin c p (doData p me now c)).1.heap.gc.grey.length=p.heap.gc.grey.length∧(fin c p (doData p me now c)).1.taps.length=p.taps.length:=by
    unfold fin
    cases (doData p me now c).1==0
    · cases (c.kind==1)&&(((doData p me now c).1==6) || ((doData p me now c).1==7)) <;> exact ⟨rfl,rfl,rfl,rfl,rfl,rfl⟩
    · simp only [cond_true]
      rw [h.1,h.2.1,h.2.2.1,h.2.2.2.2.1,h.2.2.2.2.2]
      exact ⟨rfl,rfl,rfl,h.2.2.2.1,rfl,rfl⟩
  rw [keepL_same g.1,keepL_same g.2.1,keepL_same g.2.2.1,keepL_same g.2.2.2.1,keepL_same g.2.2.2.2.1,keepL_same g.2.2.2.2.2]
theorem s_PartCall {N:Nat} (hN:BIG≤N) {p:DPart} (hb:sz_DPart p≤3000000) (hw:wP p) (me now th:Int) (c:DCall):F_s_PartCall N p me now th c=some (partCall p me now th c):=by
  have hB:sz_DPart p<BIG:=Nat.lt_of_le_of_lt hb (by decide)
  unfold F_s_PartCall partCall
  simp only [s_PartOk hN hB hw,s_in,s_l13Copy hN hB,s_CanCall hN hB hw,Option.bind_some,bOr,bTwo,bThree]
  cases !partOk p || (!inR me 0 2 || !inR now 0 1000000)
  case true=>rfl
  cases hc:canCall p now th
  · rfl
  obtain ⟨ok,t0,t9⟩:=canCall_at hc
  have hp:Pin p:=⟨ok,hb,hw⟩
  simp only [Bool.not_true,cond_false]
  unfold doCall
  cases hk:c.kind==1
  case true=>simp only [cond_true,s_make hN hp me now hk,Option.bind_some]
  simp only [cond_false]
  cases (c.kind==2) || (c.kind==3)
  case true=>simp only [cond_true,s_link hN hp me now hk,Option.bind_some]
  simp only [cond_false]
  cases (c.kind==4) || (c.kind==5)
  case true=>simp only [cond_true,s_move hN hp me now hk,Option.bind_some]
  simp only [cond_false]
  cases hd:(c.kind==6) || (c.kind==7)
  case true =>
    simp only [cond_true,s_data hN hp me now hk (one_of (by decide) hd),Option.bind_some]
    all_goals (rw [data_keep];rfl)
  simp only [cond_false]
  cases c.kind==8
  case true=>simp only [cond_true,s_renew hN hp me now hk,Option.bind_some]
  simp only [cond_false]
  cases (c.kind==9) || ((c.kind==10) || (c.kind==11))
  case true=>simp only [cond_true,s_res hN hp hk,Option.bind_some]
  simp only [cond_false]
  cases (c.kind==12) || (c.kind==13)
  case true=>simp only [cond_true,s_gate hN hp me now t0 t9 hk,Option.bind_some]
  simp only [cond_false]
  cases c.kind==14
  case true=>simp only [cond_true,s_self hN hp t0 t9 hk,Option.bind_some]
  simp only [cond_false]
  cases c.kind==15
  case false=>simp only [cond_false,fin_no (show ((2:Int) != 0)=true from rfl) hk]
  have h6:=hp.b6
  unfold doUntap
  simp only [cond_true,len_w h6]
  cases hi:inR c.a 0 ((p.taps.length:Int) - 1)
  · simp only [Bool.not_false,cond_true,fin_no (show ((2:Int) != 0)=true from rfl) hk]
  obtain ⟨h1,h2,h3,_⟩:=cut_at h6 hi
  have hB':(16777216:Nat)=BIG:=rfl
  have a1:app ([]:List DTap) (p.taps.take c.a.toNat)=some (p.taps.take c.a.toNat):=appN (by simp only [List.length_take];omega)
  have a2:app (p.taps.take c.a.toNat) (p.taps.drop (c.a.toNat+1))=some (p.taps.take c.a.toNat++p.taps.drop (c.a.toNat+1)):=by
    unfold app
    rw [if_pos (by simp only [List.length_take,List.length_drop];omega)]
  simp only [Bool.not_true,cond_false,h1,h2,h3,a1,a2,Option.bind_some,fin_ok]
  rfl
structure Near (p q:DPart):Prop where
  sz:sz_DPart q≤sz_DPart p+300
  w:wP q
  ln:q.heap.arena.length=p.heap.arena.length
theorem near_of {p q:DPart} (h1:q.label=p.label) (h2:q.own=p.own) (h3:q.tree.length=p.tree.length) (h4:szL sz_DObj q.heap.arena≤szL sz_DObj p.heap.arena+250) (h5:q.heap.gc.grey.length≤p.heap.gc.grey.length+1) (h6:q.taps.length≤p.taps.length) (h7:wA q.heap.arena) (h8:q.heap.arena.length=p.heap.arena.length):Near p q:=by
  refine ⟨?_,h7,h8⟩
  unfold sz_DPart sz_DHeap sz_DGc sz_DLabel
  rw [h1,h2]
  omega
theorem near_self {p:DPart} (h:Pin p):Near p p:=⟨by omega,h.w,rfl⟩
theorem set_sz {l:List DObj} {k:Nat} {o:DObj} (ho:sz_DObj o≤100):szL sz_DObj (l.set k o)≤szL sz_DObj l+100:=Nat.le_trans szL_set (by omega)
theorem shadeAt_ln (h:DHeap) (c i:Int):(shadeAt h c i).arena.length=h.arena.length:=by
  unfold shadeAt gcShade shade
  cases decide (c ≥ 0)
  · rfl
  cases heapOk h&&inR i 0 9
  · rfl
  simp only [cond_true]
  split
  · simp only [List.length_set]
  · rfl
theorem shadeAt_in {h:DHeap} (hw:wA h.arena) (c i:Int):szL sz_DObj (shadeAt h c i).arena=szL sz_DObj h.arena∧wA (shadeAt h c i).arena∧(shadeAt h c i).gc.grey.length≤h.gc.grey.length+1:=by
  unfold shadeAt gcShade
  cases decide (c ≥ 0)
  · exact ⟨rfl,hw,Nat.le_succ _⟩
  cases q:heapOk h&&inR i 0 9
  · exact ⟨rfl,hw,Nat.le_succ _⟩
  simp only [Bool.and_eq_true,inR_iff] at q
  have hl:=(heapOk_ar q.1).len
  simp only [cond_true]
  refine ⟨?_,?_,shade_grey h i⟩
  · unfold shade
    split
    · exact szL_same q.2.1 (by omega) rfl
    · rfl
  · unfold shade
    split
    · exact wA_set hw (show wOk (marked (nth h.arena i) true) from hw (nth h.arena i) (nth_mem q.2.1 (by omega)))
    · exact hw
theorem link_in {p:DPart} (hp:Pin p) (me now:Int) (c:DCall):Near p (doLink p me now c).2.2:=by
  unfold doLink
  cases !inR c.b 0 1
  case true=>exact near_self hp
  cases q2:slotC p.heap.arena now me c.a 0 != 0
  case true=>exact near_self hp
  obtain ⟨ar,g0,g9,_,_⟩:=slot_ok (ne_false q2)
  cases (c.kind==2)&&(slotC p.heap.arena now me c.c 0 != 0)
  case true=>exact near_self hp
  simp only [cond_false]
  generalize (bif c.kind==2 then goodSlot p.heap.arena now me c.c else -1)=x
  have ho:=obj_sz ar g0 g9
  obtain ⟨a,b,d⟩:=shadeAt_in (h:=DHeap.mk (p.heap.arena.set (goodSlot p.heap.arena now me c.a).toNat (linked (nth p.heap.arena (goodSlot p.heap.arena now me c.a)) c.b x)) p.heap.gc) (wA_set hp.w (show wOk (nth p.heap.arena (goodSlot p.heap.arena now me c.a)) from hp.w _ (ar.at g0 g9).2)) x x
  refine near_of rfl rfl rfl ?_ d (Nat.le_refl _) b (by show (shadeAt _ _ _).arena.length=_;rw [shadeAt_ln];exact List.length_set)
  refine Nat.le_trans (Nat.le_of_eq a) (Nat.le_trans (set_sz (by rw [linked_sz];omega)) (by omega))
theorem move_in {p:DPart} (hp:Pin p) (me now:Int) (c:DCall):Near p (doMove p me now c).2.2:=by
  unfold doMove
  cases q2:slotC p.heap.arena now me c.a 0 != 0
  case true=>exact near_self hp
  obtain ⟨ar,g0,g9,_,_⟩:=slot_ok (ne_false q2)
  cases goodSlot p.heap.arena now me c.a==0
  case true=>exact near_self hp
  cases (c.kind==4)&&(slotC p.heap.arena now me c.b 1 != 0)
  case true=>exact near_self hp
  simp only [cond_false]
  generalize (bif c.kind==4 then goodSlot p.heap.arena now me c.b else -1)=x
  have ho:=obj_sz ar g0 g9
  obtain ⟨a,b,d⟩:=shadeAt_in (h:=DHeap.mk (p.heap.arena.set (goodSlot p.heap.arena now me c.a).toNat (boxed (nth p.heap.arena (goodSlot p.heap.arena now me c.a)) x)) p.heap.gc) (wA_set hp.w (show wOk (nth p.heap.arena (goodSlot p.heap.arena now me c.a)) from hp.w _ (ar.at g0 g9).2)) x (goodSlot p.heap.arena now me c.a)
  refine near_of rfl rfl rfl ?_ d (Nat.le_refl _) b (by show (shadeAt _ _ _).arena.length=_;rw [shadeAt_ln];exact List.length_set)
  refine Nat.le_trans (Nat.le_of_eq a) (Nat.le_trans (set_sz (show sz_DObj (nth p.heap.arena (goodSlot p.heap.arena now me c.a))≤100 by omega)) (by omega))
theorem data_in {p:DPart} (hp:Pin p) (me now:Int) (c:DCall):Near p (doData p me now c).2.2:=by
  unfold doData
  cases q2:slotC p.heap.arena now me c.a 2 != 0
  case true=>exact near_self hp
  obtain ⟨ar,g0,g9,_,_⟩:=slot_ok (ne_false q2)
  cases !inR c.b 0 (((nth p.heap.arena (goodSlot p.heap.arena now me c.a)).data.length:Int) - 1)
  case true=>exact near_self hp
  cases c.kind==7
  case true=>exact near_self hp
  cases !inR c.c 0 999
  case true=>exact near_self hp
  have ho:=obj_sz ar g0 g9
  refine near_of rfl rfl rfl ?_ (Nat.le_succ _) (Nat.le_refl _) (wA_set hp.w (show wOk (nth p.heap.arena (goodSlot p.heap.arena now me c.a)) from hp.w _ (ar.at g0 g9).2)) List.length_set
  refine Nat.le_trans (set_sz (o:=written (nth p.heap.arena (goodSlot p.heap.arena now me c.a)) c.b c.c) ?_) (by omega)
  unfold sz_DObj written at *
  simp only [List.length_set]
  omega
theorem renew_in {p:DPart} (hp:Pin p) (me now:Int) (c:DCall):Near p (doRenew p me now c).2.2:=by
  unfold doRenew
  cases q2:slotC p.heap.arena now me c.a 0 != 0
  case true=>exact near_self hp
  obtain ⟨ar,g0,g9,_,_⟩:=slot_ok (ne_false q2)
  cases (goodSlot p.heap.arena now me c.a==0) || (!inR c.b 1 1000 || decide (IntKind.i64.wrap ((nth p.heap.arena (goodSlot p.heap.arena now me c.a)).til+c.b) > 1000000))
  case true=>exact near_self hp
  cases !canPay p (resOf p (nth p.heap.arena (goodSlot p.heap.arena now me c.a)).res) (DAmt.mk 0 (IntKind.i64.wrap ((nth p.heap.arena (goodSlot p.heap.arena now me c.a)).pages * c.b)) 0)
  case true=>exact near_self hp
  have ho:=obj_sz ar g0 g9
  refine near_of rfl rfl (treePay_len _ _ _) ?_ (Nat.le_succ _) (Nat.le_refl _) (wA_set hp.w (show wOk (nth p.heap.arena (goodSlot p.heap.arena now me c.a)) from hp.w _ (ar.at g0 g9).2)) List.length_set
  exact Nat.le_trans (set_sz (show sz_DObj (nth p.heap.arena (goodSlot p.heap.arena now me c.a))≤100 by omega)) (by omega)
theorem tree_in {p:DPart} (hp:Pin p) {t:List DRes} (h:t.length=p.tree.length):Near p (withTree p t):=near_of rfl rfl h (by show szL sz_DObj p.heap.arena≤_;omega) (Nat.le_succ _) (Nat.le_refl _) hp.w rfl
theorem res_in {p:DPart} (hp:Pin p) (c:DCall):Near p (doRes p c).2.2:=by
  unfold doRes
  cases c.kind==9
  · cases c.kind==10
    · cases !(treeDrop p.tree c.a).2
      · exact tree_in hp (treeDrop_len _ _)
      · exact near_self hp
    · cases (!inR c.a 0 4 || (!inR c.b 0 4 || (!inR c.c 0 2 || !okA c.d)))
      · cases !(treeGive p.tree c.a c.b (amtOne c.c c.d)).2
        · exact tree_in hp (treeGive_len _ _ _ _)
        · exact near_self hp
      · exact near_self hp
  · cases (!inR c.a 0 4 || !amtOk (DAmt.mk c.b c.c c.d))
    · cases !(treeSplit p.tree c.a (DAmt.mk c.b c.c c.d)).2.2
      · exact tree_in hp (treeSplit_len _ _ _)
      · exact near_self hp
    · exact near_self hp
theorem born_ln (h:DHeap) (i:Int):(gcBorn h i).arena.length=h.arena.length:=by
  unfold gcBorn
  split
  · simp only [List.length_set]
  · rfl
theorem hit_ln (l:List DObj) (k w b:Int):(gHit l k w b).length=l.length:=by
  unfold gHit
  cases decide (k ≥ 0)&&((nth l k).wait==w)
  · rfl
  · simp only [cond_true,List.length_set]
theorem born_in {h:DHeap} (hw:wA h.arena) (i:Int):szL sz_DObj (gcBorn h i).arena=szL sz_DObj h.arena∧wA (gcBorn h i).arena∧(gcBorn h i).gc.grey.length=h.gc.grey.length:=by
  unfold gcBorn
  split
  · rename_i q
    simp only [Bool.and_eq_true,inR_iff] at q
    have hl:=(heapOk_ar q.1).len
    exact ⟨szL_same q.2.1.1 (by omega) rfl,wA_set hw (show wOk (nth h.arena i) from hw _ (nth_mem q.2.1.1 (by omega))),rfl⟩
  · exact ⟨rfl,hw,rfl⟩
theorem paid_in {p:DPart} (hp:Pin p) (f:Int) (a:DAmt):Near p (paid p f a):=near_of rfl rfl (treePay_len _ _ _) (by show szL sz_DObj p.heap.arena≤_;omega) (Nat.le_succ _) (Nat.le_refl _) hp.w rfl
theorem make_in {p:DPart} (hp:Pin p) (me now:Int) (c:DCall):Near p (doMake p me now c).2.2:=by
  unfold doMake
  cases q1:makeBad now c
  case true=>exact near_self hp
  cases slotC p.heap.arena now me c.b 1 != 0
  case true=>exact near_self hp
  cases !canPay p c.e (cost c)
  case true=>exact near_self hp
  generalize goodSlot p.heap.arena now me c.b=box
  cases q4:decide ((arenaPut p.heap.arena (newObj now box c)).2<0)
  case true=>exact paid_in hp _ _
  obtain ⟨j,g,e,ar,hj⟩:=arenaPut_or q4
  simp only [cond_false]
  rw [e]
  have ho:=newObj_sz (now:=now) (box:=box) (makeBad_rng q1)
  obtain ⟨a,b,d⟩:=born_in (h:=DHeap.mk (p.heap.arena.set j (genned (newObj now box c) g)) p.heap.gc) (wA_set hp.w (genned_w (newObj_w _ _ _))) (j:Int)
  refine near_of rfl rfl (treePay_len _ _ _) ?_ (by show (gcBorn _ _).gc.grey.length≤_;rw [d];exact Nat.le_succ _) (Nat.le_refl _) b (by show (gcBorn _ _).arena.length=_;rw [born_ln];exact List.length_set)
  exact Nat.le_trans (Nat.le_of_eq a) (Nat.le_trans (set_sz (show sz_DObj (newObj now box c)≤100 from ho)) (by omega))
theorem wset_nth {l:List DObj} (h:wA l) {i:Int} (h0:0≤i) (h1:i<(l.length:Int)):wOk (nth l i):=h _ (nth_mem h0 h1)
theorem hit_in {l:List DObj} (hw:wA l) {k w b:Int} (h:0≤k→k<(l.length:Int)):szL sz_DObj (gHit l k w b)=szL sz_DObj l∧wA (gHit l k w b):=by
  unfold gHit
  cases q:decide (k ≥ 0)&&((nth l k).wait==w)
  · exact ⟨rfl,hw⟩
  simp only [Bool.and_eq_true,decide_eq_true_eq] at q
  have k1:=h q.1
  have w0:wOk (waiting (nth l k) 0):=by show (-9223372036854775808:Int)≤0;decide
  have w1:=wA_set (k:=k.toNat) hw w0
  have k2:k<((l.set k.toNat (waiting (nth l k) 0)).length:Int):=by simp only [List.length_set];exact k1
  simp only [cond_true]
  exact ⟨(szL_same (z:=answered (nth (l.set k.toNat (waiting (nth l k) 0)) k) b) q.1 k2 rfl).trans (szL_same q.1 k1 rfl),wA_set w1 (show wOk (nth (l.set k.toNat (waiting (nth l k) 0)) k) from wset_nth w1 q.1 k2)⟩
theorem w_ok (n:Int):-9223372036854775808≤IntKind.i64.wrap n:=by
  simp [IntKind.wrap,IntKind.signed,IntKind.bits]
  split <;> omega
theorem gate_in {p:DPart} (hp:Pin p) (me now:Int) {th:Int} (t0:0≤th) (t9:th≤9) (c:DCall):Near p (doGate p me now th c).2.2:=by
  unfold doGate
  cases q2:slotC p.heap.arena now me c.a 3 != 0
  case true=>exact near_self hp
  obtain ⟨ar,g0,g9,_,_⟩:=slot_ok (ne_false q2)
  cases !inR c.b 0 999
  case true=>exact near_self hp
  simp only [cond_false]
  generalize goodSlot p.heap.arena now me c.a=i at *
  have ho:=obj_sz ar g0 g9
  have hl:=ar.len
  have hwi:wOk (nth p.heap.arena i):=hp.w _ (ar.at g0 g9).2
  have qs:∀ q,q.length≤20→sz_DObj (queued (nth p.heap.arena i) q)≤100:=fun q hq=>by
    unfold sz_DObj at ho
    unfold sz_DObj queued
    simp only
    omega
  have hq:=queue_len ho
  cases c.kind==12
  · cases ((nth p.heap.arena i).queue.length:Int)==0
    case true=>exact near_self hp
    have hw1:wA (served p.heap.arena i):=wA_set hp.w hwi
    obtain ⟨a,b⟩:=hit_in (l:=served p.heap.arena i) hw1 (k:=goodSlot (served p.heap.arena i) now me (nth (nth p.heap.arena i).queue 0).src) (w:=IntKind.i64.wrap (c.a+1)) (b:=c.b) (good_lt (by unfold served;simp only [List.length_set];exact hl))
    refine near_of rfl rfl rfl ?_ (Nat.le_succ _) (Nat.le_refl _) b (by show (gHit _ _ _ _).length=_;rw [hit_ln];exact List.length_set)
    refine Nat.le_trans (Nat.le_of_eq a) (Nat.le_trans (set_sz (qs _ (by simp only [List.length_drop];omega))) (by omega))
  · cases decide (((nth p.heap.arena i).queue.length:Int) ≥ 2)
    case true=>exact near_self hp
    have hw1:wA (asked p.heap.arena i me th c):=wA_set hp.w hwi
    have hl1:(asked p.heap.arena i me th c).length=10:=by unfold asked;simp only [List.length_set];exact hl
    have e:szL sz_DObj ((asked p.heap.arena i me th c).set th.toNat (waiting (nth (asked p.heap.arena i me th c) th) (IntKind.i64.wrap (c.a+1))))=szL sz_DObj (asked p.heap.arena i me th c):=szL_same t0 (by omega) rfl
    refine near_of rfl rfl rfl ?_ (Nat.le_succ _) (Nat.le_refl _) (wA_set hw1 (w_ok _)) (by show (List.set _ _ _).length=_;rw [List.length_set,hl1,hl])
    refine Nat.le_trans (Nat.le_of_eq e) (Nat.le_trans (set_sz (qs _ (by simp only [List.length_append,List.length_cons,List.length_nil];omega))) (by omega))
theorem untap_in {p:DPart} (hp:Pin p) (c:DCall):Near p (doUntap p c).2.2:=by
  unfold doUntap
  cases hi:inR c.a 0 ((p.taps.length:Int) - 1)
  · exact near_self hp
  · exact near_of rfl rfl rfl (by show szL sz_DObj p.heap.arena≤_;omega) (Nat.le_succ _) (by show (p.taps.take c.a.toNat++p.taps.drop (c.a.toNat+1)).length≤_;simp only [List.length_append,List.length_take,List.length_drop];omega) hp.w rfl
theorem do_in {p:DPart} (hp:Pin p) (me now:Int) {th:Int} (t0:0≤th) (t9:th≤9) (c:DCall):Near p (doCall p me now th c).2.2:=by
  unfold doCall
  cases c.kind==1
  case true=>exact make_in hp _ _ _
  cases (c.kind==2) || (c.kind==3)
  case true=>exact link_in hp _ _ _
  cases (c.kind==4) || (c.kind==5)
  case true=>exact move_in hp _ _ _
  cases (c.kind==6) || (c.kind==7)
  case true=>exact data_in hp _ _ _
  cases c.kind==8
  case true=>exact renew_in hp _ _ _
  cases (c.kind==9) || ((c.kind==10) || (c.kind==11))
  case true=>exact res_in hp _
  cases (c.kind==12) || (c.kind==13)
  case true=>exact gate_in hp _ _ t0 t9 _
  cases c.kind==14
  case true=>simp only [cond_false,cond_true,self_fr];exact near_self hp
  cases c.kind==15
  case true=>exact untap_in hp _
  exact near_self hp
theorem call_in {p:DPart} (hb:sz_DPart p≤3000000) (hw:wP p) (me now th:Int) (c:DCall):sz_DPart (partCall p me now th c).1≤sz_DPart p+300∧wP (partCall p me now th c).1:=by
  unfold partCall
  cases !partOk p || (!inR me 0 2 || !inR now 0 1000000)
  case true=>exact ⟨Nat.le_add_right _ _,hw⟩
  cases hc:canCall p now th
  · exact ⟨Nat.le_add_right _ _,hw⟩
  obtain ⟨ok,t0,t9⟩:=canCall_at hc
  have hp:Pin p:=⟨ok,hb,hw⟩
  simp only [Bool.not_true,cond_false]
  unfold fin
  cases (doCall p me now th c).1==0
  · cases (c.kind==1)&&(((doCall p me now th c).1==6) || ((doCall p me now th c).1==7)) <;> exact ⟨Nat.le_add_right (sz_DPart p) _,hw⟩
  · have h:=do_in hp me now t0 t9 c
    exact ⟨h.sz,h.w⟩
theorem call_len {p:DPart} (hb:sz_DPart p≤3000000) (hw:wP p) (me now th:Int) (c:DCall):(partCall p me now th c).1.heap.arena.length=p.heap.arena.length:=by
  unfold partCall
  cases !partOk p || (!inR me 0 2 || !inR now 0 1000000)
  case true=>rfl
  cases hc:canCall p now th
  · rfl
  obtain ⟨ok,t0,t9⟩:=canCall_at hc
  simp only [Bool.not_true,cond_false]
  unfold fin
  cases (doCall p me now th c).1==0
  · cases (c.kind==1)&&(((doCall p me now th c).1==6) || ((doCall p me now th c).1==7)) <;> rfl
  · exact (do_in ⟨ok,hb,hw⟩ me now t0 t9 c).ln
end Go.Kx
