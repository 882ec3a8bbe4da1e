/- What the laws' own helpers do: room, copies, comparisons, marks. Printed by genlaw.py. -/
import Derived.Test.YtgekpkkhelmgiaaGreatLaw
import Derived.Test.YtgekpkkhelmgiaaGreatPu
namespace Go.Kx
open Go
set_option linter.unusedVariables false
set_option linter.unusedSimpArgs false
set_option maxRecDepth 10000
def c_Int (_:Int):Nat:=1
def g_Int (_:Int) (n:Int):Int:=n
theorem sle_Int:∀ l:List Int,sumL c_Int l≤16 * (l.length)
  | []=>Nat.zero_le _
  | y::l=>by
    have h1:=sle_Int l
    have h2:c_Int y≤16 * (1+0):=(by decide:1≤16 * (1+0))
    simp only [sumL,List.length_cons] at h1 h2 ⊢
    omega
theorem rS_Int {N:Nat} (hN:BIG≤N) {x:List Int} {b:Int} (h0:0≤b) (h1:b≤1048576) (hx:Fit.fit x):F_l_szIntS N x b=some (left b x.length):=szFlat x b h0 h1 hx.1
theorem tS_Int {N:Nat} (hN:BIG≤N) {x:List Int} (hb:x.length<BIG):F_l_toIntS N x=some x:=copyLoop x some (fun y _=>rfl) hb (Nat.lt_of_lt_of_le hb hN)
theorem eS_Int {N:Nat} (hN:BIG≤N) {x:List Int} (hb:x.length<BIG):F_l_eqIntS N x x=some true:=by
  rw [show F_l_eqIntS N x x=some (decide (x=x)) from eqLoopB x x (· != ·) (by intro y z;by_cases h:y=z <;> simp [h]) hb hN]
  simp
theorem markS_Int {N:Nat} (hN:BIG≤N) {x:List Int} {n:Int} (hb:x.length<BIG) (h0:0≤n) (h1:n+((sumL c_Int x:Nat):Int)≤4611686018427387904):F_l_markIntS N x n=some (n+((sumL c_Int x:Nat):Int),markL g_Int c_Int n x):=by
  unfold F_l_markIntS
  rw [markLoop x n g_Int c_Int (Nat.lt_of_lt_of_le hb hN) h0 h1]
  · rfl
  · intro l k m y hl hk hy hm p0 p1
    have hkl:k<l.length:=by omega
    have hkB:k<BIG:=Nat.lt_trans hk hb
    have p1':m+((c_Int y:Nat):Int)≤4611686018427387904:=p1
    unfold c_Int at p1'
    simp only [lt_dec hkl,cond_true,idx_nat,hy,Option.bind_some,Int.toNat_natCast,List.getElem?_set_self hkl,List.set_set,keepL_same (markL_len _ _ _ _),wrap1 hkB,wrap_ok1 (n:=m) (by omega) (by omega)]
    exact congrArg some (congrArg Sum.inl (Prod.ext rfl (Prod.ext (show m+1=m+((c_Int y:Nat):Int) by unfold c_Int;omega) rfl)))
  · intro l m hl
    simp only [hl,ge_dec,cond_false]
theorem heldS_Int {N:Nat} (hN:BIG≤N) {x:List Int} {n:Int} (hb:x.length<BIG) (h0:0≤n) (h1:n+((sumL c_Int x:Nat):Int)≤4611686018427387904):F_l_heldIntS N (markL g_Int c_Int n x) n=some (n+((sumL c_Int x:Nat):Int)):=by
  unfold F_l_heldIntS
  simp only [markL_len]
  rw [heldLoop x n g_Int c_Int (Nat.lt_of_lt_of_le hb hN) h0 h1]
  · rfl
  · intro k m y hk hy hm p0 p1
    have hkB:k<BIG:=Nat.lt_trans hk hb
    have p1':m+((c_Int y:Nat):Int)≤4611686018427387904:=p1
    unfold c_Int at p1'
    simp only [lt_dec hk,cond_true,idx_nat,hy,Option.bind_some,g_Int,bne_self_eq_false,beq_self_eq_true,Bool.not_true,cond_false,wrap1 hkB,wrap_ok1 (n:=m) (by omega) (by omega)]
    exact congrArg some (congrArg Sum.inl (Prod.ext (show m+1=m+((c_Int y:Nat):Int) by unfold c_Int;omega) rfl))
  · intro m
    simp only [ge_dec,cond_false]
theorem t_DAmt (N:Nat) (x:DAmt):F_l_toAmt N x=some x:=by simp [F_l_toAmt]
theorem e_DAmt (N:Nat) (x:DAmt):F_l_eqAmt N x x=some true:=by simp [F_l_eqAmt]
theorem t_DCall (N:Nat) (x:DCall):F_l_toCall N x=some x:=by simp [F_l_toCall]
theorem e_DReply (N:Nat) (x:DReply):F_l_eqReply N x x=some true:=by simp [F_l_eqReply]
def c_DRes (x:DRes):Nat:=5
def g_DRes (x:DRes) (n:Int):DRes:=DRes.mk (((Int.tmod (n) 3)==0)) (n+1) (DAmt.mk (n+1+1) (n+1+1+1) (n+1+1+1+1))
theorem cle_DRes (x:DRes):c_DRes x≤16 * (1+0):=by
  unfold c_DRes
  omega
theorem sle_DRes:∀ l:List DRes,sumL c_DRes l≤16 * (l.length)
  | []=>Nat.zero_le _
  | y::l=>by
    have h1:=sle_DRes l
    have h2:c_DRes y≤16 * (1+0):=cle_DRes y
    simp only [sumL,List.length_cons] at h1 h2 ⊢
    omega
theorem rS_DRes {N:Nat} (hN:BIG≤N) {x:List DRes} {b:Int} (h0:0≤b) (h1:b≤1048576) (hx:Fit.fit x):F_l_szResS N x b=some (left b x.length):=szFlat x b h0 h1 hx.1
theorem t_DRes (N:Nat) (x:DRes):F_l_toRes N x=some x:=by simp [F_l_toRes,t_DAmt]
theorem tS_DRes {N:Nat} (hN:BIG≤N) {x:List DRes} (hb:x.length<BIG):F_l_toResS N x=some x:=copyLoop x (F_l_toRes N) (fun y hy=>t_DRes N y) hb (Nat.lt_of_lt_of_le hb hN)
theorem e_DRes (N:Nat) (x:DRes):F_l_eqRes N x x=some true:=by simp [F_l_eqRes,e_DAmt]
theorem eS_DRes {N:Nat} (hN:BIG≤N) {x:List DRes} (hb:x.length<BIG):F_l_eqResS N x x=some true:=eqLoop x (F_l_eqRes N) (fun y hy=>e_DRes N y) (Nat.lt_of_lt_of_le hb (by decide)) (Nat.lt_of_lt_of_le hb hN)
theorem markS_DRes {N:Nat} (hN:BIG≤N) {x:List DRes} {n:Int} (hb:x.length<BIG) (h0:0≤n) (h1:n+((sumL c_DRes x:Nat):Int)≤4611686018427387904):F_l_markResS N x n=some (n+((sumL c_DRes x:Nat):Int),markL g_DRes c_DRes n x):=by
  unfold F_l_markResS
  rw [markLoop x n g_DRes c_DRes (Nat.lt_of_lt_of_le hb hN) h0 h1]
  · rfl
  · intro l k m y hl hk hy hm p0 p1
    have hkl:k<l.length:=by omega
    have hkB:k<BIG:=Nat.lt_trans hk hb
    have p1':m+((c_DRes y:Nat):Int)≤4611686018427387904:=p1
    unfold c_DRes at p1'
    simp only [lt_dec hkl,cond_true,idx_nat,hy,Option.bind_some,Int.toNat_natCast,List.getElem?_set_self hkl,List.set_set,keepL_same (markL_len _ _ _ _),wrap1 hkB,wrap_ok1 (n:=m) (by omega) (by omega),wrap_ok1 (n:=m+1) (by omega) (by omega),wrap_ok1 (n:=m+1+1) (by omega) (by omega),wrap_ok1 (n:=m+1+1+1) (by omega) (by omega),wrap_ok1 (n:=m+1+1+1+1) (by omega) (by omega)]
    exact congrArg some (congrArg Sum.inl (Prod.ext rfl (Prod.ext (show m+1+1+1+1+1=m+((c_DRes y:Nat):Int) by unfold c_DRes;omega) rfl)))
  · intro l m hl
    simp only [hl,ge_dec,cond_false]
theorem heldS_DRes {N:Nat} (hN:BIG≤N) {x:List DRes} {n:Int} (hb:x.length<BIG) (h0:0≤n) (h1:n+((sumL c_DRes x:Nat):Int)≤4611686018427387904):F_l_heldResS N (markL g_DRes c_DRes n x) n=some (n+((sumL c_DRes x:Nat):Int)):=by
  unfold F_l_heldResS
  simp only [markL_len]
  rw [heldLoop x n g_DRes c_DRes (Nat.lt_of_lt_of_le hb hN) h0 h1]
  · rfl
  · intro k m y hk hy hm p0 p1
    have hkB:k<BIG:=Nat.lt_trans hk hb
    have p1':m+((c_DRes y:Nat):Int)≤4611686018427387904:=p1
    unfold c_DRes at p1'
    simp only [lt_dec hk,cond_true,idx_nat,hy,Option.bind_some,g_DRes,bne_self_eq_false,beq_self_eq_true,Bool.not_true,cond_false,wrap1 hkB,wrap_ok1 (n:=m) (by omega) (by omega),wrap_ok1 (n:=m+1) (by omega) (by omega),wrap_ok1 (n:=m+1+1) (by omega) (by omega),wrap_ok1 (n:=m+1+1+1) (by omega) (by omega),wrap_ok1 (n:=m+1+1+1+1) (by omega) (by omega)]
    exact congrArg some (congrArg Sum.inl (Prod.ext (show m+1+1+1+1+1=m+((c_DRes y:Nat):Int) by unfold c_DRes;omega) rfl))
  · intro m
    simp only [ge_dec,cond_false]
def c_DTap (x:DTap):Nat:=6
def g_DTap (x:DTap) (n:Int):DTap:=DTap.mk (n) (n+1) (n+1+1) (n+1+1+1) (n+1+1+1+1) (n+1+1+1+1+1)
theorem cle_DTap (x:DTap):c_DTap x≤16 * (1+0):=by
  unfold c_DTap
  omega
theorem sle_DTap:∀ l:List DTap,sumL c_DTap l≤16 * (l.length)
  | []=>Nat.zero_le _
  | y::l=>by
    have h1:=sle_DTap l
    have h2:c_DTap y≤16 * (1+0):=cle_DTap y
    simp only [sumL,List.length_cons] at h1 h2 ⊢
    omega
theorem rS_DTap {N:Nat} (hN:BIG≤N) {x:List DTap} {b:Int} (h0:0≤b) (h1:b≤1048576) (hx:Fit.fit x):F_l_szTapS N x b=some (left b x.length):=szFlat x b h0 h1 hx.1
theorem t_DTap (N:Nat) (x:DTap):F_l_toTap N x=some x:=by simp [F_l_toTap]
theorem tS_DTap {N:Nat} (hN:BIG≤N) {x:List DTap} (hb:x.length<BIG):F_l_toTapS N x=some x:=copyLoop x (F_l_toTap N) (fun y hy=>t_DTap N y) hb (Nat.lt_of_lt_of_le hb hN)
theorem e_DTap (N:Nat) (x:DTap):F_l_eqTap N x x=some true:=by simp [F_l_eqTap]
theorem eS_DTap {N:Nat} (hN:BIG≤N) {x:List DTap} (hb:x.length<BIG):F_l_eqTapS N x x=some true:=eqLoop x (F_l_eqTap N) (fun y hy=>e_DTap N y) (Nat.lt_of_lt_of_le hb (by decide)) (Nat.lt_of_lt_of_le hb hN)
theorem markS_DTap {N:Nat} (hN:BIG≤N) {x:List DTap} {n:Int} (hb:x.length<BIG) (h0:0≤n) (h1:n+((sumL c_DTap x:Nat):Int)≤4611686018427387904):F_l_markTapS N x n=some (n+((sumL c_DTap x:Nat):Int),markL g_DTap c_DTap n x):=by
  unfold F_l_markTapS
  rw [markLoop x n g_DTap c_DTap (Nat.lt_of_lt_of_le hb hN) h0 h1]
  · rfl
  · intro l k m y hl hk hy hm p0 p1
    have hkl:k<l.length:=by omega
    have hkB:k<BIG:=Nat.lt_trans hk hb
    have p1':m+((c_DTap y:Nat):Int)≤4611686018427387904:=p1
    unfold c_DTap at p1'
    simp only [lt_dec hkl,cond_true,idx_nat,hy,Option.bind_some,Int.toNat_natCast,List.getElem?_set_self hkl,List.set_set,keepL_same (markL_len _ _ _ _),wrap1 hkB,wrap_ok1 (n:=m) (by omega) (by omega),wrap_ok1 (n:=m+1) (by omega) (by omega),wrap_ok1 (n:=m+1+1) (by omega) (by omega),wrap_ok1 (n:=m+1+1+1) (by omega) (by omega),wrap_ok1 (n:=m+1+1+1+1) (by omega) (by omega),wrap_ok1 (n:=m+1+1+1+1+1) (by omega) (by omega)]
    exact congrArg some (congrArg Sum.inl (Prod.ext rfl (Prod.ext (show m+1+1+1+1+1+1=m+((c_DTap y:Nat):Int) by unfold c_DTap;omega) rfl)))
  · intro l m hl
    simp only [hl,ge_dec,cond_false]
theorem heldS_DTap {N:Nat} (hN:BIG≤N) {x:List DTap} {n:Int} (hb:x.length<BIG) (h0:0≤n) (h1:n+((sumL c_DTap x:Nat):Int)≤4611686018427387904):F_l_heldTapS N (markL g_DTap c_DTap n x) n=some (n+((sumL c_DTap x:Nat):Int)):=by
  unfold F_l_heldTapS
  simp only [markL_len]
  rw [heldLoop x n g_DTap c_DTap (Nat.lt_of_lt_of_le hb hN) h0 h1]
  · rfl
  · intro k m y hk hy hm p0 p1
    have hkB:k<BIG:=Nat.lt_trans hk hb
    have p1':m+((c_DTap y:Nat):Int)≤4611686018427387904:=p1
    unfold c_DTap at p1'
    simp only [lt_dec hk,cond_true,idx_nat,hy,Option.bind_some,g_DTap,bne_self_eq_false,beq_self_eq_true,Bool.not_true,cond_false,wrap1 hkB,wrap_ok1 (n:=m) (by omega) (by omega),wrap_ok1 (n:=m+1) (by omega) (by omega),wrap_ok1 (n:=m+1+1) (by omega) (by omega),wrap_ok1 (n:=m+1+1+1) (by omega) (by omega),wrap_ok1 (n:=m+1+1+1+1) (by omega) (by omega),wrap_ok1 (n:=m+1+1+1+1+1) (by omega) (by omega)]
    exact congrArg some (congrArg Sum.inl (Prod.ext (show m+1+1+1+1+1+1=m+((c_DTap y:Nat):Int) by unfold c_DTap;omega) rfl))
  · intro m
    simp only [ge_dec,cond_false]
def c_DMsg (x:DMsg):Nat:=2
def g_DMsg (x:DMsg) (n:Int):DMsg:=DMsg.mk (n) (n+1)
theorem cle_DMsg (x:DMsg):c_DMsg x≤16 * (1+0):=by
  unfold c_DMsg
  omega
theorem sle_DMsg:∀ l:List DMsg,sumL c_DMsg l≤16 * (l.length)
  | []=>Nat.zero_le _
  | y::l=>by
    have h1:=sle_DMsg l
    have h2:c_DMsg y≤16 * (1+0):=cle_DMsg y
    simp only [sumL,List.length_cons] at h1 h2 ⊢
    omega
theorem rS_DMsg {N:Nat} (hN:BIG≤N) {x:List DMsg} {b:Int} (h0:0≤b) (h1:b≤1048576) (hx:Fit.fit x):F_l_szMsgS N x b=some (left b x.length):=szFlat x b h0 h1 hx.1
theorem t_DMsg (N:Nat) (x:DMsg):F_l_toMsg N x=some x:=by simp [F_l_toMsg]
theorem tS_DMsg {N:Nat} (hN:BIG≤N) {x:List DMsg} (hb:x.length<BIG):F_l_toMsgS N x=some x:=copyLoop x (F_l_toMsg N) (fun y hy=>t_DMsg N y) hb (Nat.lt_of_lt_of_le hb hN)
theorem e_DMsg (N:Nat) (x:DMsg):F_l_eqMsg N x x=some true:=by simp [F_l_eqMsg]
theorem eS_DMsg {N:Nat} (hN:BIG≤N) {x:List DMsg} (hb:x.length<BIG):F_l_eqMsgS N x x=some true:=eqLoop x (F_l_eqMsg N) (fun y hy=>e_DMsg N y) (Nat.lt_of_lt_of_le hb (by decide)) (Nat.lt_of_lt_of_le hb hN)
theorem markS_DMsg {N:Nat} (hN:BIG≤N) {x:List DMsg} {n:Int} (hb:x.length<BIG) (h0:0≤n) (h1:n+((sumL c_DMsg x:Nat):Int)≤4611686018427387904):F_l_markMsgS N x n=some (n+((sumL c_DMsg x:Nat):Int),markL g_DMsg c_DMsg n x):=by
  unfold F_l_markMsgS
  rw [markLoop x n g_DMsg c_DMsg (Nat.lt_of_lt_of_le hb hN) h0 h1]
  · rfl
  · intro l k m y hl hk hy hm p0 p1
    have hkl:k<l.length:=by omega
    have hkB:k<BIG:=Nat.lt_trans hk hb
    have p1':m+((c_DMsg y:Nat):Int)≤4611686018427387904:=p1
    unfold c_DMsg at p1'
    simp only [lt_dec hkl,cond_true,idx_nat,hy,Option.bind_some,Int.toNat_natCast,List.getElem?_set_self hkl,List.set_set,keepL_same (markL_len _ _ _ _),wrap1 hkB,wrap_ok1 (n:=m) (by omega) (by omega),wrap_ok1 (n:=m+1) (by omega) (by omega)]
    exact congrArg some (congrArg Sum.inl (Prod.ext rfl (Prod.ext (show m+1+1=m+((c_DMsg y:Nat):Int) by unfold c_DMsg;omega) rfl)))
  · intro l m hl
    simp only [hl,ge_dec,cond_false]
theorem heldS_DMsg {N:Nat} (hN:BIG≤N) {x:List DMsg} {n:Int} (hb:x.length<BIG) (h0:0≤n) (h1:n+((sumL c_DMsg x:Nat):Int)≤4611686018427387904):F_l_heldMsgS N (markL g_DMsg c_DMsg n x) n=some (n+((sumL c_DMsg x:Nat):Int)):=by
  unfold F_l_heldMsgS
  simp only [markL_len]
  rw [heldLoop x n g_DMsg c_DMsg (Nat.lt_of_lt_of_le hb hN) h0 h1]
  · rfl
  · intro k m y hk hy hm p0 p1
    have hkB:k<BIG:=Nat.lt_trans hk hb
    have p1':m+((c_DMsg y:Nat):Int)≤4611686018427387904:=p1
    unfold c_DMsg at p1'
    simp only [lt_dec hk,cond_true,idx_nat,hy,Option.bind_some,g_DMsg,bne_self_eq_false,beq_self_eq_true,Bool.not_true,cond_false,wrap1 hkB,wrap_ok1 (n:=m) (by omega) (by omega),wrap_ok1 (n:=m+1) (by omega) (by omega)]
    exact congrArg some (congrArg Sum.inl (Prod.ext (show m+1+1=m+((c_DMsg y:Nat):Int) by unfold c_DMsg;omega) rfl))
  · intro m
    simp only [ge_dec,cond_false]
def sz_DLabel (x:DLabel):Nat:=x.levels.length+(0)
theorem r_DLabel {N:Nat} (hN:BIG≤N) {x:DLabel} {b:Int} (h0:0≤b) (h1:b≤1048576) (hx:Fit.fit x):F_l_szLabel N x b=some (left b (sz_DLabel x)) :=
  szStep h0 h1 (rS_Int hN h0 h1 hx) fun b h0 h1=>by rw [left_zero h0]
theorem t_DLabel {N:Nat} (hN:BIG≤N) {x:DLabel} (hb:sz_DLabel x<BIG):F_l_toLabel N x=some x:=by
  have b0:x.levels.length<BIG:=by unfold sz_DLabel at hb;omega
  simp [F_l_toLabel,tS_Int hN b0]
theorem e_DLabel {N:Nat} (hN:BIG≤N) {x:DLabel} (hb:sz_DLabel x<BIG):F_l_eqLabel N x x=some true:=by
  have b0:x.levels.length<BIG:=by unfold sz_DLabel at hb;omega
  simp [F_l_eqLabel,eS_Int hN b0]
theorem mark_DLabel {N:Nat} (hN:BIG≤N) {x:DLabel} {n:Int} (hb:sz_DLabel x<BIG) (h0:0≤n) (h1:n+((sumL c_Int x.levels:Nat):Int)≤4611686018427387904):F_l_markLabel N x n=some (n+((sumL c_Int x.levels:Nat):Int),markL g_Int c_Int (n) x.levels):=by
  unfold F_l_markLabel
  have hb_levels:x.levels.length<BIG:=by unfold sz_DLabel at hb;omega
  simp only [Option.bind_some,keepL_same (markL_len _ _ _ _),markS_Int hN (n:=n) (x:=x.levels) hb_levels (by omega) (by omega)]
theorem held_DLabel {N:Nat} (hN:BIG≤N) {x z:DLabel} {n:Int} (hb:sz_DLabel x<BIG) (h0:0≤n) (h1:n+((sumL c_Int x.levels:Nat):Int)≤4611686018427387904) (e0:z.levels=markL g_Int c_Int (n) x.levels):F_l_heldLabel N z n=some (n+((sumL c_Int x.levels:Nat):Int)):=by
  unfold F_l_heldLabel
  have hb_levels:x.levels.length<BIG:=by unfold sz_DLabel at hb;omega
  simp only [Option.bind_some,cond_false,e0,heldS_Int hN (n:=n) (x:=x.levels) hb_levels (by omega) (by omega),decide_eq_false (show ¬ (n+((sumL c_Int x.levels:Nat):Int)<0) by omega)]
def sz_DObj (x:DObj):Nat:=x.links.length+(x.data.length+(x.queue.length+(0)))
def c_DObj (x:DObj):Nat:=10+sumL c_Int x.links+sumL c_Int x.data+sumL c_DMsg x.queue
def g_DObj (x:DObj) (n:Int):DObj:=DObj.mk (n) (n+1) (n+1+1) (n+1+1+1) (n+1+1+1+1) (n+1+1+1+1+1) (n+1+1+1+1+1+1) (n+1+1+1+1+1+1+1) (n+1+1+1+1+1+1+1+1) (((Int.tmod (n+1+1+1+1+1+1+1+1+1) 3)==0)) (markL g_Int c_Int (n+1+1+1+1+1+1+1+1+1+1) x.links) (markL g_Int c_Int ((n+1+1+1+1+1+1+1+1+1+1+((sumL c_Int x.links:Nat):Int))) x.data) (markL g_DMsg c_DMsg (((n+1+1+1+1+1+1+1+1+1+1+((sumL c_Int x.links:Nat):Int))+((sumL c_Int x.data:Nat):Int))) x.queue)
theorem cle_DObj (x:DObj):c_DObj x≤16 * (1+sz_DObj x):=by
  unfold c_DObj sz_DObj
  have:=sle_Int x.links
  have:=sle_Int x.data
  have:=sle_DMsg x.queue
  omega
theorem sle_DObj:∀ l:List DObj,sumL c_DObj l≤16 * (szL sz_DObj l)
  | []=>Nat.zero_le _
  | y::l=>by
    have h1:=sle_DObj l
    have h2:c_DObj y≤16 * (1+sz_DObj y):=cle_DObj y
    simp only [sumL,szL,List.length_cons] at h1 h2 ⊢
    omega
theorem r_DObj {N:Nat} (hN:BIG≤N) {x:DObj} {b:Int} (h0:0≤b) (h1:b≤1048576) (hx:Fit.fit x):F_l_szObj N x b=some (left b (sz_DObj x)) :=
  szStep h0 h1 (rS_Int hN h0 h1 hx.2.2.2.2.2.2.2.2.2.2.1) fun b h0 h1=>szStep h0 h1 (rS_Int hN h0 h1 hx.2.2.2.2.2.2.2.2.2.2.2.1) fun b h0 h1=>szStep h0 h1 (rS_DMsg hN h0 h1 hx.2.2.2.2.2.2.2.2.2.2.2.2) fun b h0 h1=>by rw [left_zero h0]
theorem rS_DObj {N:Nat} (hN:BIG≤N) {x:List DObj} {b:Int} (h0:0≤b) (h1:b≤1048576) (hx:Fit.fit x):F_l_szObjS N x b=some (left b (szL sz_DObj x)) :=
  szLoop x b h0 h1 hx.1 (F_l_szObj N) sz_DObj (fun y hy b h0 h1=>r_DObj hN h0 h1 (hx.2 y hy)) hN
theorem t_DObj {N:Nat} (hN:BIG≤N) {x:DObj} (hb:sz_DObj x<BIG):F_l_toObj N x=some x:=by
  have b0:x.links.length<BIG:=by unfold sz_DObj at hb;omega
  have b1:x.data.length<BIG:=by unfold sz_DObj at hb;omega
  have b2:x.queue.length<BIG:=by unfold sz_DObj at hb;omega
  simp [F_l_toObj,tS_Int hN b0,tS_Int hN b1,tS_DMsg hN b2]
theorem tS_DObj {N:Nat} (hN:BIG≤N) {x:List DObj} (hb:szL sz_DObj x<BIG):F_l_toObjS N x=some x:=copyLoop x (F_l_toObj N) (fun y hy=>t_DObj hN (szL_mem hb hy)) (szL_len hb) (Nat.lt_of_lt_of_le (szL_len hb) hN)
theorem e_DObj {N:Nat} (hN:BIG≤N) {x:DObj} (hb:sz_DObj x<BIG):F_l_eqObj N x x=some true:=by
  have b0:x.links.length<BIG:=by unfold sz_DObj at hb;omega
  have b1:x.data.length<BIG:=by unfold sz_DObj at hb;omega
  have b2:x.queue.length<BIG:=by unfold sz_DObj at hb;omega
  simp [F_l_eqObj,eS_Int hN b0,eS_Int hN b1,eS_DMsg hN b2]
theorem eS_DObj {N:Nat} (hN:BIG≤N) {x:List DObj} (hb:szL sz_DObj x<BIG):F_l_eqObjS N x x=some true:=eqLoop x (F_l_eqObj N) (fun y hy=>e_DObj hN (szL_mem hb hy)) (Nat.lt_of_lt_of_le (szL_len hb) (by decide)) (Nat.lt_of_lt_of_le (szL_len hb) hN)
theorem markS_DObj {N:Nat} (hN:BIG≤N) {x:List DObj} {n:Int} (hb:szL sz_DObj x<BIG) (h0:0≤n) (h1:n+((sumL c_DObj x:Nat):Int)≤4611686018427387904):F_l_markObjS N x n=some (n+((sumL c_DObj x:Nat):Int),markL g_DObj c_DObj n x):=by
  unfold F_l_markObjS
  rw [markLoop x n g_DObj c_DObj (Nat.lt_of_lt_of_le (szL_len hb) hN) h0 h1]
  · rfl
  · intro l k m y hl hk hy hm p0 p1
    have hkl:k<l.length:=by omega
    have hkB:k<BIG:=Nat.lt_trans hk (szL_len hb)
    have hy':=szL_mem hb hm
    unfold sz_DObj at hy'
    have p1':m+((c_DObj y:Nat):Int)≤4611686018427387904:=p1
    unfold c_DObj at p1'
    simp only [lt_dec hkl,cond_true,idx_nat,hy,Option.bind_some,Int.toNat_natCast,List.getElem?_set_self hkl,List.set_set,keepL_same (markL_len _ _ _ _),wrap1 hkB,wrap_ok1 (n:=m) (by omega) (by omega),wrap_ok1 (n:=m+1) (by omega) (by omega),wrap_ok1 (n:=m+1+1) (by omega) (by omega),wrap_ok1 (n:=m+1+1+1) (by omega) (by omega),wrap_ok1 (n:=m+1+1+1+1) (by omega) (by omega),wrap_ok1 (n:=m+1+1+1+1+1) (by omega) (by omega),wrap_ok1 (n:=m+1+1+1+1+1+1) (by omega) (by omega),wrap_ok1 (n:=m+1+1+1+1+1+1+1) (by omega) (by omega),wrap_ok1 (n:=m+1+1+1+1+1+1+1+1) (by omega) (by omega),wrap_ok1 (n:=m+1+1+1+1+1+1+1+1+1) (by omega) (by omega),markS_Int hN (n:=m+1+1+1+1+1+1+1+1+1+1) (x:=y.links) (by omega) (by omega) (by omega),markS_Int hN (n:=(m+1+1+1+1+1+1+1+1+1+1+((sumL c_Int y.links:Nat):Int))) (x:=y.data) (by omega) (by omega) (by omega),markS_DMsg hN (n:=((m+1+1+1+1+1+1+1+1+1+1+((sumL c_Int y.links:Nat):Int))+((sumL c_Int y.data:Nat):Int))) (x:=y.queue) (by omega) (by omega) (by omega)]
    exact congrArg some (congrArg Sum.inl (Prod.ext rfl (Prod.ext (show (((m+1+1+1+1+1+1+1+1+1+1+((sumL c_Int y.links:Nat):Int))+((sumL c_Int y.data:Nat):Int))+((sumL c_DMsg y.queue:Nat):Int))=m+((c_DObj y:Nat):Int) by unfold c_DObj;omega) rfl)))
  · intro l m hl
    simp only [hl,ge_dec,cond_false]
theorem heldS_DObj {N:Nat} (hN:BIG≤N) {x:List DObj} {n:Int} (hb:szL sz_DObj x<BIG) (h0:0≤n) (h1:n+((sumL c_DObj x:Nat):Int)≤4611686018427387904):F_l_heldObjS N (markL g_DObj c_DObj n x) n=some (n+((sumL c_DObj x:Nat):Int)):=by
  unfold F_l_heldObjS
  simp only [markL_len]
  rw [heldLoop x n g_DObj c_DObj (Nat.lt_of_lt_of_le (szL_len hb) hN) h0 h1]
  · rfl
  · intro k m y hk hy hm p0 p1
    have hkB:k<BIG:=Nat.lt_trans hk (szL_len hb)
    have hy':=szL_mem hb hm
    unfold sz_DObj at hy'
    have p1':m+((c_DObj y:Nat):Int)≤4611686018427387904:=p1
    unfold c_DObj at p1'
    simp only [lt_dec hk,cond_true,idx_nat,hy,Option.bind_some,g_DObj,bne_self_eq_false,beq_self_eq_true,Bool.not_true,cond_false,wrap1 hkB,wrap_ok1 (n:=m) (by omega) (by omega),wrap_ok1 (n:=m+1) (by omega) (by omega),wrap_ok1 (n:=m+1+1) (by omega) (by omega),wrap_ok1 (n:=m+1+1+1) (by omega) (by omega),wrap_ok1 (n:=m+1+1+1+1) (by omega) (by omega),wrap_ok1 (n:=m+1+1+1+1+1) (by omega) (by omega),wrap_ok1 (n:=m+1+1+1+1+1+1) (by omega) (by omega),wrap_ok1 (n:=m+1+1+1+1+1+1+1) (by omega) (by omega),wrap_ok1 (n:=m+1+1+1+1+1+1+1+1) (by omega) (by omega),wrap_ok1 (n:=m+1+1+1+1+1+1+1+1+1) (by omega) (by omega),heldS_Int hN (n:=m+1+1+1+1+1+1+1+1+1+1) (x:=y.links) (by omega) (by omega) (by omega),decide_eq_false (show ¬ ((m+1+1+1+1+1+1+1+1+1+1+((sumL c_Int y.links:Nat):Int))<0) by omega),heldS_Int hN (n:=(m+1+1+1+1+1+1+1+1+1+1+((sumL c_Int y.links:Nat):Int))) (x:=y.data) (by omega) (by omega) (by omega),decide_eq_false (show ¬ (((m+1+1+1+1+1+1+1+1+1+1+((sumL c_Int y.links:Nat):Int))+((sumL c_Int y.data:Nat):Int))<0) by omega),heldS_DMsg hN (n:=((m+1+1+1+1+1+1+1+1+1+1+((sumL c_Int y.links:Nat):Int))+((sumL c_Int y.data:Nat):Int))) (x:=y.queue) (by omega) (by omega) (by omega),decide_eq_false (show ¬ ((((m+1+1+1+1+1+1+1+1+1+1+((sumL c_Int y.links:Nat):Int))+((sumL c_Int y.data:Nat):Int))+((sumL c_DMsg y.queue:Nat):Int))<0) by omega)]
    exact congrArg some (congrArg Sum.inl (Prod.ext (show (((m+1+1+1+1+1+1+1+1+1+1+((sumL c_Int y.links:Nat):Int))+((sumL c_Int y.data:Nat):Int))+((sumL c_DMsg y.queue:Nat):Int))=m+((c_DObj y:Nat):Int) by unfold c_DObj;omega) rfl))
  · intro m
    simp only [ge_dec,cond_false]
def sz_DGc (x:DGc):Nat:=x.grey.length+(0)
theorem r_DGc {N:Nat} (hN:BIG≤N) {x:DGc} {b:Int} (h0:0≤b) (h1:b≤1048576) (hx:Fit.fit x):F_l_szGc N x b=some (left b (sz_DGc x)) :=
  szStep h0 h1 (rS_Int hN h0 h1 hx.2.2.2) fun b h0 h1=>by rw [left_zero h0]
theorem t_DGc {N:Nat} (hN:BIG≤N) {x:DGc} (hb:sz_DGc x<BIG):F_l_toGc N x=some x:=by
  have b0:x.grey.length<BIG:=by unfold sz_DGc at hb;omega
  simp [F_l_toGc,tS_Int hN b0]
theorem e_DGc {N:Nat} (hN:BIG≤N) {x:DGc} (hb:sz_DGc x<BIG):F_l_eqGc N x x=some true:=by
  have b0:x.grey.length<BIG:=by unfold sz_DGc at hb;omega
  simp [F_l_eqGc,eS_Int hN b0]
theorem mark_DGc {N:Nat} (hN:BIG≤N) {x:DGc} {n:Int} (hb:sz_DGc x<BIG) (h0:0≤n) (h1:n+((sumL c_Int x.grey:Nat):Int)≤4611686018427387904):F_l_markGc N x n=some (n+((sumL c_Int x.grey:Nat):Int),markL g_Int c_Int (n) x.grey):=by
  unfold F_l_markGc
  have hb_grey:x.grey.length<BIG:=by unfold sz_DGc at hb;omega
  simp only [Option.bind_some,keepL_same (markL_len _ _ _ _),markS_Int hN (n:=n) (x:=x.grey) hb_grey (by omega) (by omega)]
theorem held_DGc {N:Nat} (hN:BIG≤N) {x z:DGc} {n:Int} (hb:sz_DGc x<BIG) (h0:0≤n) (h1:n+((sumL c_Int x.grey:Nat):Int)≤4611686018427387904) (e0:z.grey=markL g_Int c_Int (n) x.grey):F_l_heldGc N z n=some (n+((sumL c_Int x.grey:Nat):Int)):=by
  unfold F_l_heldGc
  have hb_grey:x.grey.length<BIG:=by unfold sz_DGc at hb;omega
  simp only [Option.bind_some,cond_false,e0,heldS_Int hN (n:=n) (x:=x.grey) hb_grey (by omega) (by omega),decide_eq_false (show ¬ (n+((sumL c_Int x.grey:Nat):Int)<0) by omega)]
def sz_DHeap (x:DHeap):Nat:=szL sz_DObj x.arena+(sz_DGc x.gc+(0))
theorem r_DHeap {N:Nat} (hN:BIG≤N) {x:DHeap} {b:Int} (h0:0≤b) (h1:b≤1048576) (hx:Fit.fit x):F_l_szHeap N x b=some (left b (sz_DHeap x)) :=
  szStep h0 h1 (rS_DObj hN h0 h1 hx.1) fun b h0 h1=>szStep h0 h1 (r_DGc hN h0 h1 hx.2) fun b h0 h1=>by rw [left_zero h0]
theorem t_DHeap {N:Nat} (hN:BIG≤N) {x:DHeap} (hb:sz_DHeap x<BIG):F_l_toHeap N x=some x:=by
  have b0:szL sz_DObj x.arena<BIG:=by unfold sz_DHeap at hb;omega
  have b1:sz_DGc x.gc<BIG:=by unfold sz_DHeap at hb;omega
  simp [F_l_toHeap,tS_DObj hN b0,t_DGc hN b1]
theorem e_DHeap {N:Nat} (hN:BIG≤N) {x:DHeap} (hb:sz_DHeap x<BIG):F_l_eqHeap N x x=some true:=by
  have b0:szL sz_DObj x.arena<BIG:=by unfold sz_DHeap at hb;omega
  have b1:sz_DGc x.gc<BIG:=by unfold sz_DHeap at hb;omega
  simp [F_l_eqHeap,eS_DObj hN b0,e_DGc hN b1]
theorem mark_DHeap {N:Nat} (hN:BIG≤N) {x:DHeap} {n:Int} (hb:sz_DHeap x<BIG) (h0:0≤n) (h1:n+((sumL c_DObj x.arena:Nat):Int)+((sumL c_Int x.gc.grey:Nat):Int)≤4611686018427387904):F_l_markHeap N x n=some (n+((sumL c_DObj x.arena:Nat):Int)+((sumL c_Int x.gc.grey:Nat):Int),markL g_DObj c_DObj (n) x.arena,markL g_Int c_Int (n+((sumL c_DObj x.arena:Nat):Int)) x.gc.grey):=by
  unfold F_l_markHeap
  have hb_arena:szL sz_DObj x.arena<BIG:=by unfold sz_DHeap at hb;omega
  have hb_gc:sz_DGc x.gc<BIG:=by unfold sz_DHeap at hb;omega
  simp only [Option.bind_some,keepL_same (markL_len _ _ _ _),markS_DObj hN (n:=n) (x:=x.arena) hb_arena (by omega) (by omega),mark_DGc hN (n:=n+((sumL c_DObj x.arena:Nat):Int)) (x:=x.gc) hb_gc (by omega) (by omega)]
theorem held_DHeap {N:Nat} (hN:BIG≤N) {x z:DHeap} {n:Int} (hb:sz_DHeap x<BIG) (h0:0≤n) (h1:n+((sumL c_DObj x.arena:Nat):Int)+((sumL c_Int x.gc.grey:Nat):Int)≤4611686018427387904) (e0:z.arena=markL g_DObj c_DObj (n) x.arena) (e1:z.gc.grey=markL g_Int c_Int (n+((sumL c_DObj x.arena:Nat):Int)) x.gc.grey):F_l_heldHeap N z n=some (n+((sumL c_DObj x.arena:Nat):Int)+((sumL c_Int x.gc.grey:Nat):Int)):=by
  unfold F_l_heldHeap
  have hb_arena:szL sz_DObj x.arena<BIG:=by unfold sz_DHeap at hb;omega
  have hb_gc:sz_DGc x.gc<BIG:=by unfold sz_DHeap at hb;omega
  simp only [Option.bind_some,cond_false,e0,heldS_DObj hN (n:=n) (x:=x.arena) hb_arena (by omega) (by omega),decide_eq_false (show ¬ (n+((sumL c_DObj x.arena:Nat):Int)<0) by omega),held_DGc hN (n:=n+((sumL c_DObj x.arena:Nat):Int)) (x:=x.gc) (z:=z.gc) hb_gc (by omega) (by omega) e1,decide_eq_false (show ¬ (n+((sumL c_DObj x.arena:Nat):Int)+((sumL c_Int x.gc.grey:Nat):Int)<0) by omega)]
def sz_DPart (x:DPart):Nat:=sz_DLabel x.label+(x.own.length+(x.tree.length+(sz_DHeap x.heap+(x.taps.length+(0)))))
theorem r_DPart {N:Nat} (hN:BIG≤N) {x:DPart} {b:Int} (h0:0≤b) (h1:b≤1048576) (hx:Fit.fit x):F_l_szPart N x b=some (left b (sz_DPart x)) :=
  szStep h0 h1 (r_DLabel hN h0 h1 hx.1) fun b h0 h1=>szStep h0 h1 (rS_Int hN h0 h1 hx.2.1) fun b h0 h1=>szStep h0 h1 (rS_DRes hN h0 h1 hx.2.2.1) fun b h0 h1=>szStep h0 h1 (r_DHeap hN h0 h1 hx.2.2.2.1) fun b h0 h1=>szStep h0 h1 (rS_DTap hN h0 h1 hx.2.2.2.2.1) fun b h0 h1=>by rw [left_zero h0]
theorem t_DPart {N:Nat} (hN:BIG≤N) {x:DPart} (hb:sz_DPart x<BIG):F_l_toPart N x=some x:=by
  have b0:sz_DLabel x.label<BIG:=by unfold sz_DPart at hb;omega
  have b1:x.own.length<BIG:=by unfold sz_DPart at hb;omega
  have b2:x.tree.length<BIG:=by unfold sz_DPart at hb;omega
  have b3:sz_DHeap x.heap<BIG:=by unfold sz_DPart at hb;omega
  have b4:x.taps.length<BIG:=by unfold sz_DPart at hb;omega
  simp [F_l_toPart,t_DLabel hN b0,tS_Int hN b1,tS_DRes hN b2,t_DHeap hN b3,tS_DTap hN b4,t_DAmt]
theorem e_DPart {N:Nat} (hN:BIG≤N) {x:DPart} (hb:sz_DPart x<BIG):F_l_eqPart N x x=some true:=by
  have b0:sz_DLabel x.label<BIG:=by unfold sz_DPart at hb;omega
  have b1:x.own.length<BIG:=by unfold sz_DPart at hb;omega
  have b2:x.tree.length<BIG:=by unfold sz_DPart at hb;omega
  have b3:sz_DHeap x.heap<BIG:=by unfold sz_DPart at hb;omega
  have b4:x.taps.length<BIG:=by unfold sz_DPart at hb;omega
  simp [F_l_eqPart,e_DLabel hN b0,eS_Int hN b1,eS_DRes hN b2,e_DHeap hN b3,eS_DTap hN b4,e_DAmt]
theorem mark_DPart {N:Nat} (hN:BIG≤N) {x:DPart} {n:Int} (hb:sz_DPart x<BIG) (h0:0≤n) (h1:n+((sumL c_Int x.label.levels:Nat):Int)+((sumL c_Int x.own:Nat):Int)+((sumL c_DRes x.tree:Nat):Int)+((sumL c_DObj x.heap.arena:Nat):Int)+((sumL c_Int x.heap.gc.grey:Nat):Int)+((sumL c_DTap x.taps:Nat):Int)≤4611686018427387904):F_l_markPart N x n=some (n+((sumL c_Int x.label.levels:Nat):Int)+((sumL c_Int x.own:Nat):Int)+((sumL c_DRes x.tree:Nat):Int)+((sumL c_DObj x.heap.arena:Nat):Int)+((sumL c_Int x.heap.gc.grey:Nat):Int)+((sumL c_DTap x.taps:Nat):Int),markL g_Int c_Int (n) x.label.levels,markL g_Int c_Int (n+((sumL c_Int x.label.levels:Nat):Int)) x.own,markL g_DRes c_DRes (n+((sumL c_Int x.label.levels:Nat):Int)+((sumL c_Int x.own:Nat):Int)) x.tree,markL g_DObj c_DObj (n+((sumL c_Int x.label.levels:Nat):Int)+((sumL c_Int x.own:Nat):Int)+((sumL c_DRes x.tree:Nat):Int)) x.heap.arena,markL g_Int c_Int (n+((sumL c_Int x.label.levels:Nat):Int)+((sumL c_Int x.own:Nat):Int)+((sumL c_DRes x.tree:Nat):Int)+((sumL c_DObj x.heap.arena:Nat):Int)) x.heap.gc.grey,markL g_DTap c_DTap (n+((sumL c_Int x.label.levels:Nat):Int)+((sumL c_Int x.own:Nat):Int)+((sumL c_DRes x.tree:Nat):Int)+((sumL c_DObj x.heap.arena:Nat):Int)+((sumL c_Int x.heap.gc.grey:Nat):Int)) x.taps):=by
  unfold F_l_markPart
  have hb_label:sz_DLabel x.label<BIG:=by unfold sz_DPart at hb;omega
  have hb_own:x.own.length<BIG:=by unfold sz_DPart at hb;omega
  have hb_tree:x.tree.length<BIG:=by unfold sz_DPart at hb;omega
  have hb_heap:sz_DHeap x.heap<BIG:=by unfold sz_DPart at hb;omega
  have hb_taps:x.taps.length<BIG:=by unfold sz_DPart at hb;omega
  simp only [Option.bind_some,keepL_same (markL_len _ _ _ _),mark_DLabel hN (n:=n) (x:=x.label) hb_label (by omega) (by omega),markS_Int hN (n:=n+((sumL c_Int x.label.levels:Nat):Int)) (x:=x.own) hb_own (by omega) (by omega),markS_DRes hN (n:=n+((sumL c_Int x.label.levels:Nat):Int)+((sumL c_Int x.own:Nat):Int)) (x:=x.tree) hb_tree (by omega) (by omega),mark_DHeap hN (n:=n+((sumL c_Int x.label.levels:Nat):Int)+((sumL c_Int x.own:Nat):Int)+((sumL c_DRes x.tree:Nat):Int)) (x:=x.heap) hb_heap (by omega) (by omega),markS_DTap hN (n:=n+((sumL c_Int x.label.levels:Nat):Int)+((sumL c_Int x.own:Nat):Int)+((sumL c_DRes x.tree:Nat):Int)+((sumL c_DObj x.heap.arena:Nat):Int)+((sumL c_Int x.heap.gc.grey:Nat):Int)) (x:=x.taps) hb_taps (by omega) (by omega)]
theorem held_DPart {N:Nat} (hN:BIG≤N) {x z:DPart} {n:Int} (hb:sz_DPart x<BIG) (h0:0≤n) (h1:n+((sumL c_Int x.label.levels:Nat):Int)+((sumL c_Int x.own:Nat):Int)+((sumL c_DRes x.tree:Nat):Int)+((sumL c_DObj x.heap.arena:Nat):Int)+((sumL c_Int x.heap.gc.grey:Nat):Int)+((sumL c_DTap x.taps:Nat):Int)≤4611686018427387904) (e0:z.label.levels=markL g_Int c_Int (n) x.label.levels) (e1:z.own=markL g_Int c_Int (n+((sumL c_Int x.label.levels:Nat):Int)) x.own) (e2:z.tree=markL g_DRes c_DRes (n+((sumL c_Int x.label.levels:Nat):Int)+((sumL c_Int x.own:Nat):Int)) x.tree) (e3:z.heap.arena=markL g_DObj c_DObj (n+((sumL c_Int x.label.levels:Nat):Int)+((sumL c_Int x.own:Nat):Int)+((sumL c_DRes x.tree:Nat):Int)) x.heap.arena) (e4:z.heap.gc.grey=markL g_Int c_Int (n+((sumL c_Int x.label.levels:Nat):Int)+((sumL c_Int x.own:Nat):Int)+((sumL c_DRes x.tree:Nat):Int)+((sumL c_DObj x.heap.arena:Nat):Int)) x.heap.gc.grey) (e5:z.taps=markL g_DTap c_DTap (n+((sumL c_Int x.label.levels:Nat):Int)+((sumL c_Int x.own:Nat):Int)+((sumL c_DRes x.tree:Nat):Int)+((sumL c_DObj x.heap.arena:Nat):Int)+((sumL c_Int x.heap.gc.grey:Nat):Int)) x.taps):F_l_heldPart N z n=some (n+((sumL c_Int x.label.levels:Nat):Int)+((sumL c_Int x.own:Nat):Int)+((sumL c_DRes x.tree:Nat):Int)+((sumL c_DObj x.heap.arena:Nat):Int)+((sumL c_Int x.heap.gc.grey:Nat):Int)+((sumL c_DTap x.taps:Nat):Int)):=by
  unfold F_l_heldPart
  have hb_label:sz_DLabel x.label<BIG:=by unfold sz_DPart at hb;omega
  have hb_own:x.own.length<BIG:=by unfold sz_DPart at hb;omega
  have hb_tree:x.tree.length<BIG:=by unfold sz_DPart at hb;omega
  have hb_heap:sz_DHeap x.heap<BIG:=by unfold sz_DPart at hb;omega
  have hb_taps:x.taps.length<BIG:=by unfold sz_DPart at hb;omega
  simp only [Option.bind_some,cond_false,e1,e2,e5,held_DLabel hN (n:=n) (x:=x.label) (z:=z.label) hb_label (by omega) (by omega) e0,decide_eq_false (show ¬ (n+((sumL c_Int x.label.levels:Nat):Int)<0) by omega),heldS_Int hN (n:=n+((sumL c_Int x.label.levels:Nat):Int)) (x:=x.own) hb_own (by omega) (by omega),decide_eq_false (show ¬ (n+((sumL c_Int x.label.levels:Nat):Int)+((sumL c_Int x.own:Nat):Int)<0) by omega),heldS_DRes hN (n:=n+((sumL c_Int x.label.levels:Nat):Int)+((sumL c_Int x.own:Nat):Int)) (x:=x.tree) hb_tree (by omega) (by omega),decide_eq_false (show ¬ (n+((sumL c_Int x.label.levels:Nat):Int)+((sumL c_Int x.own:Nat):Int)+((sumL c_DRes x.tree:Nat):Int)<0) by omega),held_DHeap hN (n:=n+((sumL c_Int x.label.levels:Nat):Int)+((sumL c_Int x.own:Nat):Int)+((sumL c_DRes x.tree:Nat):Int)) (x:=x.heap) (z:=z.heap) hb_heap (by omega) (by omega) e3 e4,decide_eq_false (show ¬ (n+((sumL c_Int x.label.levels:Nat):Int)+((sumL c_Int x.own:Nat):Int)+((sumL c_DRes x.tree:Nat):Int)+((sumL c_DObj x.heap.arena:Nat):Int)+((sumL c_Int x.heap.gc.grey:Nat):Int)<0) by omega),heldS_DTap hN (n:=n+((sumL c_Int x.label.levels:Nat):Int)+((sumL c_Int x.own:Nat):Int)+((sumL c_DRes x.tree:Nat):Int)+((sumL c_DObj x.heap.arena:Nat):Int)+((sumL c_Int x.heap.gc.grey:Nat):Int)) (x:=x.taps) hb_taps (by omega) (by omega),decide_eq_false (show ¬ (n+((sumL c_Int x.label.levels:Nat):Int)+((sumL c_Int x.own:Nat):Int)+((sumL c_DRes x.tree:Nat):Int)+((sumL c_DObj x.heap.arena:Nat):Int)+((sumL c_Int x.heap.gc.grey:Nat):Int)+((sumL c_DTap x.taps:Nat):Int)<0) by omega)]
end Go.Kx
