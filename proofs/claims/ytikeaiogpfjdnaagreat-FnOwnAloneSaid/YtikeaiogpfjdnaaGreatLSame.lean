/- Plain laws of what is told alike: labels, things, parts, worlds. No program in sight. -/
import Derived.Test.YtikeaiogpfjdnaaGreatLBoot
namespace Go.Kx
open Go
set_option linter.unusedVariables false
set_option linter.unusedSimpArgs false
set_option maxRecDepth 10000
theorem zd {N:Nat} (hN:im≤N) {a b:List Int} (ha:a.length<im):qx N a b=some (decide (a=b)):=wE a b (· != ·) (by intro y z;by_cases h:y=z <;> simp [h]) ha hN
theorem w6 {N:Nat} (hN:im≤N) {a b:List Int} (ha:a.length<im):oJ N a b=some (decide (a=b)):=wE a b (· != ·) (by intro y z;by_cases h:y=z <;> simp [h]) ha hN
theorem BK {N:Nat} (hN:im≤N) {a b:List ji} (ha:a.length<im):qZ N a b=some (decide (a=b)):=wE a b (fun y z=>!decide (y=z)) (fun _ _=>rfl) ha hN
theorem D4 (a b:jC):decide (a.levels=b.levels)=decide (a=b):=by cases a;cases b;simp
theorem BL {N:Nat} (hN:im≤N) {a b:jC} (ha:a.levels.length<im):ra N a b=some (decide (a=b)):=by
  rw [← D4]
  exact wE a.levels b.levels (· != ·) (by intro y z;by_cases h:y=z <;> simp [h]) ha hN
theorem wx {o:bh} (h:iA o<im):o.ig.length<im∧o.data.length<im∧o.queue.length<im:=by unfold iA at h;omega
theorem Dr {N:Nat} (hN:im≤N) {a b:bh} (ha:iA a<im):qv N a b=some (decide (a=b)):=by
  obtain ⟨h1,h2,h3⟩:=wx ha
  unfold qv
  simp only [w6 hN h1,w6 hN h2,BK hN h3,Option.bind_some,k5]
  congr 1
  rw [Bool.eq_iff_iff]
  cases a;cases b
  simp [bh.mk.injEq]
theorem EB {N:Nat} (hN:im≤N) {a b:bh} (ha:iA a<im):qj N a b=some (decide (a=b)):=by
  obtain ⟨h1,h2,h3⟩:=wx ha
  unfold qj
  simp only [kO,Option.bind_some]
  cases hj:(a.gen != b.gen || (a.kind != b.kind || (a.box != b.box || (a.res != b.res || (a.iL != b.iL || (a.cd != b.cd || (a.wait != b.wait || (a.iK != b.iK || (a.iM != b.iM || (!(a.mark==b.mark) || ((a.ig.length:Int) != (b.ig.length:Int) || ((a.data.length:Int) != (b.data.length:Int) || ((a.queue.length:Int) != (b.queue.length:Int))))))))))))))
  · simp only [Bool.or_eq_false_iff,bne_eq_false_iff_eq,Bool.not_eq_false',beq_iff_eq] at hj
    obtain ⟨e1,e2,e3,e4,e5,e6,e7,e8,e9,e10,l1,l2,l3⟩:=hj
    simp only [cond_false]
    rw [uP a.ig b.ig (by omega) (.inl (a.ig.length:Int)) (.inr false) (Nat.lt_of_lt_of_le h1 hN),Option.bind_some,
      uP a.data b.data (by omega) (.inl (a.data.length:Int)) (.inr false) (Nat.lt_of_lt_of_le h2 hN),Option.bind_some,
      uP a.queue b.queue (by omega) (.inl (a.queue.length:Int)) (.inr false) (Nat.lt_of_lt_of_le h3 hN),Option.bind_some]
    · have:decide (a=b)=(decide (a.ig=b.ig)&&(decide (a.data=b.data)&&decide (a.queue=b.queue))):=by
        rw [Bool.eq_iff_iff]
        cases a;cases b
        simp_all [bh.mk.injEq]
      rw [this]
      by_cases q1:a.ig=b.ig <;> by_cases q2:a.data=b.data <;> by_cases q3:a.queue=b.queue <;> simp [q1,q2,q3]
    · intro k y z hy hz hk
      simp only [jt hk,cond_true,iT,hy,hz,Option.bind_some,jx (Nat.lt_trans hk h3)]
      by_cases h:y=z <;> simp [h]
    · simp only [jr,cond_false]
    · intro k y z hy hz hk
      simp only [jt hk,cond_true,iT,hy,hz,Option.bind_some,Cm,jx (Nat.lt_trans hk h2)]
      by_cases h:y=z <;> simp [h]
    · simp only [jr,cond_false]
    · intro k y z hy hz hk
      simp only [jt hk,cond_true,iT,hy,hz,Option.bind_some,Cm,jx (Nat.lt_trans hk h1)]
      by_cases h:y=z <;> simp [h]
    · simp only [jr,cond_false]
  · have:¬ a=b:=by
      rintro rfl
      simp at hj
    simp [this]
theorem Bh {N:Nat} (hN:im≤N) {a b:List bh} (ha:jl iA a<im):re N a b=some (decide (a=b)):=B4 a b (qj N) (fun y z hy _=>EB hN (nS ha hy)) (o7 ha) hN
theorem ny {p:gE} (h:jh p<im):p.label.levels.length<im∧p.own.length<im∧p.tree.length<im∧jl iA p.heap.ag<im∧p.heap.gc.ia.length<im∧p.ic.length<im:=by
  unfold jh ox tj lA at h;omega
theorem yl {N:Nat} (hN:im≤N) {a b:gE} (ha:jh a<im):nY N a b=some (decide (a=b)):=by
  obtain ⟨h1,h2,h3,h4,h5,h6⟩:=ny ha
  unfold nY
  simp only [BL hN h1,zd hN h2,Bh hN h4,zd hN h5,Option.bind_some,kO,k5]
  cases hj:(!decide (a.label=b.label) || (!decide (a.own=b.own) || ((a.tree.length:Int) != (b.tree.length:Int) || ((a.ic.length:Int) != (b.ic.length:Int) || (a.next != b.next || (a.want != b.want || (!decide (a.dW=b.dW) || (a.iz != b.iz || a.lost != b.lost))))))))
  · simp only [Bool.or_eq_false_iff,bne_eq_false_iff_eq,Bool.not_eq_false',decide_eq_true_eq] at hj
    obtain ⟨e1,e2,l1,l2,e3,e4,e5,e6,e7⟩:=hj
    simp only [cond_false]
    rw [uP a.tree b.tree (by omega) (.inl (a.tree.length:Int)) (.inr false) (Nat.lt_of_lt_of_le h3 hN),Option.bind_some,
      uP a.ic b.ic (by omega) (.inl (a.ic.length:Int)) (.inr false) (Nat.lt_of_lt_of_le h6 hN),Option.bind_some]
    · have:decide (a=b)=(decide (a.tree=b.tree)&&(decide (a.ic=b.ic)&&(decide (a.heap.ag=b.heap.ag)&&((a.heap.gc.phase==b.heap.gc.phase)&&((a.heap.gc.pos==b.heap.gc.pos)&&((a.heap.gc.round==b.heap.gc.round)&&decide (a.heap.gc.ia=b.heap.gc.ia))))))):=by
        rw [Bool.eq_iff_iff]
        obtain ⟨_,_,_,⟨_,⟨_,_,_,_⟩⟩,_,_,_,_,_,_⟩:=a
        obtain ⟨_,_,_,⟨_,⟨_,_,_,_⟩⟩,_,_,_,_,_,_⟩:=b
        simp only at e1 e2 e3 e4 e5 e6 e7
        subst e1;subst e2;subst e3;subst e4;subst e5;subst e6;subst e7
        simp only [gE.mk.injEq,iv.mk.injEq,jz.mk.injEq,Bool.and_eq_true,decide_eq_true_eq,beq_iff_eq,true_and,and_true]
        constructor
        · rintro ⟨q1,⟨q2,q3,q4,q5,q6⟩,q7⟩;exact ⟨q1,q7,q2,q3,q4,q5,q6⟩
        · rintro ⟨q1,q7,q2,q3,q4,q5,q6⟩;exact ⟨q1,⟨q2,q3,q4,q5,q6⟩,q7⟩
      rw [this]
      by_cases q1:a.tree=b.tree <;> by_cases q2:a.ic=b.ic <;> simp [q1,q2]
    · intro k y z hy hz hk
      simp only [jt hk,cond_true,iT,hy,hz,Option.bind_some,jx (Nat.lt_trans hk h6)]
      by_cases h:y=z <;> simp [h]
    · simp only [jr,cond_false]
    · intro k y z hy hz hk
      simp only [jt hk,cond_true,iT,hy,hz,Option.bind_some,jx (Nat.lt_trans hk h3)]
      by_cases h:y=z <;> simp [h]
    · simp only [jr,cond_false]
  · have:¬ a=b:=by
      rintro rfl
      simp at hj
    simp [this]
end Go.Kx
/- Plain laws: copies are what they copy. No program in sight. -/
namespace Go.Kx
open Go
set_option linter.unusedVariables false
set_option linter.unusedSimpArgs false
set_option maxRecDepth 10000
theorem j9 {α:Type} {l:List α} (h:l.length<im):app ([]:List α) l=some l:=by
  unfold app;rw [if_pos (by simpa using h)];rfl
theorem sk {N:Nat} {l:List Int} (h:l.length<im):lr N l=some l:=by unfold lr;rw [j9 h];rfl
theorem BG {N:Nat} {l:jC} (h:l.levels.length<im):oC N l=some l:=by unfold oC;rw [sk h];rfl
theorem oy {N:Nat} {l:List iy} (h:l.length<im):kU N l=some l:=by unfold kU;rw [j9 h];rfl
theorem pZ {N:Nat} {l:List iy} (h:l.length<im):kY N l=some l:=by unfold kY;rw [j9 h];rfl
theorem zn {N:Nat} {o:bh} (h:iA o<im):oZ N o=some o:=by
  obtain ⟨h1,h2,h3⟩:=wx h
  unfold oZ
  simp only [sk h1,sk h2,j9 h3,Option.bind_some]
theorem BV {N:Nat} {o:bh} (h:iA o<im):rr N o=some o:=by
  obtain ⟨h1,h2,h3⟩:=wx h
  unfold rr
  simp only [j9 h1,j9 h2,j9 h3,Option.bind_some]
theorem uu {N:Nat} (hN:im≤N) {l:List bh} (hb:jl iA l<im):mo N l=some l:=by
  have hl:=o7 hb
  unfold mo
  rw [ru l (fun _ _=>true) (fun _ y=>y) hl hN,tZ (fun _=>true)]
  · simp
  · intro k t y hy hk ht
    simp only [jt hk,cond_true,iT,hy,Option.bind_some,zn (nS hb (List.mem_of_getElem? hy)),jx (Nat.lt_trans hk hl),kV ht (Nat.lt_of_le_of_lt hk hl)]
    rfl
  · intro t
    simp only [jr,cond_false]
theorem xi {N:Nat} (hN:im≤N) {l:List bh} (hb:jl iA l<im):nv N l=some l:=by
  have hl:=o7 hb
  unfold nv
  rw [ru l (fun _ _=>true) (fun _ y=>y) hl hN,tZ (fun _=>true)]
  · simp
  · intro k t y hy hk ht
    simp only [jt hk,cond_true,iT,hy,Option.bind_some,BV (nS hb (List.mem_of_getElem? hy)),jx (Nat.lt_trans hk hl),kV ht (Nat.lt_of_le_of_lt hk hl)]
    rfl
  · intro t
    simp only [jr,cond_false]
theorem vq {N:Nat} (hN:im≤N) {h:iv} (h1:jl iA h.ag<im) (h2:h.gc.ia.length<im):mQ N h=some h:=by
  unfold mQ
  simp only [uu hN h1,sk h2,Option.bind_some]
theorem ue {N:Nat} (hN:im≤N) {h:iv} (h1:jl iA h.ag<im) (h2:h.gc.ia.length<im):mI N h=some h:=by
  unfold mI
  simp only [xi hN h1,j9 h2,Option.bind_some]
theorem uZ {N:Nat} (hN:im≤N) {p:gE} (h:jh p<im):kX N p=some p:=by
  obtain ⟨h1,h2,h3,h4,h5,h6⟩:=ny h
  unfold kX
  simp only [BG h1,sk h2,oy h3,vq hN h4 h5,j9 h6,Option.bind_some]
theorem ze {N:Nat} (hN:im≤N) {p:gE} (h:jh p<im):oT N p=some p:=by
  obtain ⟨h1,h2,h3,h4,h5,h6⟩:=ny h
  unfold oT
  simp only [j9 h1,j9 h2,pZ h3,ue hN h4 h5,j9 h6,Option.bind_some]
theorem vn {α:Type} {l:List α} {k:Nat} (h:k≤l.length):sub l 0 (k:Int)=some (l.take k):=by
  unfold sub
  rw [if_pos ⟨Int.le_refl _,by omega,by omega⟩]
  simp
theorem yS {α:Type} (f:α→Nat):∀ (l:List α) (k:Nat),nT f (l.take k)≤nT f l
  | [],k=>by simp
  | y::l,0=>Nat.zero_le _
  | y::l,k+1=>by
    have:=yS f l k
    simp only [List.take_succ_cons,nT];omega
theorem Er {α:Type} (f:α→Nat) (l:List α) (k:Nat):jl f (l.take k)≤jl f l:=by
  have:=yS f l k
  unfold jl
  simp only [List.length_take];omega
end Go.Kx
/- Plain laws: things, arenas, heaps, ic, parts: what is right. No program in sight. -/
namespace Go.Kx
open Go
set_option linter.unusedVariables false
set_option linter.unusedSimpArgs false
set_option maxRecDepth 10000
theorem od {α:Type} (p:Bool) (a b:α):(bif p then some a else some b)=some (bif p then a else b):=by cases p <;> rfl
theorem xm {ρ τ β:Type} (c:Bool) (a:ρ) (r:τ) (f:ρ→Option β) (g:τ→Option β):Sum.elim f g (if c then .inl a else .inr r)=if c then f a else g r:=by cases c <;> rfl
theorem xh (N:Nat) (a:Int):ou N a=some (iG a 0 2):=by unfold ou;rw [mj];rfl
theorem sO (N:Nat) (a:Int):lP N a=some (iG a 0 9):=by unfold lP;rw [mj];rfl
theorem tJ (N:Nat) (a:Int):kN N a=some (iG a 0 1000000):=by unfold kN;rw [mj];rfl
theorem oB (N:Nat) (a:Int):kH N a=some (iG a 0 29999):=by unfold kH;rw [mj];rfl
theorem qk (N:Nat) (a:Int):ku N a=some (iG a 0 29999):=by unfold ku;rw [m6];rfl
theorem rm (N:Nat) (a:Int):k4 N a=some (iG a 0 9):=by unfold k4;rw [m6];rfl
def vc (m:ji):Bool:=!(bif (m.src != (-1)) then (!iG m.src 0 29999 || !iG m.n 0 999) else !iG m.n 0 999)
def rA (o:bh):Bool:=o.ig.all (fun y=>iG y (-1) 9)&&(o.data.all (fun y=>iG y 0 999)&&(o.queue.all vc&&(((o.ig.length:Int)==2)&&(((o.data.length:Int)==(bif o.kind==2 then o.cd else 0))&&decide ((o.queue.length:Int)≤(bif o.kind==3 then 2 else 0))))))
theorem Dp {N:Nat} (hN:im≤N) {o:bh} (ho:iA o<im):qt N o=some (rA o):=by
  obtain ⟨h1,h2,h3⟩:=wx ho
  unfold qt rA
  rw [ke o.ig (fun _ y=>iG y (-1) 9) (.inl (o.ig.length:Int)) (.inr false) (Nat.lt_of_lt_of_le h1 hN),kB,Option.bind_some]
  · cases o.ig.all fun y=>iG y (-1) 9
    · rfl
    simp only [if_true,Sum.elim_inl,Bool.true_and]
    rw [ke o.data (fun _ y=>iG y 0 999) (.inl (o.data.length:Int)) (.inr false) (Nat.lt_of_lt_of_le h2 hN),kB,Option.bind_some]
    · cases o.data.all fun y=>iG y 0 999
      · rfl
      simp only [if_true,Sum.elim_inl,Bool.true_and]
      rw [ke o.queue (fun _ y=>vc y) (.inl (o.queue.length:Int)) (.inr false) (Nat.lt_of_lt_of_le h3 hN),kB,Option.bind_some]
      · cases o.queue.all vc
        · rfl
        simp only [if_true,Sum.elim_inl,Bool.true_and,od,Option.bind_some]
        congr 1
        cases ((o.ig.length:Int)==2) <;> cases ((o.data.length:Int)==(bif o.kind==2 then o.cd else 0)) <;> simp
      · intro k y hy hk
        simp only [jt hk,cond_true,iT,hy,Option.bind_some,mj,oB,kO,od,jx (Nat.lt_trans hk h3)]
        unfold vc
        cases (y.src != (-1)) <;> cases iG y.src 0 29999 <;> cases iG y.n 0 999 <;> rfl
      · simp only [jr,cond_false]
    · intro k y hy hk
      simp only [jt hk,cond_true,iT,hy,Option.bind_some,mj,jx (Nat.lt_trans hk h2)]
      cases iG y 0 999 <;> rfl
    · simp only [jr,cond_false]
  · intro k y hy hk
    simp only [jt hk,cond_true,iT,hy,Option.bind_some,mj,jx (Nat.lt_trans hk h1)]
    cases iG y (-1) 9 <;> rfl
  · simp only [jr,cond_false]
def blank (g:Int):bh:=bh.mk g 0 0 0 0 0 0 0 0 false [] [] []
def kt (o:bh):Bool:=iG o.gen 0 999&&(iG o.kind 0 4&&(bif o.kind==0 then decide (o=blank o.gen) else
  iG o.box (-1) 9&&(iG o.res 0 4&&(iG o.iL 0 1000000&&(iG o.cd 0 8&&(rA o&&(bif o.kind != 4 then (o.wait==0&&(o.iK==0&&o.iM==0)) else
    (o.wait==0 || iG (IntKind.i64.wrap (o.wait - 1)) 0 29999)&&(iG o.iK (-1) 999&&iG o.iM 0 1000000))))))))
theorem Cb {N:Nat} (hN:im≤N) {o:bh} (ho:iA o<im):rC N o=some (kt o):=by
  unfold rC kt
  simp only [mj,te,tJ,oB,Dp hN ho,Dr hN ho,Option.bind_some,kO,k5,od]
  rw [show bh.mk o.gen 0 0 0 0 0 0 0 0 false [] [] []=blank o.gen from rfl]
  congr 1
  simp only [Bool.cond_true_left,Bool.cond_false_left,Bool.cond_true_right,Bool.cond_false_right,Bool.not_or,Bool.not_not,Bool.and_assoc]
  cases o.wait==0 <;> rfl
def my (o:bh):Prop:=-9223372036854775808≤o.wait
theorem EE {n:Int} (h:-9223372036854775808≤n) (h0:n<0):iG (IntKind.i64.wrap (n - 1)) 0 29999=false:=by
  rcases Decidable.em (n=-9223372036854775808) with e | e
  · subst e;decide
  · rw [iX (by omega) (by omega)]
    simp [iG];omega
def xV (o:bh):Bool:=bif o.kind != 4 then (o.wait==0&&(o.iK==0&&o.iM==0)) else
    (o.wait==0 || iG (IntKind.i64.wrap (o.wait - 1)) 0 29999)&&(iG o.iK (-1) 999&&iG o.iM 0 1000000)
theorem Hk {o : bh} (hw : my o) (hr : iG o.iM 0 1000000 = true) : (bif o.kind != 4 then bif o.wait != 0 then true else bif o.iK != 0 then true else bif o.iM != 0 then true else bif o.kind == 4 then
      bif decide (o.wait < 0) then true else bif decide (o.wait > 0) then !iG (IntKind.i64.wrap (o.wait - 1)) 0 29999 || !iG o.iK (-1) 999 else !iG o.iK (-1) 999 else false
    else bif o.kind == 4 then bif decide (o.wait < 0) then true else bif decide (o.wait > 0) then !iG (IntKind.i64.wrap (o.wait - 1)) 0 29999 || !iG o.iK (-1) 999 else !iG o.iK (-1) 999 else false) = !xV o := by
  unfold xV
  simp only [bne, hr]
  cases o.kind == 4
  · simp only [Bool.not_false, cond_true, cond_false]
    cases o.wait == 0 <;> cases o.iK == 0 <;> cases o.iM == 0 <;> rfl
  · simp only [Bool.not_true, cond_true, cond_false]
    rcases Int.lt_trichotomy o.wait 0 with h | h | h
    · have e1 : decide (o.wait < 0) = true := by simpa using h
      have e2 : (o.wait == 0) = false := by simp; omega
      rw [e1, e2, EE hw h]; rfl
    · simp only [h]
      cases iG o.iK (-1) 999 <;> rfl
    · have e1 : decide (o.wait < 0) = false := by simp; omega
      have e2 : (o.wait == 0) = false := by simp; omega
      have e3 : decide (o.wait > 0) = true := by simpa using h
      rw [e1, e2, e3]
      cases iG (IntKind.i64.wrap (o.wait - 1)) 0 29999 <;> cases iG o.iK (-1) 999 <;> rfl
theorem Hb (o:bh):(bif (o.data.length:Int) != 0 then bif o.kind != 2 then true else bif (o.data.length:Int) != o.cd then true else bif o.kind==2 then (o.data.length:Int) != o.cd else false
    else bif o.kind==2 then (o.data.length:Int) != o.cd else false)=!((o.data.length:Int)==(bif o.kind==2 then o.cd else 0)):=by
  simp only [bne]
  cases o.kind==2 <;> cases h:((o.data.length:Int)==0) <;> cases h2:((o.data.length:Int)==o.cd) <;> simp [h,h2]
theorem Gn (o:bh):(bif decide ((o.queue.length:Int) > 2) then true else bif decide ((o.queue.length:Int) > 0) then o.kind != 3 else false)=!decide ((o.queue.length:Int)≤(bif o.kind==3 then 2 else 0)):=by
  simp only [bne]
  cases o.kind==3
  · simp only [cond_false]
    rcases Nat.lt_trichotomy o.queue.length 0 with h | h | h
    · omega
    · simp [h]
    · rw [decide_eq_true (show (o.queue.length:Int) > 0 by omega),decide_eq_false (show ¬ ((o.queue.length:Int)≤0) by omega)]
      cases decide ((o.queue.length:Int) > 2) <;> rfl
  · simp only [cond_true]
    rcases Nat.lt_or_ge 2 o.queue.length with h | h
    · rw [decide_eq_true (show (o.queue.length:Int) > 2 by omega),decide_eq_false (show ¬ ((o.queue.length:Int)≤2) by omega)];rfl
    · rw [decide_eq_false (show ¬ ((o.queue.length:Int) > 2) by omega),decide_eq_true (show (o.queue.length:Int)≤2 by omega)]
      cases decide ((o.queue.length:Int) > 0) <;> rfl
theorem Ge {N:Nat} (hN:im≤N) {o:bh} (ho:iA o<im) (hw:my o):tb N o=some (kt o):=by
  obtain ⟨h1,h2,h3⟩:=wx ho
  unfold tb kt
  rw [m6,Option.bind_some]
  cases hg:iG o.gen 0 999
  · rfl
  simp only [Bool.not_true,cond_false,Bool.true_and]
  cases hk0:o.kind==0
  · simp only [cond_false,m6,tC,Option.bind_some,kO]
    have hk0':o.kind ≠ 0:=by simpa using hk0
    cases hA:(!iG o.kind 1 4 || (!iG o.box (-1) 9 || (!iG o.res 0 4 || (!iG o.iL 0 1000000 || (!iG o.cd 0 8 || ((o.ig.length:Int) != 2 || !iG o.iM 0 1000000))))))
    · simp only [Bool.or_eq_false_iff,Bool.not_eq_false',bne_eq_false_iff_eq] at hA
      obtain ⟨a1,a2,a3,a4,a5,a6,a7⟩:=hA
      have a1':iG o.kind 0 4=true:=by rw [jv] at a1 ⊢;omega
      have hl2:o.ig.length=2:=by omega
      simp only [cond_false,a1',a2,a3,a4,a5,Bool.true_and]
      rw [ke o.ig (fun _ y=>iG y (-1) 9) (.inl (2:Int)) (.inr false) (Nat.lt_of_lt_of_le h1 hN),kB,Option.bind_some,xm]
      · unfold rA
        cases hL:o.ig.all fun y=>iG y (-1) 9
        · rfl
        have e6:((o.ig.length:Int)==2)=true:=by simp [a6]
        simp only [if_true,Bool.true_and,e6]
        simp only [qk,Option.bind_some,od]
        rw [Hk hw a7,Hb o]
        rw [show (bif o.kind != 4 then (o.wait==0&&(o.iK==0&&o.iM==0)) else (o.wait==0 || iG (IntKind.i64.wrap (o.wait - 1)) 0 29999)&&(iG o.iK (-1) 999&&iG o.iM 0 1000000))=xV o from rfl]
        cases xV o
        · simp
        cases ((o.data.length:Int)==(bif o.kind==2 then o.cd else 0))
        · simp
        simp only [Bool.not_true,cond_false,Bool.and_true,Bool.true_and]
        rw [ke o.data (fun _ y=>iG y 0 999) (.inl (o.data.length:Int)) (.inr false) (Nat.lt_of_lt_of_le h2 hN),kB,Option.bind_some,xm,Gn o]
        · cases o.data.all fun y=>iG y 0 999
          · rfl
          simp only [if_true,Bool.true_and]
          cases decide ((o.queue.length:Int)≤(bif o.kind==3 then 2 else 0))
          · simp
          simp only [Bool.not_true,cond_false,Bool.and_true]
          rw [ke o.queue (fun _ y=>vc y) (.inl (o.queue.length:Int)) (.inr false) (Nat.lt_of_lt_of_le h3 hN),kB,Option.bind_some,xm]
          · cases o.queue.all vc <;> rfl
          · intro k y hy hk
            simp only [jt hk,cond_true,iT,hy,Option.bind_some,jx (Nat.lt_trans hk h3)]
            unfold vc
            cases (y.src != (-1)) <;> cases iG y.src 0 29999 <;> cases iG y.n 0 999 <;> rfl
          · simp only [jr,cond_false]
        · intro k y hy hk
          simp only [jt hk,cond_true,iT,hy,Option.bind_some,jx (Nat.lt_trans hk h2)]
          cases iG y 0 999 <;> rfl
        · simp only [jr,cond_false]
      · intro k y hy hk
        have hd:decide ((k:Int)<2)=true:=by simp;omega
        simp only [hd,cond_true,iT,hy,Option.bind_some,m6,jx (Nat.lt_trans hk h1)]
        cases iG y (-1) 9 <;> rfl
      · simp [hl2]
    · simp only [cond_true]
      congr 1
      symm
      rw [Bool.eq_false_iff]
      intro h
      simp only [rA,Bool.and_eq_true,jv,beq_iff_eq] at h
      obtain ⟨b0,b1,b2,b3,b4,⟨_,_,_,b5,_,_⟩,b6⟩:=h
      have q1:iG o.kind 1 4=true:=by rw [jv];omega
      have q2:iG o.box (-1) 9=true:=by rw [jv];omega
      have q3:iG o.res 0 4=true:=by rw [jv];omega
      have q4:iG o.iL 0 1000000=true:=by rw [jv];omega
      have q5:iG o.cd 0 8=true:=by rw [jv];omega
      have q6:((o.ig.length:Int) != 2)=false:=by simp [b5]
      have q7:iG o.iM 0 1000000=true:=by
        cases h4:o.kind != 4
        · rw [h4] at b6
          simp only [cond_false,Bool.and_eq_true] at b6
          exact b6.2.2
        · rw [h4] at b6
          simp only [cond_true,Bool.and_eq_true,beq_iff_eq] at b6
          rw [b6.2.2];decide
      simp [q1,q2,q3,q4,q5,q6,q7] at hA
  · have hk:o.kind=0:=by simpa using hk0
    simp only [cond_true,k5,Option.bind_some]
    congr 1
    rw [Bool.eq_iff_iff]
    obtain ⟨_,_,_,_,_,_,_,_,_,_,_,_,_⟩:=o
    simp only at hk
    subst hk
    simp [blank,iG]
end Go.Kx
/- Plain laws: arenas, heaps, ic, parts: what is right. No program in sight. -/
namespace Go.Kx
open Go
set_option linter.unusedVariables false
set_option linter.unusedSimpArgs false
set_option maxRecDepth 10000
theorem sV {o:bh} (h:kt o=true):o.ig.length≤2∧∀ y,y ∈ o.ig→-1≤y∧y≤9:=by
  unfold kt at h
  cases hk:o.kind==0
  · simp only [hk,cond_false,Bool.and_eq_true] at h
    obtain ⟨_,_,_,_,_,_,hl,_⟩:=h
    unfold rA at hl
    simp only [Bool.and_eq_true,List.all_eq_true,jv,beq_iff_eq] at hl
    exact ⟨by omega,hl.1⟩
  · simp only [hk,cond_true,Bool.and_eq_true,decide_eq_true_eq] at h
    rw [h.2.2];simp [blank]
theorem DZ {o:bh} (h:kt o=true) (hk:(o.kind != 0)=true):iG o.box (-1) 9=true∧iG o.res 0 4=true∧iG o.iL 0 1000000=true∧iG o.cd 0 8=true:=by
  unfold kt at h
  have hk:(o.kind==0)=false:=by simpa [bne] using hk
  simp only [hk,cond_false,Bool.and_eq_true] at h
  exact ⟨h.2.2.1,h.2.2.2.1,h.2.2.2.2.1,h.2.2.2.2.2.1⟩
def tf (l:List bh) (i:Int):Bool:=(nth l i).kind==0
def tU (l:List bh) (o:bh):Bool:=o.ig.all fun y=>!(decide (y ≥ 0)&&tf l y)
def sq (l:List bh) (k:Nat) (o:bh):Bool:=(kt o&&!(decide ((k:Int) > 0)&&(o.kind != 0&&(decide (o.box ≥ 0)&&tf l o.box))))&&tU l o
def tG (l:List bh):Bool:=((nth l 0).kind != 1) || (((nth l 0).box != (-1)) || ((nth l 0).iL != 1000000))
def ka (l:List bh):Bool:=!((l.length:Int) != 10)&&(!tG l&&allI (sq l) 0 l)
theorem zu {N:Nat} (hN:im≤N) {l:List bh} (hl:l.length=10) {o:bh} (ho:o.ig.length≤2) (hr:∀ y,y ∈ o.ig→-1≤y∧y≤9) :
    iter (fun (s75:Int)=>(bif (decide (s75<(o.ig.length:Int))) then ((idx o.ig s75).bind fun y96=>(bif (decide (y96 ≥ 0)) then ((idx l y96).bind fun y108=>some (y108.kind==0)) else (some false):Option Bool).bind fun j105=>bif j105 then (some (.inr (.inr false))) else (some (.inl (IntKind.i64.wrap (s75+1))))) else (some (.inr (.inl s75))):Option (Int⊕(Int⊕Bool)))) N 0=some (if tU l o then .inl (o.ig.length:Int) else .inr false):=by
  have hB:o.ig.length<im:=Nat.lt_of_le_of_lt ho (by decide)
  rw [ke o.ig (fun _ y=>!(decide (y ≥ 0)&&tf l y)) (.inl (o.ig.length:Int)) (.inr false) (Nat.lt_of_lt_of_le hB hN),kB]
  · rfl
  · intro k y hy hk
    have hm:=hr y (List.mem_of_getElem? hy)
    simp only [jt hk,cond_true,iT,hy,Option.bind_some,jx (Nat.lt_trans hk hB)]
    cases h0:decide (y ≥ 0)
    · rfl
    · have h0:y ≥ 0:=by simpa using h0
      simp only [cond_true,jj (l:=l) (i:=y) h0 (by omega),Option.bind_some,Bool.true_and]
      unfold tf
      cases (nth l y).kind==0 <;> rfl
  · simp only [jr,cond_false]
theorem Cx {l:List bh} (hl:l.length=10) {o:bh} (ho:kt o=true):(bif (decide (o.box ≥ 0)) then ((idx l o.box).bind fun y58=>some (y58.kind==0)) else (some false):Option Bool)=some (decide (o.box ≥ 0)&&tf l o.box)∨(o.kind != 0)=false:=by
  cases hk:o.kind != 0
  · exact .inr rfl
  · left
    obtain ⟨hb,_⟩:=DZ ho hk
    rw [jv] at hb
    cases h0:decide (o.box ≥ 0)
    · rfl
    · have h0:o.box ≥ 0:=by simpa using h0
      simp only [cond_true,jj (l:=l) (i:=o.box) h0 (by omega),Option.bind_some,Bool.true_and];rfl
theorem uo {N:Nat} (hN:im≤N) {l:List bh} (hb:jl iA l<im):mF N l=some (ka l):=by
  have hlB:=o7 hb
  unfold mF ka
  cases h10:((l.length:Int) != 10)
  · have hl:l.length=10:=va (n:=10) h10
    rw [jj (l:=l) (i:=0) (by omega) (by omega)]
    simp only [cond_false,Option.bind_some,kO,Bool.not_false,Bool.true_and]
    rw [show ((nth l 0).kind != 1 || ((nth l 0).box != (-1) || (nth l 0).iL != 1000000))=tG l from rfl]
    cases tG l
    · simp only [cond_false,Bool.not_false,Bool.true_and]
      rw [ke l (sq l) (.inl (l.length:Int)) (.inr false) (Nat.lt_of_lt_of_le hlB hN)]
      · simp only [Option.bind_some];cases allI (sq l) 0 l <;> rfl
      · intro k y hy hk
        have hm:=List.mem_of_getElem? hy
        simp only [jt hk,cond_true,iT,hy,Option.bind_some,Cb hN (nS hb hm),jx (Nat.lt_trans hk hlB)]
        unfold sq
        cases ho:kt y
        · rfl
        · obtain ⟨q1,q2⟩:=sV ho
          rw [zu hN hl q1 q2]
          rcases Cx hl ho with q | q
          · rw [q]
            simp only [Bool.not_true,cond_false,Bool.true_and,k5,Option.bind_some]
            cases (decide ((k:Int) > 0)&&(y.kind != 0&&(decide (y.box ≥ 0)&&tf l y.box))) <;> cases tU l y <;> rfl
          · simp only [q,Bool.not_true,cond_false,Bool.true_and,Bool.false_and,Bool.and_false,k5,Option.bind_some]
            cases tU l y <;> rfl
      · simp only [jr,cond_false]
    · rfl
  · rfl
def wA (l:List bh):Prop:=∀ o,o ∈ l→my o
theorem pH {N:Nat} (hN:im≤N) {l:List bh} (hb:jl iA l<im) (hw:wA l):kT N l=some (ka l):=by
  have hlB:=o7 hb
  unfold kT ka
  cases h10:((l.length:Int) != 10)
  · have hl:l.length=10:=va (n:=10) h10
    rw [jj (l:=l) (i:=0) (by omega) (by omega)]
    simp only [cond_false,Option.bind_some,kO,Bool.not_false,Bool.true_and]
    rw [show ((nth l 0).kind != 1 || ((nth l 0).box != (-1) || (nth l 0).iL != 1000000))=tG l from rfl]
    cases tG l
    · simp only [cond_false,Bool.not_false,Bool.true_and]
      rw [ke l (sq l) (.inl (l.length:Int)) (.inr false) (Nat.lt_of_lt_of_le hlB hN)]
      · simp only [Option.bind_some];cases allI (sq l) 0 l <;> rfl
      · intro k y hy hk
        have hm:=List.mem_of_getElem? hy
        simp only [jt hk,cond_true,iT,hy,Option.bind_some,Ge hN (nS hb hm) (hw y hm),jx (Nat.lt_trans hk hlB)]
        unfold sq
        cases ho:kt y
        · rfl
        · obtain ⟨q1,q2⟩:=sV ho
          rw [zu hN hl q1 q2]
          rcases Cx hl ho with q | q
          · rw [q]
            simp only [Bool.not_true,cond_false,Bool.true_and,k5,Option.bind_some]
            cases y.kind != 0 <;> cases decide ((k:Int) > 0) <;> cases (decide (y.box ≥ 0)&&tf l y.box) <;> cases tU l y <;> rfl
          · simp only [q,Bool.not_true,cond_false,Bool.true_and,Bool.false_and,Bool.and_false,k5,Option.bind_some]
            cases tU l y <;> rfl
      · simp only [jr,cond_false]
    · rfl
  · rfl
theorem wm {N:Nat} (hN:im≤N) {l:List Int} {x:Int} (hb:l.length<im):l6 N l x=some (l.contains x):=by
  unfold l6
  rw [ke l (fun _ y=>!(y==x)) (.inl (l.length:Int)) (.inr true) (Nat.lt_of_lt_of_le hb hN),kB]
  · have:(l.all fun y=>!(y==x))=!l.contains x:=by
      induction l with
      | nil=>rfl
      | cons y l ih =>
        have ih:=ih (Nat.lt_trans (Nat.lt_succ_self _) hb)
        rw [List.all_cons,ih,List.contains_cons,Bool.beq_comm (a:=x)]
        cases (y==x) <;> rfl
    rw [this,Option.bind_some]
    cases l.contains x <;> rfl
  · intro k y hy hk
    simp only [jt hk,cond_true,iT,hy,Option.bind_some,jx (Nat.lt_trans hk hb)]
    cases (y==x) <;> rfl
  · simp only [jr,cond_false]
def tB (g:List Int) (k:Nat) (y:Int):Bool:=iG y 0 9&&!(g.take k).contains y
def wj (g:jz):Bool:=((g.phase==0)&&(g.pos==0)) || ((g.phase==1)&&(iG g.pos 0 9&&((g.ia.length:Int)==0)))
def kq (h:iv):Bool:=ka h.ag&&(wj h.gc&&(iG h.gc.round 0 1000000&&allI (tB h.gc.ia) 0 h.gc.ia))
theorem B3 {α:Type} {l:List α} {k:Nat} (h:l.length<im):(l.take k).length<im:=Nat.lt_of_le_of_lt (by simp;omega) h
theorem xz {N:Nat} (hN:im≤N) {h:iv} (h1:jl iA h.ag<im) (h2:h.gc.ia.length<im):oq N h=some (kq h):=by
  unfold oq kq
  rw [ke h.gc.ia (tB h.gc.ia) (.inl (h.gc.ia.length:Int)) (.inr false) (Nat.lt_of_lt_of_le h2 hN)]
  · simp only [Option.bind_some,sO,tJ,uo hN h1,k5]
    cases allI (tB h.gc.ia) 0 h.gc.ia
    · simp
    · simp only [if_true,Sum.elim_inl,Bool.and_true]
      unfold wj
      cases ka h.ag
      · rfl
      cases ((h.gc.phase==0)&&(h.gc.pos==0))
      · cases ((h.gc.phase==1)&&(iG h.gc.pos 0 9&&((h.gc.ia.length:Int)==0))) <;> rfl
      · rfl
  · intro k y hy hk
    simp only [jt hk,cond_true,iT,hy,Option.bind_some,sO,vn (Nat.le_of_lt hk),ss hN (B3 h2),jx (Nat.lt_trans hk h2)]
    unfold tB
    cases iG y 0 9 <;> cases (h.gc.ia.take k).contains y <;> rfl
  · simp only [jr,cond_false]
theorem F6 (n:Nat):decide ((n:Int) > 0)=!((n:Int)==0):=by
  cases n with
  | zero=>rfl
  | succ n=>rw [decide_eq_true (by omega)];simp;omega
theorem uY {N:Nat} (hN:im≤N) {h:iv} (h1:jl iA h.ag<im) (h2:h.gc.ia.length<im) (hw:wA h.ag):ns N h=some (kq h):=by
  unfold ns kq
  rw [ke h.gc.ia (tB h.gc.ia) (.inl (h.gc.ia.length:Int)) (.inr false) (Nat.lt_of_lt_of_le h2 hN)]
  · simp only [Option.bind_some,rm,m6,pH hN h1 hw,kO,F6]
    cases ka h.ag
    · rfl
    cases iG h.gc.round 0 1000000
    · simp
    unfold wj
    by_cases q0:h.gc.phase=0
    · have e0:(h.gc.phase==0)=true:=by simp [q0]
      have e1:(h.gc.phase==1)=false:=by simp [q0]
      have e2:iG h.gc.phase 0 1=true:=by rw [q0];decide
      rw [e0,e1,e2]
      simp only [bne]
      cases h.gc.pos==0
      · rfl
      · cases allI (tB h.gc.ia) 0 h.gc.ia <;> rfl
    by_cases q1:h.gc.phase=1
    · have e0:(h.gc.phase==0)=false:=by simp [q1]
      have e1:(h.gc.phase==1)=true:=by simp [q1]
      have e2:iG h.gc.phase 0 1=true:=by rw [q1];decide
      rw [e0,e1,e2]
      cases iG h.gc.pos 0 9
      · rfl
      cases ((h.gc.ia.length:Int)==0)
      · rfl
      · cases allI (tB h.gc.ia) 0 h.gc.ia <;> rfl
    · have e0:(h.gc.phase==0)=false:=by simp [q0]
      have e1:(h.gc.phase==1)=false:=by simp [q1]
      have e2:iG h.gc.phase 0 1=false:=by
        rw [Bool.eq_false_iff,Ne,jv];omega
      rw [e0,e1,e2];rfl
  · intro k y hy hk
    simp only [jt hk,cond_true,iT,hy,Option.bind_some,rm,vn (Nat.le_of_lt hk),wm hN (B3 h2),jx (Nat.lt_trans hk h2)]
    unfold tB
    cases iG y 0 9 <;> cases (h.gc.ia.take k).contains y <;> rfl
  · simp only [jr,cond_false]
def rS (t:jy):Bool:=(iG t.res 0 4&&(iG t.lq 0 2&&(iG t.mD 0 4&&iG t.mz 0 2)))&&(((t.kind==1)&&iG t.mS 0 1000) || ((t.kind==2)&&iG t.mS 0 100))
theorem Cg (N:Nat) (t:jy):rL N t=some (rS t):=by
  unfold rL rS
  simp only [te,xh,mj,Option.bind_some,kO,k5]
  by_cases q:t.kind=1
  · have e1:(t.kind==1)=true:=by simp [q]
    have e2:(t.kind==2)=false:=by simp [q]
    rw [e1,e2]
    cases iG t.res 0 4 <;> cases iG t.mD 0 4 <;> cases iG t.lq 0 2 <;> cases iG t.mz 0 2 <;> cases iG t.mS 0 1000 <;> rfl
  · have e1:(t.kind==1)=false:=by simp [q]
    rw [e1]
    cases iG t.res 0 4 <;> cases iG t.mD 0 4 <;> cases iG t.lq 0 2 <;> cases iG t.mz 0 2 <;> cases (t.kind==2) <;> cases iG t.mS 0 100 <;> rfl
theorem Cq (N:Nat) (t:jy):rQ N t=some (rS t):=by
  unfold rQ rS
  simp only [tC,m6,Option.bind_some,kO,k5]
  by_cases q:t.kind=1
  · have e1:(t.kind==1)=true:=by simp [q]
    have e2:(t.kind==2)=false:=by simp [q]
    rw [e1,e2]
    cases iG t.res 0 4 <;> cases iG t.lq 0 2 <;> cases iG t.mD 0 4 <;> cases iG t.mz 0 2 <;> cases iG t.mS 0 1000 <;> rfl
  · have e1:(t.kind==1)=false:=by simp [q]
    rw [e1]
    cases iG t.res 0 4 <;> cases iG t.lq 0 2 <;> cases iG t.mD 0 4 <;> cases iG t.mz 0 2 <;> cases (t.kind==2) <;> cases iG t.mS 0 100 <;> rfl
def AY (p:gE):Bool:=iG p.next 0 9&&(iG p.want 0 10&&(je p.dW&&(iG p.iz 0 1000000&&iG p.lost 0 1000000)))
def kh (p:gE):Bool:=jG p.label&&(lE p.own&&(ki p.tree&&(kq p.heap&&(!decide ((p.ic.length:Int) > 3)&&(p.ic.all rS&&AY p)))))
theorem xj {N:Nat} (hN:im≤N) {p:gE} (h:jh p<im):oo N p=some (kh p):=by
  obtain ⟨h1,h2,h3,h4,h5,h6⟩:=ny h
  unfold oo kh
  rw [ke p.ic (fun _ t=>rS t) (.inl (p.ic.length:Int)) (.inr false) (Nat.lt_of_lt_of_le h6 hN),kB]
  · simp only [Option.bind_some,v7 hN h1,B9 hN h2,sP hN,xz hN h4 h5,sO,mj,qn,tJ,kO,k5]
    rw [show (iG p.next 0 9&&(iG p.want 0 10&&(je p.dW&&(iG p.iz 0 1000000&&iG p.lost 0 1000000))))=AY p from rfl]
    cases p.ic.all rS
    · simp
    · simp only [if_true,Sum.elim_inl,Bool.true_and]
      cases jG p.label <;> cases lE p.own <;> cases ki p.tree <;> cases kq p.heap <;> cases decide ((p.ic.length:Int) > 3) <;> rfl
  · intro k y hy hk
    simp only [jt hk,cond_true,iT,hy,Option.bind_some,Cg,jx (Nat.lt_trans hk h6)]
    cases rS y <;> rfl
  · simp only [jr,cond_false]
def wP (p:gE):Prop:=wA p.heap.ag
theorem Ak {N:Nat} (hN:im≤N) {p:gE} (h:jh p<im) (hw:wP p):qg N p=some (kh p):=by
  obtain ⟨h1,h2,h3,h4,h5,h6⟩:=ny h
  unfold qg kh
  rw [ke p.ic (fun _ t=>rS t) (.inl (p.ic.length:Int)) (.inr false) (Nat.lt_of_lt_of_le h6 hN),kB]
  · simp only [Option.bind_some,vK hN h1,yx hN h2,xv hN,uY hN h4 h5 hw,rm,m6,sK,kO,k5]
    unfold AY
    cases jG p.label
    · rfl
    cases lE p.own
    · rfl
    cases ki p.tree
    · rfl
    cases kq p.heap
    · rfl
    cases decide ((p.ic.length:Int) > 3)
    · simp only [Bool.not_true,Bool.not_false,Bool.false_or,Bool.true_and]
      cases iG p.next 0 9 <;> cases iG p.want 0 10 <;> cases je p.dW <;> cases iG p.iz 0 1000000 <;> cases iG p.lost 0 1000000 <;> cases p.ic.all rS <;> rfl
    · rfl
  · intro k y hy hk
    simp only [jt hk,cond_true,iT,hy,Option.bind_some,Cq,jx (Nat.lt_trans hk h6)]
    cases rS y <;> rfl
  · simp only [jr,cond_false]
end Go.Kx
