/- Plain laws: sums; what a right world is. No program in sight. -/
import Derived.Test.YtikeaiogpfjdnaaGreatLReach
namespace Go.Kx
open Go
set_option linter.unusedVariables false
set_option linter.unusedSimpArgs false
set_option maxRecDepth 10000
def NA (a:qa):Prop:=IntKind.i64.wrap a.bh=a.bh∧IntKind.i64.wrap a.pU=a.pU∧IntKind.i64.wrap a.qc=a.qc
theorem wrap_wrap (n:Int):IntKind.i64.wrap (IntKind.i64.wrap n)=IntKind.i64.wrap n:=by
  have:-9223372036854775808≤IntKind.i64.wrap n∧IntKind.i64.wrap n≤9223372036854775807:=by
    simp only [IntKind.wrap,IntKind.signed,IntKind.bits];simp;omega
  exact rN this.1 this.2
theorem NA.sum (a b:qa):NA (qG a b):=⟨wrap_wrap _,wrap_wrap _,wrap_wrap _⟩
theorem NA.zero:NA ⟨0,0,0⟩:=⟨by decide,by decide,by decide⟩
theorem Lg {a:qa} (h:NA a):qG a ⟨0,0,0⟩=a:=by
  obtain ⟨h1,h2,h3⟩:=h
  unfold qG
  simp only [Int.add_zero,h1,h2,h3]
def ua (t:List pW):qa:=if r7 t then rk ⟨0,0,0⟩ t else ⟨0,0,0⟩
theorem KF {N:Nat} (hN:pR≤N) {t:List pW} (hB:t.length<pR):xW N t=some (ua t):=by
  unfold xW ua
  rw [Ci hN,Option.bind_some,EA hN hB]
  cases r7 t <;> rfl
theorem Gm:∀ (t:List pW) (s:qa),NA s→(∀ r,r ∈ t→r.live=false→r.qw=⟨0,0,0⟩)→t.foldl (fun s r=>qG s r.qw) s=rk s t
  | [],s,_,_=>rfl
  | r::t,s,hs,h=>by
    unfold rk
    simp only [List.foldl_cons]
    cases hl:r.live
    · rw [h r (by simp) hl,Lg hs]
      exact Gm t s hs fun x hx=>h x (by simp [hx])
    · exact Gm t _ (NA.sum _ _) fun x hx=>h x (by simp [hx])
structure Tr (t:List pW):Prop where
  len:t.length=5
  Jp:(nth t 0).live=true
  PI:(nth t 0).parent=-1
  dead:∀ r,r ∈ t→r.live=false→r=BA
  qw:∀ r,r ∈ t→qX r.qw=true
  lead:∀ (k:Nat) (r:pW),t[k]?=some r→r.live=true→leads t 5 (k:Int)=true
  sum:qX (rk ⟨0,0,0⟩ t)=true
theorem KX:qX BA.qw=true:=by decide
theorem xG {t:List pW}:r7 t=true ↔ Tr t:=by
  unfold r7
  simp only [Bool.and_eq_true,Bool.not_eq_true',bne_eq_false_iff_eq,v5,Nat.zero_add]
  constructor
  · rintro ⟨h1,h2,h3,h4,h5⟩
    have hm:∀ r,r ∈ t→∃ k:Nat,t[k]?=some r:=fun o ho=>List.getElem?_of_mem ho
    refine ⟨by omega,h2,h3,fun r hr hl=>?_,fun r hr=>?_,fun k r hk hl=>?_,h5⟩
    · obtain ⟨k,hk⟩:=hm r hr
      have:=h4 k r hk
      unfold wX at this
      simpa [hl] using this
    · obtain ⟨k,hk⟩:=hm r hr
      have:=h4 k r hk
      unfold wX at this
      split at this
      · simp only [Bool.and_eq_true] at this;exact this.1
      · simp only [decide_eq_true_eq] at this;rw [this];exact KX
    · have:=h4 k r hk
      unfold wX at this
      rw [if_pos hl] at this
      simp only [Bool.and_eq_true] at this
      exact this.2
  · intro h
    refine ⟨by have:=h.len;omega,h.Jp,h.PI,fun k r hr=>?_,h.sum⟩
    unfold wX
    have hm:=List.mem_of_getElem? hr
    cases hl:r.live
    · simp [h.dead r hm hl]
    · simp [h.qw r hm,h.lead k r hr hl]
theorem FB {N:Nat} (hN:pR≤N) {t:List pW} (hB:t.length<pR):wQ N t=some (ua t):=by
  unfold wQ ua
  rw [zR hN,Option.bind_some]
  cases h:r7 t
  · rfl
  have ht:=xG.1 h
  simp only [Bool.not_true,cond_false,if_true]
  rw [show ((0:Int),(0:Int),(0:Int),(0:Int))=(fun (k:Nat) (s:qa)=>((k:Int),s.bh,s.pU,s.qc)) 0 ⟨0,0,0⟩ from rfl,
    tn t (fun (k:Nat) (s:qa)=>((k:Int),s.bh,s.pU,s.qc)) (fun _ s r=>qG s r.qw) (fun s=>((t.length:Int),s.bh,s.pU,s.qc)) (fun _ _=>True) ?_ ?_ (Nat.lt_of_lt_of_le hB hN) trivial,uE,Gm t _ NA.zero fun r hr hl=>by rw [ht.dead r hr hl];rfl]
  · rfl
  · intro k s r hy hk _
    simp only [qS hk,cond_true,qx,hy,Option.bind_some,zK,qV (Nat.lt_trans hk hB)]
    exact ⟨trivial,trivial⟩
  · intro s _
    simp only [qR,cond_false]
def held (p:cd):Int:=((p.heap.ag.take 10).filter sn).foldl (fun n o=>IntKind.i64.wrap (n+o.bh)) 0
theorem foldl_filter {α β:Type} (p:α→Bool) (g:β→α→β):∀ (l:List α) (b:β),(l.filter p).foldl g b=l.foldl (fun b y=>if p y then g b y else b) b
  | [],_=>rfl
  | y::l,b=>by
    rw [List.filter_cons,List.foldl_cons]
    cases h:p y
    · simp [foldl_filter p g l]
    · simp [foldl_filter p g l]
theorem foldl_map' {α β γ:Type} (f:α→γ) (g:β→γ→β):∀ (l:List α) (b:β),(l.map f).foldl g b=l.foldl (fun b y=>g b (f y)) b
  | [],_=>rfl
  | y::l,b=>by simp [foldl_map' f g l]
theorem Fv {α β:Type} (p:α→Bool) (h:α→β):∀ (l:List α) (k:Nat),tK (fun _ y=>p y) (fun _ y=>h y) k l=(l.filter p).map h
  | [],_=>rfl
  | y::l,k=>by
    unfold tK
    rw [Fv p h l,List.filter_cons]
    split <;> simp
theorem NM {N:Nat} (hN:pR≤N) {p:cd} (hb:qm p<pR) (hw:wP p):A8 N p=some (held p):=by
  have h4:=(sc hb).2.2.2.1
  have hl:=rQ h4
  have hN':16777216≤N:=hN
  unfold A8 held
  rw [foldl_filter,show ((0:Int),(0:Int))=(fun (k:Nat) (n:Int)=>(n,(k:Int))) 0 0 from rfl,
    tn (p.heap.ag.take 10) (fun (k:Nat) (n:Int)=>(n,(k:Int))) (fun _ n o=>if sn o then IntKind.i64.wrap (n+o.bh) else n) (fun n=>(n,(((p.heap.ag.take 10).length:Nat):Int))) (fun _ _=>True) ?_ ?_ (by simp;omega) trivial,uE]
  · rfl
  · intro k n y hy hk _
    have hk2:k<10∧k<p.heap.ag.length:=by simp at hk;omega
    rw [List.getElem?_take_of_lt hk2.1] at hy
    have hm:=List.mem_of_getElem? hy
    have h3:decide ((k:Int)<10)=true:=by simp;omega
    refine ⟨?_,trivial⟩
    simp only [qS hk2.2,h3,cond_true,qx,hy,Option.bind_some,Ir hN (rp h4 hm) (hw y hm),qV (show k<pR from Nat.lt_trans hk2.1 (by decide))]
    cases sn y <;> rfl
  · intro n _
    simp only [List.length_take]
    rcases Nat.lt_or_ge 10 p.heap.ag.length with h | h
    · have e:min 10 p.heap.ag.length=10:=by omega
      have h3:decide (((10:Nat):Int)<(p.heap.ag.length:Int))=true:=by simp;omega
      simp only [e,h3,cond_true];rfl
    · have e:min 10 p.heap.ag.length=p.heap.ag.length:=by omega
      simp only [e,qR,cond_false,Option.bind_some]
def view (o:eg):vy:=vy.mk o.gen o.kind o.box o.res o.qp o.bh o.wait o.qo o.qq o.mark
theorem OW (n:Nat):(if (10:Int)<(n:Int) then (10:Int) else (n:Int))=((min 10 n:Nat):Int):=by split <;> omega
theorem FH {N:Nat} (hN:pR≤N) {p:cd} (hb:qm p<pR):ve N p=some (((p.heap.ag.take 10).filter sn).map view):=by
  have h4:=(sc hb).2.2.2.1
  have h10:qZ qd (p.heap.ag.take 10)<pR:=Nat.lt_of_le_of_lt (KR _ _ _) h4
  have hl:=rQ h10
  unfold ve
  have e:p.heap.ag.take (min 10 p.heap.ag.length)=p.heap.ag.take 10:=by
    rcases Nat.lt_or_ge 10 p.heap.ag.length with h | h
    · rw [show min 10 p.heap.ag.length=10 by omega]
    · rw [show min 10 p.heap.ag.length=p.heap.ag.length by omega,List.take_of_length_le h,List.take_length]
  rw [OW,Dy (by omega),e,Option.bind_some,yS (p.heap.ag.take 10) (fun _ o=>sn o) (fun _ o=>view o) hl hN,Fv]
  · rfl
  · intro k t y hy hk ht
    have hz:=rp h10 (List.mem_of_getElem? hy)
    simp only [qS hk,cond_true,qx,hy,Option.bind_some,IH hN hz,qV (Nat.lt_trans hk hl),uq ht (Nat.lt_of_le_of_lt hk hl)]
    cases sn y <;> rfl
  · intro t
    simp only [qR,cond_false]
theorem Ng {N:Nat} (hN:pR≤N) {p:cd} (hb:qm p<pR):Bf N p=some (held p):=by
  unfold Bf held
  rw [FH hN hb,Option.bind_some]
  have hl:(((p.heap.ag.take 10).filter sn).map view).length<pR:=by
    have h1:=List.length_filter_le sn (p.heap.ag.take 10)
    have h2:(16777216:Nat)=pR:=rfl
    simp only [List.length_map]
    simp only [List.length_take] at h1
    omega
  have e:=foldl_map' view (fun (n:Int) (o:vy)=>IntKind.i64.wrap (n+o.bh)) ((p.heap.ag.take 10).filter sn) 0
  generalize ((p.heap.ag.take 10).filter sn).map view=v at *
  rw [show ((0:Int),(0:Int))=(fun (k:Nat) (n:Int)=>(n,(k:Int))) 0 0 from rfl,
    tn v (fun (k:Nat) (n:Int)=>(n,(k:Int))) (fun _ n o=>IntKind.i64.wrap (n+o.bh)) (fun n=>(n,(v.length:Int))) (fun _ _=>True) ?_ ?_ (Nat.lt_of_lt_of_le hl hN) trivial,uE,e]
  · rfl
  · intro k n y hy hk _
    simp only [qS hk,cond_true,qx,hy,Option.bind_some,qV (Nat.lt_trans hk hl)]
    exact ⟨trivial,trivial⟩
  · intro n _
    simp only [qR,cond_false]
def xI (p:cd):qa:=if qX p.dz then qG ⟨IntKind.i64.wrap ((ua p.tree).bh+held p),(ua p.tree).pU,(ua p.tree).qc⟩ p.dz else ua p.tree
theorem Ks {N:Nat} (hN:pR≤N) {p:cd} (hb:qm p<pR):yi N p=some (xI p):=by
  unfold yi xI
  simp only [FB hN (sc hb).2.2.1,xH,Ng hN hb,zK,Option.bind_some]
  cases qX p.dz <;> rfl
theorem Kv {N:Nat} (hN:pR≤N) {p:cd} (hb:qm p<pR) (hw:wP p):xY N p=some (xI p):=by
  unfold xY xI
  simp only [KF hN (sc hb).2.2.1,yF,NM hN hb hw,Option.bind_some]
  cases qX p.dz <;> rfl
def A9 (s:qa) (l:List cd):qa:=l.foldl (fun s p=>qG s (xI p)) s
def sx (w:ql):Bool:=qg w.now 0 1000000&&(qg (w.parts.length:Int) 1 3&&(w.parts.all rV&&qX (A9 ⟨0,0,0⟩ w.parts)))
def wW (l:List cd):Prop:=∀ p,p ∈ l→wP p
theorem Ni {w:ql} (h:Fit.fit w):wW w.parts:=fun p hp=>M8 (h.2.2 p hp)
theorem Li {N:Nat} (hN:pR≤N) {l:List cd} (hb:qZ qm l<pR) (hw:wW l):zq N l=some (A9 ⟨0,0,0⟩ l):=by
  have hB:=rQ hb
  unfold zq A9
  rw [show ((0:Int),(0:Int),(0:Int),(0:Int))=(fun (k:Nat) (s:qa)=>((k:Int),s.bh,s.pU,s.qc)) 0 ⟨0,0,0⟩ from rfl,
    tn l (fun (k:Nat) (s:qa)=>((k:Int),s.bh,s.pU,s.qc)) (fun _ s p=>qG s (xI p)) (fun s=>((l.length:Int),s.bh,s.pU,s.qc)) (fun _ _=>True) ?_ ?_ (Nat.lt_of_lt_of_le hB hN) trivial,uE]
  · rfl
  · intro k s p hy hk _
    have hm:=List.mem_of_getElem? hy
    simp only [qS hk,cond_true,qx,hy,Option.bind_some,Kv hN (rp hb hm) (hw p hm),qV (Nat.lt_trans hk hB)]
    exact ⟨rfl,trivial⟩
  · intro s _
    simp only [qR,cond_false]
theorem Kp {N:Nat} (hN:pR≤N) {w:ql} (hb:qZ qm w.parts<pR) (hw:wW w.parts):yv N w=some (sx w):=by
  have hB:=rQ hb
  unfold yv sx
  simp only [uk,Option.bind_some,sG]
  cases qg w.now 0 1000000
  · rfl
  cases qg (w.parts.length:Int) 1 3
  · rfl
  simp only [Bool.not_true,Bool.or_self,cond_false,Bool.true_and]
  rw [rT w.parts (fun _ p=>rV p) (.inl (w.parts.length:Int)) (.inr false) (Nat.lt_of_lt_of_le hB hN),si]
  · simp only [Option.bind_some,Li hN hb hw,yF]
    cases w.parts.all rV <;> rfl
  · intro k y hy hk
    have hm:=List.mem_of_getElem? hy
    simp only [qS hk,cond_true,qx,hy,Option.bind_some,DJ hN (rp hb hm) (hw y hm),qV (Nat.lt_trans hk hB)]
    cases rV y <;> rfl
  · simp only [qR,cond_false]
theorem Ke {N:Nat} (hN:pR≤N) {w:ql} (hb:qZ qm w.parts<pR):yq N w=some (sx w):=by
  have hB:=rQ hb
  unfold yq sx
  simp only [Bn,ud,Option.bind_some,sG]
  cases qg w.now 0 1000000
  · rfl
  cases qg (w.parts.length:Int) 1 3
  · rfl
  simp only [Bool.not_true,Bool.or_self,cond_false,Bool.true_and]
  rw [show ((0:Int),(0:Int),(0:Int),(0:Int))=(fun (k:Nat) (s:qa)=>((k:Int),s.bh,s.pU,s.qc)) 0 ⟨0,0,0⟩ from rfl,
    uC w.parts (fun (k:Nat) (s:qa)=>((k:Int),s.bh,s.pU,s.qc)) (fun _ s p=>if rV p then .inl (qG s (xI p)) else .inr (.inr false)) (fun s=>.inl ((w.parts.length:Int),s.bh,s.pU,s.qc)) (fun _ _=>True) ?_ ?_ (Nat.lt_of_lt_of_le hB hN) trivial]
  · simp only [Option.bind_some,xH]
    have key:∀ (l:List cd) (k:Nat) (s:qa),Sum.elim (fun (o56:Int×Int×Int×Int)=>some (qX (qa.mk o56.2.1 o56.2.2.1 o56.2.2.2))) (fun r61=>some r61) (tg (fun _ s p=>if rV p then .inl (qG s (xI p)) else .inr (.inr false)) (fun s=>.inl ((w.parts.length:Int),s.bh,s.pU,s.qc)) k s l)=some (l.all rV&&qX (A9 s l)):=by
      intro l
      induction l with
      | nil=>intro k s;rfl
      | cons p l ih =>
        intro k s
        unfold tg
        rw [List.all_cons]
        cases hp:rV p
        · rfl
        · simpa [A9] using ih (k+1) (qG s (xI p))
    exact key w.parts 0 _
  · intro k s p hy hk _
    have hm:=List.mem_of_getElem? hy
    refine ⟨?_,fun _ _=>trivial⟩
    simp only [qS hk,cond_true,qx,hy,Option.bind_some,DS hN (rp hb hm),Ks hN (rp hb hm),zK,qV (Nat.lt_trans hk hB)]
    cases rV p <;> rfl
  · intro s _
    simp only [qR,cond_false]
end Go.Kx
/- Plain laws: handles. No program in sight. -/
namespace Go.Kx
open Go
set_option linter.unusedVariables false
set_option linter.unusedSimpArgs false
set_option maxRecDepth 10000
def uh (h:Int):Bool:=qg h 0 29999
def uy (h:Int):Int:=if uh h then h % 3 else -1
def uu (h:Int):Int:=if uh h then h / 3 % 10 else -1
def DG (h:Int):Int:=if uh h then h / 3 / 10 else -1
theorem Ew {h:Int}:uh h=true ↔ 0≤h∧h≤29999:=rL
theorem hdiv {h:Int} (q:uh h=true):IntKind.i64.wrap (Int.tdiv h 3)=h / 3∧Int.tmod h 3=h % 3∧Int.tmod (h / 3) 10=h / 3 % 10∧IntKind.i64.wrap (Int.tdiv (h / 3) 10)=h / 3 / 10:=by
  rw [Ew] at q
  have h3:0≤h / 3:=by omega
  refine ⟨?_,Int.tmod_eq_emod_of_nonneg q.1,Int.tmod_eq_emod_of_nonneg h3,?_⟩
  · rw [Int.tdiv_eq_ediv_of_nonneg q.1,rN (by omega) (by omega)]
  · rw [Int.tdiv_eq_ediv_of_nonneg h3,rN (by omega) (by omega)]
theorem A1 (N:Nat) (h:Int):tH N h=some (uy h):=by
  unfold tH uy
  rw [wg,Option.bind_some]
  cases q:qg h 0 29999
  · simp [uh,q]
  · simp [uh,q,(hdiv (h:=h) q).2.1]
theorem Ba (N:Nat) (h:Int):tF N h=some (uy h):=by
  unfold tF uy
  rw [xF,Option.bind_some]
  cases q:qg h 0 29999
  · simp [uh,q]
  · simp [uh,q,(hdiv (h:=h) q).2.1]
theorem GZ (N:Nat) (h:Int):vN N h=some (uu h):=by
  unfold vN uu
  rw [wg,Option.bind_some]
  cases q:qg h 0 29999
  · simp [uh,q]
  · simp [uh,q,(hdiv (h:=h) q).1,(hdiv (h:=h) q).2.2.1]
theorem GM (N:Nat) (h:Int):vJ N h=some (uu h):=by
  unfold vJ uu
  rw [xF,Option.bind_some]
  cases q:qg h 0 29999
  · simp [uh,q]
  · simp [uh,q,(hdiv (h:=h) q).1,(hdiv (h:=h) q).2.2.1]
theorem HC (N:Nat) (h:Int):wz N h=some (DG h):=by
  unfold wz DG
  rw [wg,Option.bind_some]
  cases q:qg h 0 29999
  · simp [uh,q]
  · simp [uh,q,(hdiv (h:=h) q).1,(hdiv (h:=h) q).2.2.2]
theorem HR (N:Nat) (h:Int):wk N h=some (DG h):=by
  unfold wk DG
  rw [xF,Option.bind_some]
  cases q:qg h 0 29999
  · simp [uh,q]
  · simp [uh,q,(hdiv (h:=h) q).1,(hdiv (h:=h) q).2.2.2]
def zH (p i g:Int):Int:=if qg p 0 2&&(qg i 0 9&&qg g 0 999) then IntKind.i64.wrap ((IntKind.i64.wrap ((IntKind.i64.wrap ((IntKind.i64.wrap (g * 10))+i)) * 3))+p) else -1
theorem Ec (N:Nat) (p i g:Int):vO N p i g=some (zH p i g):=by
  unfold vO zH
  simp only [DF,zT,ud,Option.bind_some,sG]
  cases qg p 0 2 <;> cases qg i 0 9 <;> cases qg g 0 999 <;> rfl
theorem Ek (N:Nat) (p i g:Int):vC N p i g=some (zH p i g):=by
  unfold vC zH
  simp only [yz,uk,Option.bind_some,sG]
  cases qg p 0 2 <;> cases qg i 0 9 <;> cases qg g 0 999 <;> rfl
theorem Kj {h:Int} (q:0≤uy h):uh h=true∧0≤uu h∧uu h≤9:=by
  unfold uy at q
  unfold uu
  cases hk:uh h
  · simp [hk] at q
  · rw [Ew] at hk
    simp only [if_true]
    exact ⟨trivial,by omega,by omega⟩
def ru (w:ql) (p:Int):Bool:=qg p 0 ((w.parts.length:Int) - 1)
theorem ER {N:Nat} {w:ql} (hl:w.parts.length<pR) (p:Int):wM N w p=some (ru w p):=by
  have hl:w.parts.length<16777216:=hl
  unfold wM ru
  rw [ud,rN (by omega) (by omega)];rfl
theorem rU {w:ql} {p:Int} (h:ru w p=true):idx w.parts p=some (nth w.parts p)∧nth w.parts p ∈ w.parts:=by
  unfold ru at h
  rw [rL] at h
  exact ⟨rl h.1 (by omega),zJ h.1 (by omega)⟩
end Go.Kx
/- The plain law of 'FnExactOwning'. No program in sight. -/
namespace Go.Kx
open Go
set_option linter.unusedVariables false
set_option linter.unusedSimpArgs false
set_option maxRecDepth 10000
theorem Cr {N:Nat} (hN:pR≤N) {own:List Int} {a b:rm} (ho:own.length<pR) (ha:a.levels.length<pR) (hb:b.levels.length<pR):uJ N own a b=some (xx own a b):=by
  unfold uJ xx
  simp only [Iv hN ho,CD hN ha,CD hN hb,Option.bind_some,sG]
  cases h1:z7 own
  · rfl
  cases h2:tE a
  · rfl
  cases h3:tE b
  · rfl
  have l2:=(zW.1 h2).1
  have l3:=(zW.1 h3).1
  simp only [Bool.not_true,Bool.or_self,cond_false,Bool.true_and]
  rw [Nc a.levels l2 (fun k y=>!decide (y > (b.levels[k]?).getD 0) || own.contains (k:Int)) (.inl 4) (.inr false) hN]
  · simp only [Option.bind_some]
    cases allI _ 0 a.levels <;> rfl
  · intro k y hy hk hd
    have hz:b.levels[k]?=some (b.levels[k]'(by omega)):=List.getElem?_eq_getElem _
    simp only [hd,cond_true,qx,hy,hz,Option.bind_some,Option.getD_some,BU hN ho,qV (show k<pR from Nat.lt_trans hk (by decide))]
    cases decide (y > b.levels[k]'(by omega)) <;> cases own.contains (k:Int) <;> rfl
  · rfl
def target (p:Int) (c:qn):Int:=if (c.kind==7) || (c.kind==17) then uy c.a else if c.kind==16 then c.b else p
def other (w:ql) (p:Int) (c:qn):Int:=if ru w (target p c) then target p c else -1
theorem H7 {N:Nat} {w:ql} (hl:w.parts.length<pR) (p:Int) (c:qn):wt N w p c=some (other w p c):=by
  unfold wt other target
  simp only [A1,ER hl,Option.bind_some]
  cases c.kind==7 <;> cases c.kind==17 <;> cases c.kind==16 <;> simp only [cond_true,cond_false,Option.bind_some,Bool.or_self,Bool.or_true,Bool.true_or,Bool.or_false,if_true,if_false,Bool.false_eq_true] <;>
    first | (cases ru w (uy c.a) <;> rfl) | (cases ru w c.b <;> rfl) | (cases ru w p <;> rfl)
theorem HD {N:Nat} {w:ql} (hl:w.parts.length<pR) (p:Int) (c:qn):wv N w p c=some (other w p c):=by
  have hl:w.parts.length<16777216:=hl
  unfold wv other target ru
  simp only [Ba,uk,Option.bind_some]
  rw [rN (by omega) (by omega)]
  cases c.kind==7 <;> cases c.kind==17 <;> cases c.kind==16 <;> simp only [cond_true,cond_false,Option.bind_some,Bool.or_self,Bool.or_true,Bool.true_or,Bool.or_false,if_true,if_false,Bool.false_eq_true] <;>
    first | (cases qg (uy c.a) 0 ((w.parts.length:Int) - 1) <;> rfl) | (cases qg c.b 0 ((w.parts.length:Int) - 1) <;> rfl) | (cases qg p 0 ((w.parts.length:Int) - 1) <;> rfl)
theorem Ap {w:ql} {p:Int} {c:qn} (h:decide (other w p c<0)=false):ru w (other w p c)=true:=by
  unfold other at h ⊢
  cases hp:ru w (target p c)
  · simp [hp] at h
  · simp [hp]
end Go.Kx
/- Plain laws: what may run; what is safe to collect. No program in sight. -/
namespace Go.Kx
open Go
set_option linter.unusedVariables false
set_option linter.unusedSimpArgs false
set_option maxRecDepth 10000
theorem yN {t:List pW} (h:r7 t=true):t.length=5:=(xG.1 h).len
def wU (p:cd) (i:Int):Int:=if r7 p.tree&&ri p.tree i then i else 0
theorem tM {t:List pW} {i:Int} (h:ri t i=true):0≤i∧i≤4:=by
  unfold ri at h
  simp only [Bool.and_eq_true,rL] at h
  exact h.1
theorem FA (p:cd) (i:Int):0≤wU p i∧wU p i≤4:=by
  unfold wU
  split
  · rename_i h
    simp only [Bool.and_eq_true] at h
    exact tM h.2
  · omega
theorem IE {N:Nat} (hN:pR≤N) (p:cd) (i:Int):zf N p i=some (wU p i):=by
  unfold zf wU
  rw [zR hN,Option.bind_some]
  cases h:r7 p.tree
  · rfl
  · simp only [Bool.not_true,cond_false,yD N (yN h),Option.bind_some,Bool.true_and]
    cases ri p.tree i <;> rfl
theorem zP {N:Nat} (hN:pR≤N) (t:List pW) (i:Int):tN N t i=some (r7 t&&ri t i):=by
  unfold tN ri
  simp only [Ci hN,AX,Option.bind_some]
  cases h:r7 t
  · rfl
  have hl:=yN h
  cases hi:qg i 0 4
  · rfl
  · simp only [cond_true,Eo hi (by omega) (show (4:Int)<(t.length:Int) by omega),Option.bind_some,Bool.true_and]
theorem ID {N:Nat} (hN:pR≤N) (p:cd) (i:Int):zh N p i=some (wU p i):=by
  unfold zh wU
  rw [zP hN,Option.bind_some]
  cases (r7 p.tree&&ri p.tree i) <;> rfl
theorem BL {p:cd} (h:rV p=true):r7 p.tree=true:=by
  unfold rV at h
  simp only [Bool.and_eq_true] at h
  exact h.2.2.1
theorem Iu {p:cd} (h:rV p=true) {i:Int} (h0:0≤i) (h4:i≤4):idx p.tree i=some (nth p.tree i):=rl h0 (by have:=yN (BL h);omega)
def D7 (p:cd) (i:Int):qa:=(nth p.tree (wU p (nth p.heap.ag i).res)).qw
theorem M1 {N:Nat} (hN:pR≤N) {p:cd} (h:rV p=true) {i:Int} (h0:0≤i) (h9:i≤9):Ak N p i=some (D7 p i):=by
  unfold Ak D7
  obtain ⟨r0,r4⟩:=FA p (nth p.heap.ag i).res
  simp only [((uH h).at h0 h9).1,Option.bind_some,IE hN,Iu h r0 r4]
end Go.Kx
/- Plain laws: who is NH, who OK. No program in sight. -/
namespace Go.Kx
open Go
set_option linter.unusedVariables false
set_option linter.unusedSimpArgs false
set_option maxRecDepth 10000
def better (p:cd) (v i:Int):Int:=if decide ((D7 p i).qc≤(D7 p v).qc) then i else v
def Hj (p:cd) (now:Int):Int:=match threads p now with
  | a::b::l=>(b::l).foldl (better p) a
  | _=>-1
theorem Jl {p:cd} {now y:Int} (h:y ∈ threads p now):rV p=true∧0≤y∧y≤9:=BB h
def yB (p:cd) (l:List eg):cd:=cd.mk p.label p.own p.tree (qe.mk l p.heap.gc) p.pN p.next p.want p.dz p.pV p.lost
def Kc (o:eg) (t:Int):eg:=eg.mk o.gen o.kind o.box o.res t o.bh o.wait o.qo o.qq o.mark o.pS o.data o.queue
def NH (p:cd) (now:Int):List eg:=if decide (Hj p now ≥ 0) then p.heap.ag.set (Hj p now).toNat (Kc (nth p.heap.ag (Hj p now)) (IntKind.i64.wrap (now - 1))) else p.heap.ag
def D5 (l:List eg) (now part h:Int):Bool:=(rX l&&(uh h&&(uy h==part)))&&(((nth l (uu h)).kind != 0)&&(((nth l (uu h)).gen==DG h)&&nth (reach l now) (uu h)))
def qb (l:List eg) (now part h:Int):Int:=bif D5 l now part h then uu h else -1
theorem DR {h:Int} (q:uh h=true):0≤uu h∧uu h≤9:=(Kj (h:=h) (by unfold uy;rw [q,if_pos rfl];rw [Ew] at q;omega)).2
theorem Ca {N:Nat} (hN:pR≤N) {l:List eg} (hb:qZ qd l<pR) (now part h:Int):uM N l now part h=some (qb l now part h):=by
  unfold uM qb D5
  simp only [IC hN hb,wg,A1,GZ,HC,Option.bind_some,sG]
  cases ha:rX l
  · have e:reach l now=[]:=by unfold reach;rw [ha];rfl
    rw [e];rfl
  have har:=sq.1 ha
  have hl:=w7 har now
  rw [show (((reach l now).length:Int)==0)=false by rw [hl];rfl,show qg h 0 29999=uh h from rfl]
  cases hh:uh h
  · rfl
  obtain ⟨s0,s9⟩:=DR hh
  simp only [bne,(har.at s0 s9).1,rl (l:=reach l now) s0 (by omega),Option.bind_some]
  cases uy h==part <;> cases (nth l (uu h)).kind==0 <;> cases (nth l (uu h)).gen==DG h <;> cases nth (reach l now) (uu h) <;> rfl
theorem Cf {N:Nat} (hN:pR≤N) {l:List eg} (hb:qZ qd l<pR) (hw:wA l) (now part h:Int):uN N l now part h=some (qb l now part h):=by
  unfold uN qb D5
  simp only [yW hN hb hw,Ii hN hb hw,xF,Ba,GM,HR,Option.bind_some,sG]
  cases ha:rX l
  · rfl
  have har:=sq.1 ha
  have hl:=w7 har now
  rw [show qg h 0 29999=uh h from rfl]
  cases hh:uh h
  · rfl
  obtain ⟨s0,s9⟩:=DR hh
  simp only [bne,(har.at s0 s9).1,rl (l:=reach l now) s0 (by omega),Option.bind_some]
  cases uy h==part <;> cases (nth l (uu h)).kind==0 <;> cases (nth l (uu h)).gen==DG h <;> cases nth (reach l now) (uu h) <;> rfl
def OU (p:cd) (me now:Int) (o:eg):Bool:=decide (o.wait > 0)&&decide (qb p.heap.ag now me (IntKind.i64.wrap (o.wait - 1))<0)
def OB (o:eg):eg:=eg.mk o.gen o.kind o.box o.res o.qp o.bh 0 (-1) o.qq o.mark o.pS o.data o.queue
def OK (p:cd) (me now:Int):List eg:=p.heap.ag.map fun o=>if OU p me now o then OB o else o
theorem G6 {α:Type} {body:List α×Int→Option ((List α×Int)⊕(List α×Int))} (x:List α) (f:α→α) {N:Nat} (hN:x.length<N)
    (hs:∀ (k:Nat) (t:List α) (y:α),t.length=x.length→t[k]?=some y→x[k]?=some y→k<x.length→body (t,(k:Int))=some (.inl (t.set k (f y),((k+1:Nat):Int))))
    (he:∀ t,t.length=x.length→body (t,(x.length:Int))=some (.inr (t,(x.length:Int)))):iter body N (x,0)=some (x.map f,(x.length:Int)):=by
  have key:∀ (r:List α) (d d':List α) (M:Nat),d'.length=d.length→x=d'++r→r.length<M→iter body M (d++r,(d.length:Int))=some (d++r.map f,(x.length:Int)):=by
    intro r
    induction r with
    | nil =>
      intro d d' M hd hx hM
      cases M with
      | zero=>simp at hM
      | succ M =>
        have e:d.length=x.length:=by rw [hx];simp [hd]
        unfold iter
        rw [List.append_nil,e,he d e];simp
    | cons y r ih =>
      intro d d' M hd hx hM
      cases M with
      | zero=>simp at hM
      | succ M =>
        have hlen:(d++y::r).length=x.length:=by rw [hx];simp [hd]
        unfold iter
        rw [hs d.length (d++y::r) y hlen (by rw [List.getElem?_append_right (Nat.le_refl _)];simp) (by rw [hx,List.getElem?_append_right (by omega)];simp [hd]) (by rw [← hlen];simp)]
        have e:(d++y::r).set d.length (f y)=(d++[f y])++r:=by rw [List.set_append_right _ _ (Nat.le_refl _)];simp
        have e2:d.length+1=(d++[f y]).length:=by simp
        simp only [Option.bind_some,e]
        rw [e2,ih (d++[f y]) (d'++[y]) M (by simp [hd]) (by rw [hx];simp) (by simp at hM;omega)]
        simp
  exact key x [] [] N rfl rfl hN
theorem BS {α:Type} {l:List α} {k:Nat} {y:α} (h:l[k]?=some y):l.set k y=l:=by
  apply List.ext_getElem? fun i=>?_
  rw [List.getElem?_set]
  split
  · rename_i e
    subst e
    rw [if_pos (rj h),h]
  · rfl
end Go.Kx
/- Plain laws: what is CH and CH back; who runs next. No program in sight. -/
namespace Go.Kx
open Go
set_option linter.unusedVariables false
set_option linter.unusedSimpArgs false
set_option maxRecDepth 10000
def yb (w n:Int):qa:=if w==0 then ⟨n,0,0⟩ else if w==1 then ⟨0,n,0⟩ else if w==2 then ⟨0,0,n⟩ else ⟨0,0,0⟩
theorem Lf (N:Nat) (w n:Int):zD N w n=some (yb w n):=by
  unfold zD yb
  cases w==0 <;> cases w==1 <;> cases w==2 <;> rfl
theorem Lk (N:Nat) (w n:Int):zv N w n=some (yb w n):=by
  unfold zv yb
  cases w==0 <;> cases w==1 <;> cases w==2 <;> rfl
def wK (a b:qa):Bool:=qX a&&(qX b&&(decide (a.bh≤b.bh)&&(decide (a.pU≤b.pU)&&decide (a.qc≤b.qc))))
theorem Kw (N:Nat) (a b:qa):yf N a b=some (wK a b):=by
  unfold yf wK
  simp only [xH,Option.bind_some,tD]
theorem J6 (N:Nat) (a b:qa):yu N a b=some (wK a b):=by
  unfold yu wK
  simp only [yF,Option.bind_some,tD]
def GW (a b:qa):qa:=⟨IntKind.i64.wrap (a.bh - b.bh),IntKind.i64.wrap (a.pU - b.pU),IntKind.i64.wrap (a.qc - b.qc)⟩
def B5 (a b:qa):qa×Bool:=if wK b a then (GW a b,true) else (a,false)
theorem Lz (N:Nat) (a b:qa):zA N a b=some (B5 a b):=by
  unfold zA B5
  rw [Kw,Option.bind_some]
  cases wK b a <;> rfl
theorem Lt (N:Nat) (a b:qa):zz N a b=some (B5 a b):=by
  unfold zz B5
  rw [J6,Option.bind_some]
  cases wK b a <;> rfl
def EF (r:pW) (b:qa):pW:=pW.mk r.live r.parent b
theorem zO {α:Type} [pX α] {l:List α} {i:Int} (h0:0≤i) (h1:i<(l.length:Int)):l[i.toNat]?=some (nth l i):=by
  have:=rl (l:=l) h0 h1
  unfold idx at this
  rwa [if_pos h0] at this
def rH (t:List pW) (f:Int) (a:qa):List pW×Bool :=
  if r7 t&&ri t f then (if wK a (nth t f).qw then (t.set f.toNat (EF (nth t f) (GW (nth t f).qw a)),true) else (t,false)) else (t,false)
theorem CO {N:Nat} (hN:pR≤N) {t:List pW} (hB:t.length<pR) (f:Int) (a:qa):vp N t f a=some (rH t f a):=by
  unfold vp rH
  simp only [we hB,zR hN,Option.bind_some]
  cases ht:r7 t
  · rfl
  have hl:=yN ht
  simp only [Bool.not_true,cond_false,yD N hl,Option.bind_some]
  cases hv:ri t f
  · rfl
  obtain ⟨f0,f4⟩:=tM hv
  simp only [Bool.not_true,cond_false,rl (l:=t) f0 (by omega),Lz,Option.bind_some,Bool.and_self,if_true]
  unfold B5
  cases wK a (nth t f).qw
  · have:t.set f.toNat (pW.mk (nth t f).live (nth t f).parent (qa.mk (nth t f).qw.bh (nth t f).qw.pU (nth t f).qw.qc))=t:=BS (zO f0 (by omega))
    simp only [Bool.false_eq_true,if_false]
    rw [this]
  · rfl
theorem Bw {N:Nat} (hN:pR≤N) {t:List pW} (hB:t.length<pR) (f:Int) (a:qa):uG N t f a=some (rH t f a):=by
  unfold uG rH
  simp only [wY hB,zP hN,Option.bind_some]
  cases h:(r7 t&&ri t f)
  · rfl
  rw [Bool.and_eq_true] at h
  have hl:=yN h.1
  obtain ⟨f0,f4⟩:=tM h.2
  simp only [Bool.not_true,cond_false,rl (l:=t) f0 (by omega),Lt,Option.bind_some,if_true]
  unfold B5
  cases wK a (nth t f).qw <;> rfl
theorem tP (t:List pW) (f:Int) (a:qa):(rH t f a).1.length=t.length:=by
  unfold rH
  split
  · split <;> simp
  · rfl
end Go.Kx
