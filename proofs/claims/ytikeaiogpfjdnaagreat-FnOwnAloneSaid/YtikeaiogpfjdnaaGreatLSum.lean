/- Plain laws: sums; what a right world is. No program in sight. -/
import Derived.Test.YtikeaiogpfjdnaaGreatLReach
namespace Go.Kx
open Go
set_option linter.unusedVariables false
set_option linter.unusedSimpArgs false
set_option maxRecDepth 10000
def NA (a:iB):Prop:=IntKind.i64.wrap a.cd=a.cd∧IntKind.i64.wrap a.ij=a.ij∧IntKind.i64.wrap a.iD=a.iD
theorem wrap_wrap (n:Int):IntKind.i64.wrap (IntKind.i64.wrap n)=IntKind.i64.wrap n:=by
  have:-9223372036854775808≤IntKind.i64.wrap n∧IntKind.i64.wrap n≤9223372036854775807:=by
    simp only [IntKind.wrap,IntKind.signed,IntKind.bits];simp;omega
  exact iX this.1 this.2
theorem NA.sum (a b:iB):NA (iZ a b):=⟨wrap_wrap _,wrap_wrap _,wrap_wrap _⟩
theorem NA.zero:NA ⟨0,0,0⟩:=⟨by decide,by decide,by decide⟩
theorem EW {a:iB} (h:NA a):iZ a ⟨0,0,0⟩=a:=by
  obtain ⟨h1,h2,h3⟩:=h
  unfold iZ
  simp only [Int.add_zero,h1,h2,h3]
def m8 (t:List iy):iB:=if ki t then jA ⟨0,0,0⟩ t else ⟨0,0,0⟩
theorem Ax:∀ (t:List iy) (s:iB),NA s→(∀ r,r ∈ t→r.live=false→r.iU=⟨0,0,0⟩)→t.foldl (fun s r=>iZ s r.iU) s=jA s t
  | [],s,_,_=>rfl
  | r::t,s,hs,h=>by
    unfold jA
    simp only [List.foldl_cons]
    cases hl:r.live
    · rw [h r (by simp) hl,EW hs]
      exact Ax t s hs fun x hx=>h x (by simp [hx])
    · exact Ax t _ (NA.sum _ _) fun x hx=>h x (by simp [hx])
structure Tr (t:List iy):Prop where
  len:t.length=5
  C4:(nth t 0).live=true
  It:(nth t 0).parent=-1
  dead:∀ r,r ∈ t→r.live=false→r=tS
  iU:∀ r,r ∈ t→je r.iU=true
  lead:∀ (k:Nat) (r:iy),t[k]?=some r→r.live=true→leads t 5 (k:Int)=true
  sum:je (jA ⟨0,0,0⟩ t)=true
theorem E0:je tS.iU=true:=by decide
theorem qb {t:List iy}:ki t=true ↔ Tr t:=by
  unfold ki
  simp only [Bool.and_eq_true,Bool.not_eq_true',bne_eq_false_iff_eq,nJ,Nat.zero_add]
  constructor
  · rintro ⟨h1,h2,h3,h4,h5⟩
    have hm:∀ r,r ∈ t→∃ k:Nat,t[k]?=some r:=fun o ho=>List.getElem?_of_mem ho
    refine ⟨by omega,h2,h3,fun r hr hl=>?_,fun r hr=>?_,fun k r hk hl=>?_,h5⟩
    · obtain ⟨k,hk⟩:=hm r hr
      have:=h4 k r hk
      unfold pe at this
      simpa [hl] using this
    · obtain ⟨k,hk⟩:=hm r hr
      have:=h4 k r hk
      unfold pe at this
      split at this
      · simp only [Bool.and_eq_true] at this;exact this.1
      · simp only [decide_eq_true_eq] at this;rw [this];exact E0
    · have:=h4 k r hk
      unfold pe at this
      rw [if_pos hl] at this
      simp only [Bool.and_eq_true] at this
      exact this.2
  · intro h
    refine ⟨by have:=h.len;omega,h.C4,h.It,fun k r hr=>?_,h.sum⟩
    unfold pe
    have hm:=List.mem_of_getElem? hr
    cases hl:r.live
    · simp [h.dead r hm hl]
    · simp [h.iU r hm,h.lead k r hr hl]
theorem yQ {N:Nat} (hN:im≤N) {t:List iy} (hB:t.length<im):oS N t=some (m8 t):=by
  unfold oS m8
  rw [sP hN,Option.bind_some]
  cases h:ki t
  · rfl
  have ht:=qb.1 h
  simp only [Bool.not_true,cond_false,if_true]
  rw [show ((0:Int),(0:Int),(0:Int),(0:Int))=(fun (k:Nat) (s:iB)=>((k:Int),s.cd,s.ij,s.iD)) 0 ⟨0,0,0⟩ from rfl,
    lB t (fun (k:Nat) (s:iB)=>((k:Int),s.cd,s.ij,s.iD)) (fun _ s r=>iZ s r.iU) (fun s=>((t.length:Int),s.cd,s.ij,s.iD)) (fun _ _=>True) ?_ ?_ (Nat.lt_of_lt_of_le hB hN) trivial,nE,Ax t _ NA.zero fun r hr hl=>by rw [ht.dead r hr hl];rfl]
  · rfl
  · intro k s r hy hk _
    simp only [jt hk,cond_true,iT,hy,Option.bind_some,sD,jx (Nat.lt_trans hk hB)]
    exact ⟨trivial,trivial⟩
  · intro s _
    simp only [jr,cond_false]
def held (p:gE):Int:=((p.heap.ag.take 10).filter kt).foldl (fun n o=>IntKind.i64.wrap (n+o.cd)) 0
theorem foldl_map' {α β γ:Type} (f:α→γ) (g:β→γ→β):∀ (l:List α) (b:β),(l.map f).foldl g b=l.foldl (fun b y=>g b (f y)) b
  | [],_=>rfl
  | y::l,b=>by simp [foldl_map' f g l]
theorem za {α β:Type} (p:α→Bool) (h:α→β):∀ (l:List α) (k:Nat),lR (fun _ y=>p y) (fun _ y=>h y) k l=(l.filter p).map h
  | [],_=>rfl
  | y::l,k=>by
    unfold lR
    rw [za p h l,List.filter_cons]
    split <;> simp
def view (o:bh):nP:=nP.mk o.gen o.kind o.box o.res o.iL o.cd o.wait o.iK o.iM o.mark
theorem Hy (n:Nat):(if (10:Int)<(n:Int) then (10:Int) else (n:Int))=((min 10 n:Nat):Int):=by split <;> omega
theorem zM {N:Nat} (hN:im≤N) {p:gE} (hb:jh p<im):nj N p=some (((p.heap.ag.take 10).filter kt).map view):=by
  have h4:=(ny hb).2.2.2.1
  have h10:jl iA (p.heap.ag.take 10)<im:=Nat.lt_of_le_of_lt (Er _ _ _) h4
  have hl:=o7 h10
  unfold nj
  have e:p.heap.ag.take (min 10 p.heap.ag.length)=p.heap.ag.take 10:=by
    rcases Nat.lt_or_ge 10 p.heap.ag.length with h | h
    · rw [show min 10 p.heap.ag.length=10 by omega]
    · rw [show min 10 p.heap.ag.length=p.heap.ag.length by omega,List.take_of_length_le h,List.take_length]
  rw [Hy,vn (by omega),e,Option.bind_some,ru (p.heap.ag.take 10) (fun _ o=>kt o) (fun _ o=>view o) hl hN,za]
  · rfl
  · intro k t y hy hk ht
    have hz:=nS h10 (List.mem_of_getElem? hy)
    simp only [jt hk,cond_true,iT,hy,Option.bind_some,Cb hN hz,jx (Nat.lt_trans hk hl),kV ht (Nat.lt_of_le_of_lt hk hl)]
    cases kt y <;> rfl
  · intro t
    simp only [jr,cond_false]
theorem GO {N:Nat} (hN:im≤N) {p:gE} (hb:jh p<im):tW N p=some (held p):=by
  unfold tW held
  rw [zM hN hb,Option.bind_some]
  have hl:(((p.heap.ag.take 10).filter kt).map view).length<im:=by
    have h1:=List.length_filter_le kt (p.heap.ag.take 10)
    have h2:(16777216:Nat)=im:=rfl
    simp only [List.length_map]
    simp only [List.length_take] at h1
    omega
  have e:=foldl_map' view (fun (n:Int) (o:nP)=>IntKind.i64.wrap (n+o.cd)) ((p.heap.ag.take 10).filter kt) 0
  generalize ((p.heap.ag.take 10).filter kt).map view=v at *
  rw [show ((0:Int),(0:Int))=(fun (k:Nat) (n:Int)=>(n,(k:Int))) 0 0 from rfl,
    lB v (fun (k:Nat) (n:Int)=>(n,(k:Int))) (fun _ n o=>IntKind.i64.wrap (n+o.cd)) (fun n=>(n,(v.length:Int))) (fun _ _=>True) ?_ ?_ (Nat.lt_of_lt_of_le hl hN) trivial,nE,e]
  · rfl
  · intro k n y hy hk _
    simp only [jt hk,cond_true,iT,hy,Option.bind_some,jx (Nat.lt_trans hk hl)]
    exact ⟨trivial,trivial⟩
  · intro n _
    simp only [jr,cond_false]
def tE (p:gE):iB:=if je p.dW then iZ ⟨IntKind.i64.wrap ((m8 p.tree).cd+held p),(m8 p.tree).ij,(m8 p.tree).iD⟩ p.dW else m8 p.tree
theorem Eg {N:Nat} (hN:im≤N) {p:gE} (hb:jh p<im):qu N p=some (tE p):=by
  unfold qu tE
  simp only [yQ hN (ny hb).2.2.1,qn,GO hN hb,sD,Option.bind_some]
  cases je p.dW <;> rfl
def xu (s:iB) (l:List gE):iB:=l.foldl (fun s p=>iZ s (tE p)) s
def sE (w:jw):Bool:=iG w.now 0 1000000&&(iG (w.parts.length:Int) 1 3&&(w.parts.all kh&&je (xu ⟨0,0,0⟩ w.parts)))
def wW (l:List gE):Prop:=∀ p,p ∈ l→wP p
theorem Dy {N:Nat} (hN:im≤N) {w:jw} (hb:jl jh w.parts<im):qJ N w=some (sE w):=by
  have hB:=o7 hb
  unfold qJ sE
  simp only [tJ,mj,Option.bind_some,kO]
  cases iG w.now 0 1000000
  · rfl
  cases iG (w.parts.length:Int) 1 3
  · rfl
  simp only [Bool.not_true,Bool.or_self,cond_false,Bool.true_and]
  rw [show ((0:Int),(0:Int),(0:Int),(0:Int))=(fun (k:Nat) (s:iB)=>((k:Int),s.cd,s.ij,s.iD)) 0 ⟨0,0,0⟩ from rfl,
    mJ w.parts (fun (k:Nat) (s:iB)=>((k:Int),s.cd,s.ij,s.iD)) (fun _ s p=>if kh p then .inl (iZ s (tE p)) else .inr (.inr false)) (fun s=>.inl ((w.parts.length:Int),s.cd,s.ij,s.iD)) (fun _ _=>True) ?_ ?_ (Nat.lt_of_lt_of_le hB hN) trivial]
  · simp only [Option.bind_some,qn]
    have key:∀ (l:List gE) (k:Nat) (s:iB),Sum.elim (fun (o56:Int×Int×Int×Int)=>some (je (iB.mk o56.2.1 o56.2.2.1 o56.2.2.2))) (fun r61=>some r61) (lD (fun _ s p=>if kh p then .inl (iZ s (tE p)) else .inr (.inr false)) (fun s=>.inl ((w.parts.length:Int),s.cd,s.ij,s.iD)) k s l)=some (l.all kh&&je (xu s l)):=by
      intro l
      induction l with
      | nil=>intro k s;rfl
      | cons p l ih =>
        intro k s
        unfold lD
        rw [List.all_cons]
        cases hp:kh p
        · rfl
        · simpa [xu] using ih (k+1) (iZ s (tE p))
    exact key w.parts 0 _
  · intro k s p hy hk _
    have hm:=List.mem_of_getElem? hy
    refine ⟨?_,fun _ _=>trivial⟩
    simp only [jt hk,cond_true,iT,hy,Option.bind_some,xj hN (nS hb hm),Eg hN (nS hb hm),sD,jx (Nat.lt_trans hk hB)]
    cases kh p <;> rfl
  · intro s _
    simp only [jr,cond_false]
end Go.Kx
/- Plain laws: handles. No program in sight. -/
namespace Go.Kx
open Go
set_option linter.unusedVariables false
set_option linter.unusedSimpArgs false
set_option maxRecDepth 10000
def mu (h:Int):Bool:=iG h 0 29999
def m4 (h:Int):Int:=if mu h then h % 3 else -1
def mE (h:Int):Int:=if mu h then h / 3 % 10 else -1
def xt (h:Int):Int:=if mu h then h / 3 / 10 else -1
theorem yr {h:Int}:mu h=true ↔ 0≤h∧h≤29999:=jv
theorem hdiv {h:Int} (q:mu h=true):IntKind.i64.wrap (Int.tdiv h 3)=h / 3∧Int.tmod h 3=h % 3∧Int.tmod (h / 3) 10=h / 3 % 10∧IntKind.i64.wrap (Int.tdiv (h / 3) 10)=h / 3 / 10:=by
  rw [yr] at q
  have h3:0≤h / 3:=by omega
  refine ⟨?_,Int.tmod_eq_emod_of_nonneg q.1,Int.tmod_eq_emod_of_nonneg h3,?_⟩
  · rw [Int.tdiv_eq_ediv_of_nonneg q.1,iX (by omega) (by omega)]
  · rw [Int.tdiv_eq_ediv_of_nonneg h3,iX (by omega) (by omega)]
theorem tQ (N:Nat) (h:Int):lK N h=some (m4 h):=by
  unfold lK m4
  rw [oB,Option.bind_some]
  cases q:iG h 0 29999
  · simp [mu,q]
  · simp [mu,q,(hdiv (h:=h) q).2.1]
theorem vx (N:Nat) (h:Int):mP N h=some (m4 h):=by
  unfold mP m4
  rw [qk,Option.bind_some]
  cases q:iG h 0 29999
  · simp [mu,q]
  · simp [mu,q,(hdiv (h:=h) q).2.1]
theorem Bf (N:Nat) (h:Int):nX N h=some (mE h):=by
  unfold nX mE
  rw [oB,Option.bind_some]
  cases q:iG h 0 29999
  · simp [mu,q]
  · simp [mu,q,(hdiv (h:=h) q).1,(hdiv (h:=h) q).2.2.1]
theorem Ab (N:Nat) (h:Int):n9 N h=some (mE h):=by
  unfold n9 mE
  rw [qk,Option.bind_some]
  cases q:iG h 0 29999
  · simp [mu,q]
  · simp [mu,q,(hdiv (h:=h) q).1,(hdiv (h:=h) q).2.2.1]
theorem Bm (N:Nat) (h:Int):oF N h=some (xt h):=by
  unfold oF xt
  rw [oB,Option.bind_some]
  cases q:iG h 0 29999
  · simp [mu,q]
  · simp [mu,q,(hdiv (h:=h) q).1,(hdiv (h:=h) q).2.2.2]
theorem Bw (N:Nat) (h:Int):oH N h=some (xt h):=by
  unfold oH xt
  rw [qk,Option.bind_some]
  cases q:iG h 0 29999
  · simp [mu,q]
  · simp [mu,q,(hdiv (h:=h) q).1,(hdiv (h:=h) q).2.2.2]
def sM (p i g:Int):Int:=if iG p 0 2&&(iG i 0 9&&iG g 0 999) then IntKind.i64.wrap ((IntKind.i64.wrap ((IntKind.i64.wrap ((IntKind.i64.wrap (g * 10))+i)) * 3))+p) else -1
theorem xO (N:Nat) (p i g:Int):oc N p i g=some (sM p i g):=by
  unfold oc sM
  simp only [xh,sO,mj,Option.bind_some,kO]
  cases iG p 0 2 <;> cases iG i 0 9 <;> cases iG g 0 999 <;> rfl
theorem tA (N:Nat) (p i g:Int):lZ N p i g=some (sM p i g):=by
  unfold lZ sM
  simp only [rm,m6,Option.bind_some,kO]
  cases iG p 0 2 <;> cases iG i 0 9 <;> cases iG g 0 999 <;> rfl
theorem Ds {h:Int} (q:0≤m4 h):mu h=true∧0≤mE h∧mE h≤9:=by
  unfold m4 at q
  unfold mE
  cases hk:mu h
  · simp [hk] at q
  · rw [yr] at hk
    simp only [if_true]
    exact ⟨trivial,by omega,by omega⟩
def lz (w:jw) (p:Int):Bool:=iG p 0 ((w.parts.length:Int) - 1)
theorem zl {N:Nat} {w:jw} (hl:w.parts.length<im) (p:Int):o6 N w p=some (lz w p):=by
  have hl:w.parts.length<16777216:=hl
  unfold o6 lz
  rw [mj,iX (by omega) (by omega)];rfl
end Go.Kx
/- The plain law of 'FnExactOwning'. No program in sight. -/
namespace Go.Kx
open Go
set_option linter.unusedVariables false
set_option linter.unusedSimpArgs false
set_option maxRecDepth 10000
def target (p:Int) (c:iS):Int:=if (c.kind==7) || (c.kind==17) then m4 c.a else if c.kind==16 then c.b else p
def other (w:jw) (p:Int) (c:iS):Int:=if lz w (target p c) then target p c else -1
theorem BP {N:Nat} {w:jw} (hl:w.parts.length<im) (p:Int) (c:iS):oL N w p c=some (other w p c):=by
  unfold oL other target
  simp only [tQ,zl hl,Option.bind_some]
  cases c.kind==7 <;> cases c.kind==17 <;> cases c.kind==16 <;> simp only [cond_true,cond_false,Option.bind_some,Bool.or_self,Bool.or_true,Bool.true_or,Bool.or_false,if_true,if_false,Bool.false_eq_true] <;>
    first | (cases lz w (m4 c.a) <;> rfl) | (cases lz w c.b <;> rfl) | (cases lz w p <;> rfl)
theorem Ea {w:jw} {p:Int} {c:iS} (h:decide (other w p c<0)=false):lz w (other w p c)=true:=by
  unfold other at h ⊢
  cases hp:lz w (target p c)
  · simp [hp] at h
  · simp [hp]
end Go.Kx
/- Plain laws: what may run; what is safe to collect. No program in sight. -/
namespace Go.Kx
open Go
set_option linter.unusedVariables false
set_option linter.unusedSimpArgs false
set_option maxRecDepth 10000
theorem rH {t:List iy} (h:ki t=true):t.length=5:=(qb.1 h).len
def pj (p:gE) (i:Int):Int:=if ki p.tree&&jD p.tree i then i else 0
theorem lS {t:List iy} {i:Int} (h:jD t i=true):0≤i∧i≤4:=by
  unfold jD at h
  simp only [Bool.and_eq_true,jv] at h
  exact h.1
theorem yR (p:gE) (i:Int):0≤pj p i∧pj p i≤4:=by
  unfold pj
  split
  · rename_i h
    simp only [Bool.and_eq_true] at h
    exact lS h.2
  · omega
theorem Ce {N:Nat} (hN:im≤N) (p:gE) (i:Int):rR N p i=some (pj p i):=by
  unfold rR pj
  rw [sP hN,Option.bind_some]
  cases h:ki p.tree
  · rfl
  · simp only [Bool.not_true,cond_false,rk N (rH h),Option.bind_some,Bool.true_and]
    cases jD p.tree i <;> rfl
theorem tL {N:Nat} (hN:im≤N) (t:List iy) (i:Int):mB N t i=some (ki t&&jD t i):=by
  unfold mB jD
  simp only [xv hN,tC,Option.bind_some]
  cases h:ki t
  · rfl
  have hl:=rH h
  cases hi:iG i 0 4
  · rfl
  · simp only [cond_true,xH hi (by omega) (show (4:Int)<(t.length:Int) by omega),Option.bind_some,Bool.true_and]
theorem Ck {N:Nat} (hN:im≤N) (p:gE) (i:Int):rM N p i=some (pj p i):=by
  unfold rM pj
  rw [tL hN,Option.bind_some]
  cases (ki p.tree&&jD p.tree i) <;> rfl
theorem wM {p:gE} (h:kh p=true):ki p.tree=true:=by
  unfold kh at h
  simp only [Bool.and_eq_true] at h
  exact h.2.2.1
theorem Cs {p:gE} (h:kh p=true) {i:Int} (h0:0≤i) (h4:i≤4):idx p.tree i=some (nth p.tree i):=jj h0 (by have:=rH (wM h);omega)
def xL (p:gE) (i:Int):iB:=(nth p.tree (pj p (nth p.heap.ag i).res)).iU
theorem FO {N:Nat} (hN:im≤N) {p:gE} (h:kh p=true) {i:Int} (h0:0≤i) (h9:i≤9):tc N p i=some (xL p i):=by
  unfold tc xL
  obtain ⟨r0,r4⟩:=yR p (nth p.heap.ag i).res
  simp only [((nB h).at h0 h9).1,Option.bind_some,Ce hN,Cs h r0 r4]
end Go.Kx
/- Plain laws: who is GJ, who HB. No program in sight. -/
namespace Go.Kx
open Go
set_option linter.unusedVariables false
set_option linter.unusedSimpArgs false
set_option maxRecDepth 10000
def better (p:gE) (v i:Int):Int:=if decide ((xL p i).iD≤(xL p v).iD) then i else v
def Am (p:gE) (now:Int):Int:=match threads p now with
  | a::b::l=>(b::l).foldl (better p) a
  | _=>-1
theorem CF {p:gE} {now y:Int} (h:y ∈ threads p now):kh p=true∧0≤y∧y≤9:=uB h
def sI (p:gE) (l:List bh):gE:=gE.mk p.label p.own p.tree (iv.mk l p.heap.gc) p.ic p.next p.want p.dW p.iz p.lost
def Du (o:bh) (t:Int):bh:=bh.mk o.gen o.kind o.box o.res t o.cd o.wait o.iK o.iM o.mark o.ig o.data o.queue
def GJ (p:gE) (now:Int):List bh:=if decide (Am p now ≥ 0) then p.heap.ag.set (Am p now).toNat (Du (nth p.heap.ag (Am p now)) (IntKind.i64.wrap (now - 1))) else p.heap.ag
def xX (l:List bh) (now part h:Int):Bool:=(ka l&&(mu h&&(m4 h==part)))&&(((nth l (mE h)).kind != 0)&&(((nth l (mE h)).gen==xt h)&&nth (reach l now) (mE h)))
def iE (l:List bh) (now part h:Int):Int:=bif xX l now part h then mE h else -1
theorem xx {h:Int} (q:mu h=true):0≤mE h∧mE h≤9:=(Ds (h:=h) (by unfold m4;rw [q,if_pos rfl];rw [yr] at q;omega)).2
theorem vf {N:Nat} (hN:im≤N) {l:List bh} (hb:jl iA l<im) (now part h:Int):mR N l now part h=some (iE l now part h):=by
  unfold mR iE xX
  simp only [Cy hN hb,oB,tQ,Bf,Bm,Option.bind_some,kO]
  cases ha:ka l
  · have e:reach l now=[]:=by unfold reach;rw [ha];rfl
    rw [e];rfl
  have har:=ko.1 ha
  have hl:=pV har now
  rw [show (((reach l now).length:Int)==0)=false by rw [hl];rfl,show iG h 0 29999=mu h from rfl]
  cases hh:mu h
  · rfl
  obtain ⟨s0,s9⟩:=xx hh
  simp only [bne,(har.at s0 s9).1,jj (l:=reach l now) s0 (by omega),Option.bind_some]
  cases m4 h==part <;> cases (nth l (mE h)).kind==0 <;> cases (nth l (mE h)).gen==xt h <;> cases nth (reach l now) (mE h) <;> rfl
theorem xY {N:Nat} (hN:im≤N) {l:List bh} (hb:jl iA l<im) (hw:wA l) (now part h:Int):nR N l now part h=some (iE l now part h):=by
  unfold nR iE xX
  simp only [pH hN hb hw,B8 hN hb hw,qk,vx,Ab,Bw,Option.bind_some,kO]
  cases ha:ka l
  · rfl
  have har:=ko.1 ha
  have hl:=pV har now
  rw [show iG h 0 29999=mu h from rfl]
  cases hh:mu h
  · rfl
  obtain ⟨s0,s9⟩:=xx hh
  simp only [bne,(har.at s0 s9).1,jj (l:=reach l now) s0 (by omega),Option.bind_some]
  cases m4 h==part <;> cases (nth l (mE h)).kind==0 <;> cases (nth l (mE h)).gen==xt h <;> cases nth (reach l now) (mE h) <;> rfl
def Hu (p:gE) (me now:Int) (o:bh):Bool:=decide (o.wait > 0)&&decide (iE p.heap.ag now me (IntKind.i64.wrap (o.wait - 1))<0)
def HL (o:bh):bh:=bh.mk o.gen o.kind o.box o.res o.iL o.cd 0 (-1) o.iM o.mark o.ig o.data o.queue
def HB (p:gE) (me now:Int):List bh:=p.heap.ag.map fun o=>if Hu p me now o then HL o else o
theorem xf {α:Type} {body:List α×Int→Option ((List α×Int)⊕(List α×Int))} (x:List α) (f:α→α) {N:Nat} (hN:x.length<N)
    (hs:∀ (k:Nat) (t:List α) (y:α),t.length=x.length→t[k]?=some y→x[k]?=some y→k<x.length→body (t,(k:Int))=some (.inl (t.set k (f y),((k+1:Nat):Int))))
    (he:∀ t,t.length=x.length→body (t,(x.length:Int))=some (.inr (t,(x.length:Int)))):iter body N (x,0)=some (x.map f,(x.length:Int)):=by
  have key:∀ (r:List α) (d d':List α) (M:Nat),d'.length=d.length→x=d'++r→r.length<M→iter body M (d++r,(d.length:Int))=some (d++r.map f,(x.length:Int)):=by
    intro r
    induction r with
    | nil =>
      intro d d' M hd hx hM
      cases M with
      | zero=>simp at hM
      | succ M =>
        have e:d.length=x.length:=by rw [hx];simp [hd]
        unfold iter
        rw [List.append_nil,e,he d e];simp
    | cons y r ih =>
      intro d d' M hd hx hM
      cases M with
      | zero=>simp at hM
      | succ M =>
        have hlen:(d++y::r).length=x.length:=by rw [hx];simp [hd]
        unfold iter
        rw [hs d.length (d++y::r) y hlen (by rw [List.getElem?_append_right (Nat.le_refl _)];simp) (by rw [hx,List.getElem?_append_right (by omega)];simp [hd]) (by rw [← hlen];simp)]
        have e:(d++y::r).set d.length (f y)=(d++[f y])++r:=by rw [List.set_append_right _ _ (Nat.le_refl _)];simp
        have e2:d.length+1=(d++[f y]).length:=by simp
        simp only [Option.bind_some,e]
        rw [e2,ih (d++[f y]) (d'++[y]) M (by simp [hd]) (by rw [hx];simp) (by simp at hM;omega)]
        simp
  exact key x [] [] N rfl rfl hN
theorem sJ {α:Type} {l:List α} {k:Nat} {y:α} (h:l[k]?=some y):l.set k y=l:=by
  apply List.ext_getElem? fun i=>?_
  rw [List.getElem?_set]
  split
  · rename_i e
    subst e
    rw [if_pos (ju h),h]
  · rfl
theorem A5 {f:bh→Nat} {g:bh→bh} (h:∀ o,f (g o)=f o):∀ l:List bh,nT f (l.map g)=nT f l
  | []=>rfl
  | o::l=>by simp only [List.map_cons,nT,h,A5 h l]
theorem Gh {f:bh→Nat} {g:bh→bh} (h:∀ o,f (g o)=f o) (l:List bh):jl f (l.map g)=jl f l:=by
  unfold jl;rw [A5 h,List.length_map]
end Go.Kx
/- Plain laws: what is v9 and v9 back; who runs next. No program in sight. -/
namespace Go.Kx
open Go
set_option linter.unusedVariables false
set_option linter.unusedSimpArgs false
set_option maxRecDepth 10000
def qF (w n:Int):iB:=if w==0 then ⟨n,0,0⟩ else if w==1 then ⟨0,n,0⟩ else if w==2 then ⟨0,0,n⟩ else ⟨0,0,0⟩
theorem Es (N:Nat) (w n:Int):rV N w n=some (qF w n):=by
  unfold rV qF
  cases w==0 <;> cases w==1 <;> cases w==2 <;> rfl
theorem ED (N:Nat) (w n:Int):sx N w n=some (qF w n):=by
  unfold sx qF
  cases w==0 <;> cases w==1 <;> cases w==2 <;> rfl
def oW (a b:iB):Bool:=je a&&(je b&&(decide (a.cd≤b.cd)&&(decide (a.ij≤b.ij)&&decide (a.iD≤b.iD))))
theorem Dt (N:Nat) (a b:iB):qy N a b=some (oW a b):=by
  unfold qy oW
  simp only [qn,Option.bind_some,k5]
theorem DB (N:Nat) (a b:iB):qG N a b=some (oW a b):=by
  unfold qG oW
  simp only [sK,Option.bind_some,k5]
def As (a b:iB):iB:=⟨IntKind.i64.wrap (a.cd - b.cd),IntKind.i64.wrap (a.ij - b.ij),IntKind.i64.wrap (a.iD - b.iD)⟩
def uI (a b:iB):iB×Bool:=if oW b a then (As a b,true) else (a,false)
theorem EN (N:Nat) (a b:iB):sg N a b=some (uI a b):=by
  unfold sg uI
  rw [Dt,Option.bind_some]
  cases oW b a <;> rfl
theorem E1 (N:Nat) (a b:iB):sb N a b=some (uI a b):=by
  unfold sb uI
  rw [DB,Option.bind_some]
  cases oW b a <;> rfl
def yw (r:iy) (b:iB):iy:=iy.mk r.live r.parent b
theorem sy {α:Type} [iw α] {l:List α} {i:Int} (h0:0≤i) (h1:i<(l.length:Int)):l[i.toNat]?=some (nth l i):=by
  have:=jj (l:=l) h0 h1
  unfold idx at this
  rwa [if_pos h0] at this
def jQ (t:List iy) (f:Int) (a:iB):List iy×Bool :=
  if ki t&&jD t f then (if oW a (nth t f).iU then (t.set f.toNat (yw (nth t f) (As (nth t f).iU a)),true) else (t,false)) else (t,false)
theorem vC {N:Nat} (hN:im≤N) {t:List iy} (hB:t.length<im) (f:Int) (a:iB):nC N t f a=some (jQ t f a):=by
  unfold nC jQ
  simp only [oy hB,sP hN,Option.bind_some]
  cases ht:ki t
  · rfl
  have hl:=rH ht
  simp only [Bool.not_true,cond_false,rk N hl,Option.bind_some]
  cases hv:jD t f
  · rfl
  obtain ⟨f0,f4⟩:=lS hv
  simp only [Bool.not_true,cond_false,jj (l:=t) f0 (by omega),EN,Option.bind_some,Bool.and_self,if_true]
  unfold uI
  cases oW a (nth t f).iU
  · have:t.set f.toNat (iy.mk (nth t f).live (nth t f).parent (iB.mk (nth t f).iU.cd (nth t f).iU.ij (nth t f).iU.iD))=t:=sJ (sy f0 (by omega))
    simp only [Bool.false_eq_true,if_false]
    rw [this]
  · rfl
theorem ub {N:Nat} (hN:im≤N) {t:List iy} (hB:t.length<im) (f:Int) (a:iB):mG N t f a=some (jQ t f a):=by
  unfold mG jQ
  simp only [pZ hB,tL hN,Option.bind_some]
  cases h:(ki t&&jD t f)
  · rfl
  rw [Bool.and_eq_true] at h
  have hl:=rH h.1
  obtain ⟨f0,f4⟩:=lS h.2
  simp only [Bool.not_true,cond_false,jj (l:=t) f0 (by omega),E1,Option.bind_some,if_true]
  unfold uI
  cases oW a (nth t f).iU <;> rfl
theorem lM (t:List iy) (f:Int) (a:iB):(jQ t f a).1.length=t.length:=by
  unfold jQ
  split
  · split <;> simp
  · rfl
end Go.Kx
