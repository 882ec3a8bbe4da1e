/- Plain laws: sums; what a right world is. No program in sight. -/
import Derived.Test.YtikeaiogpfjdnaaGreatLReach
import Derived.Test.YtikeaiogpfjdnaaGreatLPut
namespace Go.Kx
open Go
set_option linter.unusedVariables false
set_option linter.unusedSimpArgs false
set_option maxRecDepth 10000
def NA (a:iw):Prop:=IntKind.i64.wrap a.cd=a.cd∧IntKind.i64.wrap a.im=a.im∧IntKind.i64.wrap a.iC=a.iC
theorem wrap_wrap (n:Int):IntKind.i64.wrap (IntKind.i64.wrap n)=IntKind.i64.wrap n:=by
  have:-9223372036854775808≤IntKind.i64.wrap n∧IntKind.i64.wrap n≤9223372036854775807:=by
    simp only [IntKind.wrap,IntKind.signed,IntKind.bits];simp;omega
  exact iM this.1 this.2
theorem NA.sum (a b:iw):NA (iV a b):=⟨wrap_wrap _,wrap_wrap _,wrap_wrap _⟩
theorem NA.zero:NA ⟨0,0,0⟩:=⟨by decide,by decide,by decide⟩
theorem DK {a:iw} (h:NA a):iV a ⟨0,0,0⟩=a:=by
  obtain ⟨h1,h2,h3⟩:=h
  unfold iV
  simp only [Int.add_zero,h1,h2,h3]
def kD (t:List iq):iw:=if km t then jc ⟨0,0,0⟩ t else ⟨0,0,0⟩
theorem Cz {N:Nat} (hN:iy≤N) {t:List iq} (hB:t.length<iy):o7 N t=some (kD t):=by
  unfold o7 kD
  rw [tX hN,Option.bind_some,xF hN hB]
  cases km t <;> rfl
theorem yJ:∀ (t:List iq) (s:iw),NA s→(∀ r,r ∈ t→r.live=false→r.iL=⟨0,0,0⟩)→t.foldl (fun s r=>iV s r.iL) s=jc s t
  | [],s,_,_=>rfl
  | r::t,s,hs,h=>by
    unfold jc
    simp only [List.foldl_cons]
    cases hl:r.live
    · rw [h r (by simp) hl,DK hs]
      exact yJ t s hs fun x hx=>h x (by simp [hx])
    · exact yJ t _ (NA.sum _ _) fun x hx=>h x (by simp [hx])
structure Tr (t:List iq):Prop where
  len:t.length=5
  wB:(nth t 0).live=true
  EY:(nth t 0).parent=-1
  dead:∀ r,r ∈ t→r.live=false→r=sE
  iL:∀ r,r ∈ t→i7 r.iL=true
  lead:∀ (k:Nat) (r:iq),t[k]?=some r→r.live=true→leads t 5 (k:Int)=true
  sum:i7 (jc ⟨0,0,0⟩ t)=true
theorem Du:i7 sE.iL=true:=by decide
theorem mQ {t:List iq}:km t=true ↔ Tr t:=by
  unfold km
  simp only [Bool.and_eq_true,Bool.not_eq_true',bne_eq_false_iff_eq,lO,Nat.zero_add]
  constructor
  · rintro ⟨h1,h2,h3,h4,h5⟩
    have hm:∀ r,r ∈ t→∃ k:Nat,t[k]?=some r:=fun o ho=>List.getElem?_of_mem ho
    refine ⟨by omega,h2,h3,fun r hr hl=>?_,fun r hr=>?_,fun k r hk hl=>?_,h5⟩
    · obtain ⟨k,hk⟩:=hm r hr
      have:=h4 k r hk
      unfold n5 at this
      simpa [hl] using this
    · obtain ⟨k,hk⟩:=hm r hr
      have:=h4 k r hk
      unfold n5 at this
      split at this
      · simp only [Bool.and_eq_true] at this;exact this.1
      · simp only [decide_eq_true_eq] at this;rw [this];exact Du
    · have:=h4 k r hk
      unfold n5 at this
      rw [if_pos hl] at this
      simp only [Bool.and_eq_true] at this
      exact this.2
  · intro h
    refine ⟨by have:=h.len;omega,h.wB,h.EY,fun k r hr=>?_,h.sum⟩
    unfold n5
    have hm:=List.mem_of_getElem? hr
    cases hl:r.live
    · simp [h.dead r hm hl]
    · simp [h.iL r hm,h.lead k r hr hl]
theorem Cs {N:Nat} (hN:iy≤N) {t:List iq} (hB:t.length<iy):o6 N t=some (kD t):=by
  unfold o6 kD
  rw [wm hN,Option.bind_some]
  cases h:km t
  · rfl
  have ht:=mQ.1 h
  simp only [Bool.not_true,cond_false,if_true]
  rw [show ((0:Int),(0:Int),(0:Int),(0:Int))=(fun (k:Nat) (s:iw)=>((k:Int),s.cd,s.im,s.iC)) 0 ⟨0,0,0⟩ from rfl,
    mP t (fun (k:Nat) (s:iw)=>((k:Int),s.cd,s.im,s.iC)) (fun _ s r=>iV s r.iL) (fun s=>((t.length:Int),s.cd,s.im,s.iC)) (fun _ _=>True) ?_ ?_ (Nat.lt_of_lt_of_le hB hN) trivial,nX,yJ t _ NA.zero fun r hr hl=>by rw [ht.dead r hr hl];rfl]
  · rfl
  · intro k s r hy hk _
    simp only [jt hk,cond_true,iT,hy,Option.bind_some,xC,jo (Nat.lt_trans hk hB)]
    exact ⟨trivial,trivial⟩
  · intro s _
    simp only [ju,cond_false]
def held (p:ia):Int:=((p.heap.ag.take 10).filter jF).foldl (fun n o=>IntKind.i64.wrap (n+o.cd)) 0
theorem foldl_filter {α β:Type} (p:α→Bool) (g:β→α→β):∀ (l:List α) (b:β),(l.filter p).foldl g b=l.foldl (fun b y=>if p y then g b y else b) b
  | [],_=>rfl
  | y::l,b=>by
    rw [List.filter_cons,List.foldl_cons]
    cases h:p y
    · simp [foldl_filter p g l]
    · simp [foldl_filter p g l]
theorem yR {N:Nat} (hN:iy≤N) {p:ia} (hb:je p<iy) (hw:wP p):pT N p=some (held p):=by
  have h4:=(m4 hb).2.2.2.1
  have hl:=si h4
  have hN':16777216≤N:=hN
  unfold pT held
  rw [foldl_filter,show ((0:Int),(0:Int))=(fun (k:Nat) (n:Int)=>(n,(k:Int))) 0 0 from rfl,
    mP (p.heap.ag.take 10) (fun (k:Nat) (n:Int)=>(n,(k:Int))) (fun _ n o=>if jF o then IntKind.i64.wrap (n+o.cd) else n) (fun n=>(n,(((p.heap.ag.take 10).length:Nat):Int))) (fun _ _=>True) ?_ ?_ (by simp;omega) trivial,nX]
  · rfl
  · intro k n y hy hk _
    have hk2:k<10∧k<p.heap.ag.length:=by simp at hk;omega
    rw [List.getElem?_take_of_lt hk2.1] at hy
    have hm:=List.mem_of_getElem? hy
    have h3:decide ((k:Int)<10)=true:=by simp;omega
    refine ⟨?_,trivial⟩
    simp only [jt hk2.2,h3,cond_true,iT,hy,Option.bind_some,A9 hN (sj h4 hm) (hw y hm),jo (show k<iy from Nat.lt_trans hk2.1 (by decide))]
    cases jF y <;> rfl
  · intro n _
    simp only [List.length_take]
    rcases Nat.lt_or_ge 10 p.heap.ag.length with h | h
    · have e:min 10 p.heap.ag.length=10:=by omega
      have h3:decide (((10:Nat):Int)<(p.heap.ag.length:Int))=true:=by simp;omega
      simp only [e,h3,cond_true];rfl
    · have e:min 10 p.heap.ag.length=p.heap.ag.length:=by omega
      simp only [e,ju,cond_false,Option.bind_some]
def rf (p:ia):iw:=if i7 p.hZ then iV ⟨IntKind.i64.wrap ((kD p.tree).cd+held p),(kD p.tree).im,(kD p.tree).iC⟩ p.hZ else kD p.tree
theorem uL {N:Nat} (hN:iy≤N) {p:ia} (hb:je p<iy) (hw:wP p):mW N p=some (rf p):=by
  unfold mW rf
  simp only [Cz hN (m4 hb).2.2.1,oO,yR hN hb hw,Option.bind_some]
  cases i7 p.hZ <;> rfl
end Go.Kx
/- Plain laws: what may run; what is safe to collect. No program in sight. -/
namespace Go.Kx
open Go
set_option linter.unusedVariables false
set_option linter.unusedSimpArgs false
set_option maxRecDepth 10000
theorem tM {t:List iq} (h:km t=true):t.length=5:=(mQ.1 h).len
def ri (p:ia) (i:Int):Int:=if km p.tree&&ji p.tree i then i else 0
theorem lC {t:List iq} {i:Int} (h:ji t i=true):0≤i∧i≤4:=by
  unfold ji at h
  simp only [Bool.and_eq_true,jb] at h
  exact h.1
theorem C7 (p:ia) (i:Int):0≤ri p i∧ri p i≤4:=by
  unfold ri
  split
  · rename_i h
    simp only [Bool.and_eq_true] at h
    exact lC h.2
  · omega
theorem sB {N:Nat} (hN:iy≤N) (t:List iq) (i:Int):lS N t i=some (km t&&ji t i):=by
  unfold lS ji
  simp only [tX hN,sn,Option.bind_some]
  cases h:km t
  · rfl
  have hl:=tM h
  cases hi:iE i 0 4
  · rfl
  · simp only [cond_true,xe hi (by omega) (show (4:Int)<(t.length:Int) by omega),Option.bind_some,Bool.true_and]
theorem AG {N:Nat} (hN:iy≤N) (p:ia) (i:Int):qa N p i=some (ri p i):=by
  unfold qa ri
  rw [sB hN,Option.bind_some]
  cases (km p.tree&&ji p.tree i) <;> rfl
theorem rl {p:ia} (h:jR p=true):km p.tree=true:=by
  unfold jR at h
  simp only [Bool.and_eq_true] at h
  exact h.2.2.1
theorem Ep {p:ia} (h:jR p=true) {i:Int} (h0:0≤i) (h4:i≤4):idx p.tree i=some (nth p.tree i):=jk h0 (by have:=tM (rl h);omega)
def BX (p:ia) (i:Int):iw:=(nth p.tree (ri p (nth p.heap.ag i).res)).iL
def vo (h:ic) (r:List Bool) (k:Nat) (o:bh):Bool:=(decide ((k:Int)<h.gc.pos)&&o.mark) || (decide ((k:Int) ≥ h.gc.pos)&&(decide ((k:Int) > 0)&&(nth r (k:Int)&&!o.mark)))
def black (h:ic) (r:List Bool) (k:Nat) (o:bh):Bool:=nth r (k:Int)&&((o.mark || ((k:Int)==0))&&!h.gc.gE.contains (k:Int))
def wH (h:ic) (r:List Bool) (y:Int):Bool:=decide (y > 0)&&(nth r y&&!(nth h.ag y).mark)
def A3 (h:ic) (r:List Bool) (k:Nat) (o:bh):Bool:=!black h r k o || (jL h.ag (k:Int)).all fun y=>!wH h r y
def wy (h:ic) (now:Int):Bool:=j7 h&&(bif h.gc.phase==1 then allI (fun k o=>!vo h (reach h.ag now) k o) 0 h.ag else allI (A3 h (reach h.ag now)) 0 h.ag)
theorem GY {p q r m:Bool} (c:Bool):(bif p then (bif m then some true else (bif q then (bif c then (bif r then some (!m) else some false) else some false) else some false)) else (bif q then (bif c then (bif r then some (!m) else some false) else some false) else some false):Option Bool)=some ((p&&m) || (q&&(c&&(r&&!m)))):=by
  cases p <;> cases q <;> cases r <;> cases m <;> cases c <;> rfl
theorem Dr {N:Nat} (hN:iy≤N) {h:ic} (h1:jr iu h.ag<iy) (h2:h.gc.gE.length<iy) (hw:wA h.ag) (now:Int):qD N h now=some (wy h now):=by
  unfold qD wy
  simp only [sG hN h1 h2 hw,tI hN h1 hw,Option.bind_some]
  cases q:j7 h
  · rfl
  have ha:=mc q
  have hB:=ha.sR
  have hl:=nh ha now
  have h10:(h.ag.length:Int)=10:=by have:=ha.len;omega
  simp only [Bool.not_true,cond_false,Bool.true_and]
  cases hp:h.gc.phase==1
  · simp only [cond_false]
    rw [jX h.ag (A3 h (reach h.ag now)) (.inl 10) (.inr false) (Nat.lt_of_lt_of_le hB hN)]
    · simp only [Option.bind_some]
      cases allI (A3 h (reach h.ag now)) 0 h.ag <;> rfl
    · intro k o ho hk
      have hk10:k<10:=by rw [← ha.len];exact hk
      have hd:decide ((k:Int)<10)=true:=by simp;omega
      obtain ⟨e1,e2⟩:=k4 ha (k:Int)
      have heB:(jL h.ag (k:Int)).length<iy:=Nat.lt_of_le_of_lt e2 (by decide)
      simp only [hd,cond_true,iT,ho,Option.bind_some,tE hN h2,jo (Nat.lt_trans hk hB)]
      rw [← iT (reach h.ag now) k,jk (l:=reach h.ag now) (i:=(k:Int)) (by omega) (by omega),xp hN h1 hw ha (by omega) (by omega)]
      simp only [Option.bind_some]
      rw [show (bif !nth (reach h.ag now) (k:Int) then some true else (bif h.gc.gE.contains (k:Int) then some true else bif decide ((k:Int) > 0) then some (!o.mark) else some false):Option Bool)=some (!black h (reach h.ag now) k o) by
        unfold black
        cases k with
        | zero=>cases nth (reach h.ag now) ((0:Nat):Int) <;> cases o.mark <;> cases h.gc.gE.contains ((0:Nat):Int) <;> rfl
        | succ k =>
          rw [decide_eq_true (show ((k+1:Nat):Int) > 0 by omega),show ((((k+1:Nat):Int))==0)=false by simp;omega]
          cases nth (reach h.ag now) ((k+1:Nat):Int) <;> cases o.mark <;> cases h.gc.gE.contains ((k+1:Nat):Int) <;> rfl]
      simp only [Option.bind_some]
      rw [jX (jL h.ag (k:Int)) (fun _ y=>!wH h (reach h.ag now) y) (.inl ((jL h.ag (k:Int)).length:Int)) (.inr false) (Nat.lt_of_lt_of_le heB hN),ky]
      · unfold A3
        cases black h (reach h.ag now) k o
        · rfl
        · simp only [Bool.not_true,Bool.false_or,cond_false,Option.bind_some]
          cases (jL h.ag (k:Int)).all fun y=>!wH h (reach h.ag now) y <;> rfl
      · intro j y hy hj
        obtain ⟨y0,y9⟩:=e1 y (List.mem_of_getElem? hy)
        simp only [jt hj,cond_true,iT,hy,Option.bind_some,jk (l:=reach h.ag now) y0 (by omega),(ha.at y0 y9).1,lp,jo (Nat.lt_trans hj heB)]
        unfold wH
        cases (decide (y > 0)&&(nth (reach h.ag now) y&&!(nth h.ag y).mark)) <;> rfl
      · simp only [ju,cond_false]
    · rw [h10];rfl
  · simp only [cond_true]
    rw [jX h.ag (fun k o=>!vo h (reach h.ag now) k o) (.inl 10) (.inr false) (Nat.lt_of_lt_of_le hB hN)]
    · simp only [Option.bind_some]
      cases allI (fun k o=>!vo h (reach h.ag now) k o) 0 h.ag <;> rfl
    · intro k o ho hk
      have hk10:k<10:=by rw [← ha.len];exact hk
      have hd:decide ((k:Int)<10)=true:=by simp;omega
      simp only [hd,cond_true,iT,ho,Option.bind_some,jo (Nat.lt_trans hk hB)]
      rw [← iT (reach h.ag now) k,jk (l:=reach h.ag now) (i:=(k:Int)) (by omega) (by omega)]
      simp only [Option.bind_some]
      rw [GY]
      unfold vo
      simp only [Option.bind_some]
      cases ((decide ((k:Int)<h.gc.pos)&&o.mark) || (decide ((k:Int) ≥ h.gc.pos)&&(decide ((k:Int) > 0)&&(nth (reach h.ag now) (k:Int)&&!o.mark)))) <;> rfl
    · rw [h10];rfl
end Go.Kx
/- Plain laws: handles. No program in sight. -/
namespace Go.Kx
open Go
set_option linter.unusedVariables false
set_option linter.unusedSimpArgs false
set_option maxRecDepth 10000
def ot (h:Int):Bool:=iE h 0 29999
def pO (h:Int):Int:=if ot h then h % 3 else -1
def n7 (h:Int):Int:=if ot h then h / 3 % 10 else -1
def BL (h:Int):Int:=if ot h then h / 3 / 10 else -1
theorem xt {h:Int}:ot h=true ↔ 0≤h∧h≤29999:=jb
theorem hdiv {h:Int} (q:ot h=true):IntKind.i64.wrap (Int.tdiv h 3)=h / 3∧Int.tmod h 3=h % 3∧Int.tmod (h / 3) 10=h / 3 % 10∧IntKind.i64.wrap (Int.tdiv (h / 3) 10)=h / 3 / 10:=by
  rw [xt] at q
  have h3:0≤h / 3:=by omega
  refine ⟨?_,Int.tmod_eq_emod_of_nonneg q.1,Int.tmod_eq_emod_of_nonneg h3,?_⟩
  · rw [Int.tdiv_eq_ediv_of_nonneg q.1,iM (by omega) (by omega)]
  · rw [Int.tdiv_eq_ediv_of_nonneg h3,iM (by omega) (by omega)]
theorem uQ (N:Nat) (h:Int):mh N h=some (pO h):=by
  unfold mh pO
  rw [oN,Option.bind_some]
  cases q:iE h 0 29999
  · simp [ot,q]
  · simp [ot,q,(hdiv (h:=h) q).2.1]
theorem zs (N:Nat) (h:Int):nf N h=some (n7 h):=by
  unfold nf n7
  rw [oN,Option.bind_some]
  cases q:iE h 0 29999
  · simp [ot,q]
  · simp [ot,q,(hdiv (h:=h) q).1,(hdiv (h:=h) q).2.2.1]
theorem Ao (N:Nat) (h:Int):nH N h=some (BL h):=by
  unfold nH BL
  rw [oN,Option.bind_some]
  cases q:iE h 0 29999
  · simp [ot,q]
  · simp [ot,q,(hdiv (h:=h) q).1,(hdiv (h:=h) q).2.2.2]
def ud (p i g:Int):Int:=if iE p 0 2&&(iE i 0 9&&iE g 0 999) then IntKind.i64.wrap ((IntKind.i64.wrap ((IntKind.i64.wrap ((IntKind.i64.wrap (g * 10))+i)) * 3))+p) else -1
theorem sa (N:Nat) (p i g:Int):lD N p i g=some (ud p i g):=by
  unfold lD ud
  simp only [pU,mw,Option.bind_some,lG]
  cases iE p 0 2 <;> cases iE i 0 9 <;> cases iE g 0 999 <;> rfl
theorem Cg {h:Int} (q:0≤pO h):ot h=true∧0≤n7 h∧n7 h≤9:=by
  unfold pO at q
  unfold n7
  cases hk:ot h
  · simp [hk] at q
  · rw [xt] at hk
    simp only [if_true]
    exact ⟨trivial,by omega,by omega⟩
end Go.Kx
/- Plain laws: who is B0, who D8. No program in sight. -/
namespace Go.Kx
open Go
set_option linter.unusedVariables false
set_option linter.unusedSimpArgs false
set_option maxRecDepth 10000
def better (p:ia) (v i:Int):Int:=if decide ((BX p i).iC≤(BX p v).iC) then i else v
def zf (p:ia) (now:Int):Int:=match threads p now with
  | a::b::l=>(b::l).foldl (better p) a
  | _=>-1
theorem BD {p:ia} {now y:Int} (h:y ∈ threads p now):jR p=true∧0≤y∧y≤9:=vE h
def sL (p:ia) (l:List bh):ia:=ia.mk p.label p.own p.tree (ic.mk l p.heap.gc) p.iz p.next p.want p.hZ p.iH p.lost
def Cw (o:bh) (t:Int):bh:=bh.mk o.gen o.kind o.box o.res t o.cd o.wait o.iO o.iP o.mark o.ib o.data o.queue
def B0 (p:ia) (now:Int):List bh:=if decide (zf p now ≥ 0) then p.heap.ag.set (zf p now).toNat (Cw (nth p.heap.ag (zf p now)) (IntKind.i64.wrap (now - 1))) else p.heap.ag
def yx (l:List bh) (now part h:Int):Bool:=(kq l&&(ot h&&(pO h==part)))&&(((nth l (n7 h)).kind != 0)&&(((nth l (n7 h)).gen==BL h)&&nth (reach l now) (n7 h)))
def iD (l:List bh) (now part h:Int):Int:=bif yx l now part h then n7 h else -1
theorem yE {h:Int} (q:ot h=true):0≤n7 h∧n7 h≤9:=(Cg (h:=h) (by unfold pO;rw [q,if_pos rfl];rw [xt] at q;omega)).2
theorem wU {N:Nat} (hN:iy≤N) {l:List bh} (hb:jr iu l<iy) (hw:wA l) (now part h:Int):nb N l now part h=some (iD l now part h):=by
  unfold nb iD yx
  simp only [oz hN hb hw,tI hN hb hw,oN,uQ,zs,Ao,Option.bind_some,lG]
  cases ha:kq l
  · rfl
  have har:=kf.1 ha
  have hl:=nh har now
  rw [show iE h 0 29999=ot h from rfl]
  cases hh:ot h
  · rfl
  obtain ⟨s0,s9⟩:=yE hh
  simp only [bne,(har.at s0 s9).1,jk (l:=reach l now) s0 (by omega),Option.bind_some]
  cases pO h==part <;> cases (nth l (n7 h)).kind==0 <;> cases (nth l (n7 h)).gen==BL h <;> cases nth (reach l now) (n7 h) <;> rfl
def FY (p:ia) (me now:Int) (o:bh):Bool:=decide (o.wait > 0)&&decide (iD p.heap.ag now me (IntKind.i64.wrap (o.wait - 1))<0)
def FX (o:bh):bh:=bh.mk o.gen o.kind o.box o.res o.iN o.cd 0 (-1) o.iP o.mark o.ib o.data o.queue
def D8 (p:ia) (me now:Int):List bh:=p.heap.ag.map fun o=>if FY p me now o then FX o else o
theorem tN {α:Type} {body:List α×Int→Option ((List α×Int)⊕(List α×Int))} (x:List α) (f:α→α) {N:Nat} (hN:x.length<N)
    (hs:∀ (k:Nat) (t:List α) (y:α),t.length=x.length→t[k]?=some y→x[k]?=some y→k<x.length→body (t,(k:Int))=some (.inl (t.set k (f y),((k+1:Nat):Int))))
    (he:∀ t,t.length=x.length→body (t,(x.length:Int))=some (.inr (t,(x.length:Int)))):iter body N (x,0)=some (x.map f,(x.length:Int)):=by
  have key:∀ (r:List α) (d d':List α) (M:Nat),d'.length=d.length→x=d'++r→r.length<M→iter body M (d++r,(d.length:Int))=some (d++r.map f,(x.length:Int)):=by
    intro r
    induction r with
    | nil =>
      intro d d' M hd hx hM
      cases M with
      | zero=>simp at hM
      | succ M =>
        have e:d.length=x.length:=by rw [hx];simp [hd]
        unfold iter
        rw [List.append_nil,e,he d e];simp
    | cons y r ih =>
      intro d d' M hd hx hM
      cases M with
      | zero=>simp at hM
      | succ M =>
        have hlen:(d++y::r).length=x.length:=by rw [hx];simp [hd]
        unfold iter
        rw [hs d.length (d++y::r) y hlen (by rw [List.getElem?_append_right (Nat.le_refl _)];simp) (by rw [hx,List.getElem?_append_right (by omega)];simp [hd]) (by rw [← hlen];simp)]
        have e:(d++y::r).set d.length (f y)=(d++[f y])++r:=by rw [List.set_append_right _ _ (Nat.le_refl _)];simp
        have e2:d.length+1=(d++[f y]).length:=by simp
        simp only [Option.bind_some,e]
        rw [e2,ih (d++[f y]) (d'++[y]) M (by simp [hd]) (by rw [hx];simp) (by simp at hM;omega)]
        simp
  exact key x [] [] N rfl rfl hN
theorem qg {α:Type} {l:List α} {k:Nat} {y:α} (h:l[k]?=some y):l.set k y=l:=by
  apply List.ext_getElem? fun i=>?_
  rw [List.getElem?_set]
  split
  · rename_i e
    subst e
    rw [if_pos (jg h),h]
  · rfl
theorem yQ {f:bh→Nat} {g:bh→bh} (h:∀ o,f (g o)=f o):∀ l:List bh,ou f (l.map g)=ou f l
  | []=>rfl
  | o::l=>by simp only [List.map_cons,ou,h,yQ h l]
theorem EK {f:bh→Nat} {g:bh→bh} (h:∀ o,f (g o)=f o) (l:List bh):jr f (l.map g)=jr f l:=by
  unfold jr;rw [yQ h,List.length_map]
end Go.Kx
/- Plain laws: what is vY and vY back; who runs next. No program in sight. -/
namespace Go.Kx
open Go
set_option linter.unusedVariables false
set_option linter.unusedSimpArgs false
set_option maxRecDepth 10000
def rG (w n:Int):iw:=if w==0 then ⟨n,0,0⟩ else if w==1 then ⟨0,n,0⟩ else if w==2 then ⟨0,0,n⟩ else ⟨0,0,0⟩
theorem DJ (N:Nat) (w n:Int):qv N w n=some (rG w n):=by
  unfold qv rG
  cases w==0 <;> cases w==1 <;> cases w==2 <;> rfl
theorem DA (N:Nat) (w n:Int):qK N w n=some (rG w n):=by
  unfold qK rG
  cases w==0 <;> cases w==1 <;> cases w==2 <;> rfl
def sh (a b:iw):Bool:=i7 a&&(i7 b&&(decide (a.cd≤b.cd)&&(decide (a.im≤b.im)&&decide (a.iC≤b.iC))))
theorem Cj (N:Nat) (a b:iw):pL N a b=some (sh a b):=by
  unfold pL sh
  simp only [oO,Option.bind_some,lp]
def zR (a b:iw):iw:=⟨IntKind.i64.wrap (a.cd - b.cd),IntKind.i64.wrap (a.im - b.im),IntKind.i64.wrap (a.iC - b.iC)⟩
def zK (a b:iw):iw×Bool:=if sh b a then (zR a b,true) else (a,false)
theorem Ds (N:Nat) (a b:iw):qy N a b=some (zK a b):=by
  unfold qy zK
  rw [Cj,Option.bind_some]
  cases sh b a <;> rfl
def kT (r:iq) (b:iw):iq:=iq.mk r.live r.parent b
theorem lj {α:Type} [iB α] {l:List α} {i:Int} (h0:0≤i) (h1:i<(l.length:Int)):l[i.toNat]?=some (nth l i):=by
  have:=jk (l:=l) h0 h1
  unfold idx at this
  rwa [if_pos h0] at this
def kr (t:List iq) (f:Int) (a:iw):List iq×Bool :=
  if km t&&ji t f then (if sh a (nth t f).iL then (t.set f.toNat (kT (nth t f) (zR (nth t f).iL a)),true) else (t,false)) else (t,false)
theorem sU {N:Nat} (hN:iy≤N) {t:List iq} (hB:t.length<iy) (f:Int) (a:iw):mf N t f a=some (kr t f a):=by
  unfold mf kr
  simp only [oq hB,sB hN,Option.bind_some]
  cases h:(km t&&ji t f)
  · rfl
  rw [Bool.and_eq_true] at h
  have hl:=tM h.1
  obtain ⟨f0,f4⟩:=lC h.2
  simp only [Bool.not_true,cond_false,jk (l:=t) f0 (by omega),Ds,Option.bind_some,if_true]
  unfold zK
  cases sh a (nth t f).iL <;> rfl
theorem mY (t:List iq) (f:Int) (a:iw):(kr t f a).1.length=t.length:=by
  unfold kr
  split
  · split <;> simp
  · rfl
theorem x9 {a:iw} (h:i7 a=true):(0≤a.cd∧a.cd≤1000000)∧(0≤a.im∧a.im≤1000000)∧(0≤a.iC∧a.iC≤1000000):=by
  unfold i7 ux at h
  simpa only [Bool.and_eq_true,jb] using h
theorem sC {p:ia} (h:jR p=true):i7 p.hZ=true:=by
  unfold jR wJ at h
  simp only [Bool.and_eq_true] at h
  exact h.2.2.2.2.2.2.2.2.1
end Go.Kx
