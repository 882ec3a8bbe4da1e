/- Plain laws: handles. No program in sight. -/
import Derived.Test.YtdlodpchnaojhaaGreatLSum
import Derived.Test.YtdlodpchnaojhaaGreatLReach
namespace Go.Kx
open Go
set_option linter.unusedVariables false
set_option linter.unusedSimpArgs false
set_option maxRecDepth 10000
def nw (h:Int):Bool:=iE h 0 29999
def oY (h:Int):Int:=if nw h then h % 3 else -1
def m9 (h:Int):Int:=if nw h then h / 3 % 10 else -1
def ze (h:Int):Int:=if nw h then h / 3 / 10 else -1
theorem Aj {h:Int}:nw h=true ↔ 0≤h∧h≤29999:=i7
theorem hdiv {h:Int} (q:nw h=true):IntKind.i64.wrap (Int.tdiv h 3)=h / 3∧Int.tmod h 3=h % 3∧Int.tmod (h / 3) 10=h / 3 % 10∧IntKind.i64.wrap (Int.tdiv (h / 3) 10)=h / 3 / 10:=by
  rw [Aj] at q
  have h3:0≤h / 3:=by omega
  refine ⟨?_,Int.tmod_eq_emod_of_nonneg q.1,Int.tmod_eq_emod_of_nonneg h3,?_⟩
  · rw [Int.tdiv_eq_ediv_of_nonneg q.1,iI (by omega) (by omega)]
  · rw [Int.tdiv_eq_ediv_of_nonneg h3,iI (by omega) (by omega)]
theorem Cd (N:Nat) (h:Int):oA N h=some (oY h):=by
  unfold oA oY
  rw [qR,Option.bind_some]
  cases q:iE h 0 29999
  · simp [nw,q]
  · simp [nw,q,(hdiv (h:=h) q).2.1]
theorem xz (N:Nat) (h:Int):ns N h=some (oY h):=by
  unfold ns oY
  rw [qU,Option.bind_some]
  cases q:iE h 0 29999
  · simp [nw,q]
  · simp [nw,q,(hdiv (h:=h) q).2.1]
theorem CS (N:Nat) (h:Int):oy N h=some (m9 h):=by
  unfold oy m9
  rw [qR,Option.bind_some]
  cases q:iE h 0 29999
  · simp [nw,q]
  · simp [nw,q,(hdiv (h:=h) q).1,(hdiv (h:=h) q).2.2.1]
theorem Cc (N:Nat) (h:Int):oB N h=some (m9 h):=by
  unfold oB m9
  rw [qU,Option.bind_some]
  cases q:iE h 0 29999
  · simp [nw,q]
  · simp [nw,q,(hdiv (h:=h) q).1,(hdiv (h:=h) q).2.2.1]
theorem Df (N:Nat) (h:Int):pc N h=some (ze h):=by
  unfold pc ze
  rw [qR,Option.bind_some]
  cases q:iE h 0 29999
  · simp [nw,q]
  · simp [nw,q,(hdiv (h:=h) q).1,(hdiv (h:=h) q).2.2.2]
theorem DI (N:Nat) (h:Int):pe N h=some (ze h):=by
  unfold pe ze
  rw [qU,Option.bind_some]
  cases q:iE h 0 29999
  · simp [nw,q]
  · simp [nw,q,(hdiv (h:=h) q).1,(hdiv (h:=h) q).2.2.2]
def wD (p i g:Int):Int:=if iE p 0 2&&(iE i 0 9&&iE g 0 999) then IntKind.i64.wrap ((IntKind.i64.wrap ((IntKind.i64.wrap ((IntKind.i64.wrap (g * 10))+i)) * 3))+p) else -1
theorem uC (N:Nat) (p i g:Int):mS N p i g=some (wD p i g):=by
  unfold mS wD
  simp only [sj,nB,Option.bind_some,lN]
  cases iE p 0 2 <;> cases iE i 0 9 <;> cases iE g 0 999 <;> rfl
theorem GQ {h:Int} (q:0≤oY h):nw h=true∧0≤m9 h∧m9 h≤9:=by
  unfold oY at q
  unfold m9
  cases hk:nw h
  · simp [hk] at q
  · rw [Aj] at hk
    simp only [if_true]
    exact ⟨trivial,by omega,by omega⟩
def uM (w:iN) (p:Int):Bool:=iE p 0 ((w.parts.length:Int) - 1)
theorem Gj {N:Nat} {w:iN} (hl:w.parts.length<im) (p:Int):rP N w p=some (uM w p):=by
  have hl:w.parts.length<16777216:=hl
  unfold rP uM
  rw [oF,iI (by omega) (by omega)];rfl
theorem DB {w:iN} {p:Int} (h:uM w p=true):idx w.parts p=some (nth w.parts p)∧nth w.parts p ∈ w.parts:=by
  unfold uM at h
  rw [i7] at h
  exact ⟨jC h.1 (by omega),kT h.1 (by omega)⟩
end Go.Kx
/- Plain laws: who is pV, who pN. No program in sight. -/
namespace Go.Kx
open Go
set_option linter.unusedVariables false
set_option linter.unusedSimpArgs false
set_option maxRecDepth 10000
def better (p:dW) (v i:Int):Int:=if decide ((oR p i).ik≤(oR p v).ik) then i else v
def o8 (p:dW) (now:Int):Int:=match threads p now with
  | a::b::l=>(b::l).foldl (better p) a
  | _=>-1
theorem zR {p:dW} {m:List Int}:∀ (l:List Int) (v:Int),v ∈ m→(∀ y,y ∈ l→y ∈ m)→l.foldl (better p) v ∈ m
  | [],v,hv,_=>hv
  | y::l,v,hv,h=>by
    rw [List.foldl_cons]
    refine zR l _ ?_ fun z hz=>h z (by simp [hz])
    unfold better
    split
    · exact h y (by simp)
    · exact hv
theorem wu {p:dW} {now:Int} (h:decide (o8 p now ≥ 0)=true):o8 p now ∈ threads p now:=by
  unfold o8 at h ⊢
  cases ht:threads p now with
  | nil=>rw [ht] at h;simp at h
  | cons a l=>cases l with
    | nil=>rw [ht] at h;simp at h
    | cons b l=>exact zR (b::l) a (by simp) fun y hy=>by simp at hy ⊢;exact .inr hy
theorem I3 {N:Nat} (hN:im≤N) {p:dW} {l:List Int} (hl:l.length<im) {body:Int×Int→Option ((Int×Int)⊕(Int×Int))} (hm:∀ y,y ∈ l→y ∈ l) {v0:Int} (I:Int→Prop) (h0:I v0)
    (hs:∀ (k:Nat) (v y:Int),l[k]?=some y→k<l.length→I v→body (v,(k:Int))=some (.inl (better p v y,((k+1:Nat):Int)))∧I (better p v y)) (he:∀ v,body (v,(l.length:Int))=some (.inr (v,(l.length:Int)))) :
    iter body N (v0,0)=some (l.foldl (better p) v0,(l.length:Int)):=by
  rw [show (v0,(0:Int))=(fun (k:Nat) (v:Int)=>(v,(k:Int))) 0 v0 from rfl,
    kK l (fun (k:Nat) (v:Int)=>(v,(k:Int))) (fun _ v y=>better p v y) (fun v=>(v,(l.length:Int))) (fun _ v=>I v) (fun k v y hy hk hI=>hs k v y hy hk hI) (fun v _=>he v) (Nat.lt_of_lt_of_le hl hN) h0,lA]
theorem uB {p:dW} {now y:Int} (h:y ∈ threads p now):iS p=true∧0≤y∧y≤9:=pA h
theorem HJ {N:Nat} (hN:im≤N) {p:dW} (hb:iG p<im) (now:Int):sS N p now=some (o8 p now):=by
  have hl:=vJ p now
  unfold sS o8
  rw [A2 hN hb,Option.bind_some]
  cases ht:threads p now with
  | nil=>rfl
  | cons a l=>cases l with
    | nil=>rfl
    | cons b l =>
      have hm:∀ y,y ∈ a::b::l→iS p=true∧0≤y∧y≤9:=fun y hy=>uB (by rw [ht];exact hy)
      rw [ht] at hl
      rw [show decide ((((a::b::l).length:Nat):Int)<2)=false by simp;omega,show idx (a::b::l) 0=some a from rfl]
      simp only [cond_false,Option.bind_some]
      rw [I3 hN (p:=p) (l:=a::b::l) hl (fun _ h=>h) (fun v=>iS p=true∧0≤v∧v≤9) (hm a (by simp))]
      · have e:better p a a=a:=by unfold better;split <;> rfl
        rw [Option.bind_some,List.foldl_cons,e]
      · intro k v y hy hk hI
        obtain ⟨hp,y0,y9⟩:=hm y (List.mem_of_getElem? hy)
        refine ⟨?_,?_⟩
        · simp only [jh hk,cond_true,iO,hy,Option.bind_some,Ah hN hp y0 y9,Ah hN hp hI.2.1 hI.2.2,jm (Nat.lt_trans hk hl)]
          unfold better
          cases decide ((oR p y).ik≤(oR p v).ik) <;> rfl
        · unfold better
          split
          · exact ⟨hp,y0,y9⟩
          · exact hI
      · intro v
        simp only [jg,cond_false]
def nv (p:dW) (l:List cd):dW:=dW.mk p.label p.own p.tree (iA.mk l p.heap.gc) p.ij p.next p.want p.gE p.iH p.lost
def CJ (o:cd) (t:Int):cd:=cd.mk o.gen o.kind o.box o.res t o.bh o.wait o.iW o.iR o.mark o.il o.data o.queue
def pV (p:dW) (now:Int):List cd:=if decide (o8 p now ≥ 0) then p.heap.ag.set (o8 p now).toNat (CJ (nth p.heap.ag (o8 p now)) (IntKind.i64.wrap (now - 1))) else p.heap.ag
def kD (p:dW) (now:Int):dW:=if iS p&&(iE now 1 1000000&&!decide (p.iH<3)) then dW.mk p.label p.own p.tree (iA.mk (pV p now) p.heap.gc) p.ij p.next p.want p.gE 0 p.lost else p
theorem EZ {N:Nat} (hN:im≤N) {p:dW} (hb:iG p<im) (now:Int):qF N p now=some (kD p now):=by
  unfold qF kD pV
  simp only [sO hN hb,tF hN hb,oF,HJ hN hb,Option.bind_some,lN]
  cases hp:iS p
  · rfl
  cases iE now 1 1000000
  · rfl
  cases decide (p.iH<3)
  · cases hv:decide (o8 p now ≥ 0)
    · rfl
    · obtain ⟨_,v0,v9⟩:=pA (wu hv)
      simp only [Bool.not_true,Bool.or_self,cond_false,cond_true,((jS hp).at v0 v9).1,Option.bind_some,if_true]
      rfl
  · rfl
def zs (l:List cd) (now part h:Int):Bool:=(kI l&&(nw h&&(oY h==part)))&&(((nth l (m9 h)).kind != 0)&&(((nth l (m9 h)).gen==ze h)&&nth (reach l now) (m9 h)))
def iF (l:List cd) (now part h:Int):Int:=bif zs l now part h then m9 h else -1
theorem yX {h:Int} (q:nw h=true):0≤m9 h∧m9 h≤9:=(GQ (h:=h) (by unfold oY;rw [q,if_pos rfl];rw [Aj] at q;omega)).2
theorem Fy {N:Nat} (hN:im≤N) {l:List cd} (hb:jo iz l<im) (now part h:Int):qv N l now part h=some (iF l now part h):=by
  unfold qv iF zs
  simp only [Es hN hb,qR,Cd,CS,Df,Option.bind_some,lN]
  cases ha:kI l
  · have e:reach l now=[]:=by unfold reach;rw [ha];rfl
    rw [e];rfl
  have har:=kf.1 ha
  have hl:=oO har now
  rw [show (((reach l now).length:Int)==0)=false by rw [hl];rfl,show iE h 0 29999=nw h from rfl]
  cases hh:nw h
  · rfl
  obtain ⟨s0,s9⟩:=yX hh
  simp only [bne,(har.at s0 s9).1,jC (l:=reach l now) s0 (by omega),Option.bind_some]
  cases oY h==part <;> cases (nth l (m9 h)).kind==0 <;> cases (nth l (m9 h)).gen==ze h <;> cases nth (reach l now) (m9 h) <;> rfl
theorem zj {N:Nat} (hN:im≤N) {l:List cd} (hb:jo iz l<im) (hw:wA l) (now part h:Int):oD N l now part h=some (iF l now part h):=by
  unfold oD iF zs
  simp only [qB hN hb hw,Ec hN hb hw,qU,xz,Cc,DI,Option.bind_some,lN]
  cases ha:kI l
  · rfl
  have har:=kf.1 ha
  have hl:=oO har now
  rw [show iE h 0 29999=nw h from rfl]
  cases hh:nw h
  · rfl
  obtain ⟨s0,s9⟩:=yX hh
  simp only [bne,(har.at s0 s9).1,jC (l:=reach l now) s0 (by omega),Option.bind_some]
  cases oY h==part <;> cases (nth l (m9 h)).kind==0 <;> cases (nth l (m9 h)).gen==ze h <;> cases nth (reach l now) (m9 h) <;> rfl
def wo (p:dW) (me now:Int) (o:cd):Bool:=decide (o.wait > 0)&&decide (iF p.heap.ag now me (IntKind.i64.wrap (o.wait - 1))<0)
def xT (o:cd):cd:=cd.mk o.gen o.kind o.box o.res o.iU o.bh 0 (-1) o.iR o.mark o.il o.data o.queue
def pN (p:dW) (me now:Int):List cd:=p.heap.ag.map fun o=>if wo p me now o then xT o else o
def lf (p:dW) (me now:Int):dW:=if iS p&&iE me 0 2 then nv p (pN p me now) else p
theorem uV {α:Type} {body:List α×Int→Option ((List α×Int)⊕(List α×Int))} (x:List α) (f:α→α) {N:Nat} (hN:x.length<N)
    (hs:∀ (k:Nat) (t:List α) (y:α),t.length=x.length→t[k]?=some y→x[k]?=some y→k<x.length→body (t,(k:Int))=some (.inl (t.set k (f y),((k+1:Nat):Int))))
    (he:∀ t,t.length=x.length→body (t,(x.length:Int))=some (.inr (t,(x.length:Int)))):iter body N (x,0)=some (x.map f,(x.length:Int)):=by
  have key:∀ (r:List α) (d d':List α) (M:Nat),d'.length=d.length→x=d'++r→r.length<M→iter body M (d++r,(d.length:Int))=some (d++r.map f,(x.length:Int)):=by
    intro r
    induction r with
    | nil =>
      intro d d' M hd hx hM
      cases M with
      | zero=>simp at hM
      | succ M =>
        have e:d.length=x.length:=by rw [hx];simp [hd]
        unfold iter
        rw [List.append_nil,e,he d e];simp
    | cons y r ih =>
      intro d d' M hd hx hM
      cases M with
      | zero=>simp at hM
      | succ M =>
        have hlen:(d++y::r).length=x.length:=by rw [hx];simp [hd]
        unfold iter
        rw [hs d.length (d++y::r) y hlen (by rw [List.getElem?_append_right (Nat.le_refl _)];simp) (by rw [hx,List.getElem?_append_right (by omega)];simp [hd]) (by rw [← hlen];simp)]
        have e:(d++y::r).set d.length (f y)=(d++[f y])++r:=by rw [List.set_append_right _ _ (Nat.le_refl _)];simp
        have e2:d.length+1=(d++[f y]).length:=by simp
        simp only [Option.bind_some,e]
        rw [e2,ih (d++[f y]) (d'++[y]) M (by simp [hd]) (by rw [hx];simp) (by simp at hM;omega)]
        simp
  exact key x [] [] N rfl rfl hN
theorem nI {α:Type} {l:List α} {k:Nat} {y:α} (h:l[k]?=some y):l.set k y=l:=by
  apply List.ext_getElem? fun i=>?_
  rw [List.getElem?_set]
  split
  · rename_i e
    subst e
    rw [if_pos (jv h),h]
  · rfl
theorem Fb {N:Nat} (hN:im≤N) {p:dW} (hb:iG p<im) (me now:Int):qM N p me now=some (lf p me now):=by
  have h4:=(mq hb).2.2.2.1
  have hl:=lD h4
  unfold qM lf pN nv
  simp only [sO hN hb,tF hN hb,Cx,Option.bind_some,lN]
  cases hp:iS p
  · rfl
  cases iE me 0 2
  · rfl
  simp only [Bool.not_true,Bool.or_self,cond_false,Bool.and_self,if_true]
  rw [uV p.heap.ag (fun o=>if wo p me now o then xT o else o) (Nat.lt_of_lt_of_le hl hN)]
  · rfl
  · intro k t y ht hty hy hk
    simp only [jh hk,cond_true,iO,hy,hty,Option.bind_some,Fy hN h4,lK,jm (Nat.lt_trans hk hl),Int.toNat_natCast,List.getElem?_set_self (show k<t.length by omega),List.set_set]
    rw [show (decide (y.wait > 0)&&decide (iF p.heap.ag now me (IntKind.i64.wrap (y.wait - 1))<0))=wo p me now y from rfl]
    cases wo p me now y
    · simp [nI hty]
    · rfl
  · intro t ht
    simp only [jg,cond_false]
theorem BJ {f:cd→Nat} {g:cd→cd} (h:∀ o,f (g o)=f o):∀ l:List cd,nF f (l.map g)=nF f l
  | []=>rfl
  | o::l=>by simp only [List.map_cons,nF,h,BJ h l]
theorem DY {f:cd→Nat} {g:cd→cd} (h:∀ o,f (g o)=f o) (l:List cd):jo f (l.map g)=jo f l:=by
  unfold jo;rw [BJ h,List.length_map]
theorem D2 (p:dW) (me now:Int):iG (lf p me now)=iG p:=by
  unfold lf
  split
  · unfold iG nv mr pN
    simp only
    rw [DY fun o=>by split <;> rfl]
  · rfl
theorem DS (p:dW) (now:Int):iG (kD p now)≤iG p+100:=by
  unfold kD
  split
  · rename_i h
    simp only [Bool.and_eq_true] at h
    have hsz:jo iz (pV p now)≤jo iz p.heap.ag+12:=by
      unfold pV
      split
      · rename_i hv
        obtain ⟨_,v0,v9⟩:=pA (wu hv)
        have:=wC ((jS h.1).ok _ ((jS h.1).at v0 v9).2)
        exact Nat.le_trans uQ (Nat.add_le_add_left this _)
      · omega
    unfold iG mr
    simp only
    omega
  · omega
end Go.Kx
/- Plain laws: what is yK and yK back; who runs next. No program in sight. -/
namespace Go.Kx
open Go
set_option linter.unusedVariables false
set_option linter.unusedSimpArgs false
set_option maxRecDepth 10000
def lu (w n:Int):ig:=if w==0 then ⟨n,0,0⟩ else if w==1 then ⟨0,n,0⟩ else if w==2 then ⟨0,0,n⟩ else ⟨0,0,0⟩
theorem yY (N:Nat) (w n:Int):n4 N w n=some (lu w n):=by
  unfold n4 lu
  cases w==0 <;> cases w==1 <;> cases w==2 <;> rfl
theorem Ie (N:Nat) (w n:Int):sY N w n=some (lu w n):=by
  unfold sY lu
  cases w==0 <;> cases w==1 <;> cases w==2 <;> rfl
def ll (a b:ig):Bool:=iY a&&(iY b&&(decide (a.bh≤b.bh)&&(decide (a.ib≤b.ib)&&decide (a.ik≤b.ik))))
theorem GH (N:Nat) (a b:ig):r7 N a b=some (ll a b):=by
  unfold r7 ll
  simp only [su,Option.bind_some,lK]
theorem Hc (N:Nat) (a b:ig):rX N a b=some (ll a b):=by
  unfold rX ll
  simp only [qX,Option.bind_some,lK]
def tH (a b:ig):ig:=⟨IntKind.i64.wrap (a.bh - b.bh),IntKind.i64.wrap (a.ib - b.ib),IntKind.i64.wrap (a.ik - b.ik)⟩
def vY (a b:ig):ig×Bool:=if ll b a then (tH a b,true) else (a,false)
theorem HE (N:Nat) (a b:ig):sV N a b=some (vY a b):=by
  unfold sV vY
  rw [GH,Option.bind_some]
  cases ll b a <;> rfl
theorem Ib (N:Nat) (a b:ig):tw N a b=some (vY a b):=by
  unfold tw vY
  rw [Hc,Option.bind_some]
  cases ll b a <;> rfl
def l7 (r:ir) (b:ig):ir:=ir.mk r.live r.parent b
theorem ky {α:Type} [iB α] {l:List α} {i:Int} (h0:0≤i) (h1:i<(l.length:Int)):l[i.toNat]?=some (nth l i):=by
  have:=jC (l:=l) h0 h1
  unfold idx at this
  rwa [if_pos h0] at this
def jq (t:List ir) (f:Int) (a:ig):List ir×Bool :=
  if j8 t&&jl t f then (if ll a (nth t f).iL then (t.set f.toNat (l7 (nth t f) (tH (nth t f).iL a)),true) else (t,false)) else (t,false)
theorem AX {N:Nat} (hN:im≤N) {t:List ir} (hB:t.length<im) (f:Int) (a:ig):pK N t f a=some (jq t f a):=by
  unfold pK jq
  simp only [uK hB,tB hN,Option.bind_some]
  cases ht:j8 t
  · rfl
  have hl:=qZ ht
  simp only [Bool.not_true,cond_false,uU N hl,Option.bind_some]
  cases hv:jl t f
  · rfl
  obtain ⟨f0,f4⟩:=kX hv
  simp only [Bool.not_true,cond_false,jC (l:=t) f0 (by omega),HE,Option.bind_some,Bool.and_self,if_true]
  unfold vY
  cases ll a (nth t f).iL
  · have:t.set f.toNat (ir.mk (nth t f).live (nth t f).parent (ig.mk (nth t f).iL.bh (nth t f).iL.ib (nth t f).iL.ik))=t:=nI (ky f0 (by omega))
    simp only [Bool.false_eq_true,if_false]
    rw [this]
  · rfl
theorem vx {N:Nat} (hN:im≤N) {t:List ir} (hB:t.length<im) (f:Int) (a:ig):ni N t f a=some (jq t f a):=by
  unfold ni jq
  simp only [qK hB,uT hN,Option.bind_some]
  cases h:(j8 t&&jl t f)
  · rfl
  rw [Bool.and_eq_true] at h
  have hl:=qZ h.1
  obtain ⟨f0,f4⟩:=kX h.2
  simp only [Bool.not_true,cond_false,jC (l:=t) f0 (by omega),Ib,Option.bind_some,if_true]
  unfold vY
  cases ll a (nth t f).iL <;> rfl
theorem mh (t:List ir) (f:Int) (a:ig):(jq t f a).1.length=t.length:=by
  unfold jq
  split
  · split <;> simp
  · rfl
def uq (last pick:Int):Int→Int→List Int→Int
  | least,next,[]=>if decide (next ≥ 0) then next else least
  | least,next,y::l=>if decide (y<0) then uq last pick least next l else if y==pick then y else
      uq last pick (if decide (least<0) || decide (y<least) then y else least) (if decide (y > last)&&(decide (next<0) || decide (y<next)) then y else next) l
def ou (l:List Int) (last pick:Int):Int:=uq last pick (-1) (-1) l
theorem yJ {last pick:Int} {P:Int→Prop}:∀ (l:List Int) (a b:Int),P a→P b→(∀ y,y ∈ l→P y)→P (uq last pick a b l)
  | [],a,b,ha,hb,_=>by unfold uq;split <;> assumption
  | y::l,a,b,ha,hb,h=>by
    have hy:=h y (by simp)
    have hl:∀ z,z ∈ l→P z:=fun z hz=>h z (by simp [hz])
    unfold uq
    split
    · exact yJ l a b ha hb hl
    · split
      · exact hy
      · refine yJ l _ _ ?_ ?_ hl
        · split <;> assumption
        · split <;> assumption
theorem yE (l:List Int) (last pick:Int) (h:decide (ou l last pick<0)=false):ou l last pick ∈ l:=by
  have:=yJ (last:=last) (pick:=pick) (P:=fun y=>y=-1∨y ∈ l) l (-1) (-1) (.inl rfl) (.inl rfl) fun y hy=>.inr hy
  rcases this with q | q
  · unfold ou at h;rw [q] at h;simp at h
  · exact q
theorem J3 {N:Nat} (hN:im≤N) {l:List Int} (hl:l.length<im) (last pick:Int) {body:Int×Int×Int→Option ((Int×Int×Int)⊕((Int×Int×Int)⊕Int))}
    (hs:∀ (k:Nat) (a b y:Int),l[k]?=some y→k<l.length→body (a,b,(k:Int))=some (if decide (y<0) then .inl (a,b,((k+1:Nat):Int)) else if y==pick then .inr (.inr y) else
      .inl (if decide (a<0) || decide (y<a) then y else a,if decide (y > last)&&(decide (b<0) || decide (y<b)) then y else b,((k+1:Nat):Int)))) (he:∀ a b,body (a,b,(l.length:Int))=some (.inr (.inl (a,b,(l.length:Int))))) :
    (iter body N (-1, -1,0)).bind (fun o29=>Sum.elim (fun o29=>bif (decide (o29.2.1 ≥ 0)) then (some o29.2.1) else (some o29.1)) (fun r33=>some r33) o29)=some (ou l last pick):=by
  rw [show ((-1:Int),(-1:Int),(0:Int))=(fun (k:Nat) (t:Int×Int)=>(t.1,t.2,(k:Int))) 0 (-1, -1) from rfl,
    mP l (fun (k:Nat) (t:Int×Int)=>(t.1,t.2,(k:Int))) (fun _ t y=>if decide (y<0) then .inl t else if y==pick then .inr (.inr y) else .inl (if decide (t.1<0) || decide (y<t.1) then y else t.1,if decide (y > last)&&(decide (t.2<0) || decide (y<t.2)) then y else t.2)) (fun t=>.inl (t.1,t.2,(l.length:Int))) (fun _ _=>True) ?_ ?_ (Nat.lt_of_lt_of_le hl hN) trivial]
  · simp only [Option.bind_some]
    have key:∀ (m:List Int) (k:Nat) (t:Int×Int),Sum.elim (fun (o29:Int×Int×Int)=>bif (decide (o29.2.1 ≥ 0)) then (some o29.2.1) else (some o29.1)) (fun r33=>some r33) (l6 (ρ:=(Int×Int×Int)⊕Int) (fun _ t y=>if decide (y<0) then .inl t else if y==pick then .inr (.inr y) else .inl (if decide (t.1<0) || decide (y<t.1) then y else t.1,if decide (y > last)&&(decide (t.2<0) || decide (y<t.2)) then y else t.2)) (fun t=>.inl (t.1,t.2,(l.length:Int))) k t m)=some (uq last pick t.1 t.2 m):=by
      intro m
      induction m with
      | nil =>
        intro k t
        unfold l6 uq
        simp only [Sum.elim_inl]
        cases decide (t.2 ≥ 0) <;> rfl
      | cons y m ih =>
        intro k t
        unfold l6 uq
        cases decide (y<0)
        · cases y==pick
          · exact ih (k+1) _
          · rfl
        · exact ih (k+1) t
    exact key l 0 (-1, -1)
  · intro k t y hy hk _
    refine ⟨?_,fun _ _=>trivial⟩
    rw [hs k t.1 t.2 y hy hk]
    cases decide (y<0)
    · cases y==pick <;> rfl
    · rfl
  · intro t _
    exact he t.1 t.2
theorem Gk {N:Nat} (hN:im≤N) {l:List Int} (hl:l.length<im) (last pick:Int):rT N l last pick=some (ou l last pick):=by
  unfold rT
  refine J3 hN hl last pick ?_ ?_
  · intro k a b y hy hk
    simp only [jh hk,cond_true,iO,hy,Option.bind_some,jm (Nat.lt_trans hk hl)]
    cases decide (y<0) <;> cases y==pick <;> cases decide (a<0) <;> cases decide (y<a) <;> cases decide (y > last) <;> cases decide (b<0) <;> cases decide (y<b) <;> rfl
  · intro a b
    simp only [jg,cond_false]
def ri (o:cd):cd:=cd.mk o.gen o.kind o.box o.res o.iU o.bh o.wait o.iW (IntKind.i64.wrap (o.iR+1)) o.mark o.il o.data o.queue
def jY (p:dW) (now:Int):Int:=ou (runnable p now) p.next (IntKind.i64.wrap (p.want - 1))
def pO (p:dW) (now:Int):Bool:=decide (jY p now<0) || (decide (p.gE.ik ≥ 1000000) || decide ((nth p.heap.ag (jY p now)).iR ≥ 1000000))
def lC (p:dW) (now:Int):dW×Int :=
  if iS p then
    (if pO p now then (dW.mk p.label p.own p.tree p.heap p.ij p.next 0 p.gE p.iH p.lost, -1) else
      (dW.mk p.label p.own (jq p.tree (kN p (nth p.heap.ag (jY p now)).res) ⟨0,0,1⟩).1 (iA.mk (p.heap.ag.set (jY p now).toNat (ri (nth p.heap.ag (jY p now)))) p.heap.gc) p.ij (jY p now) 0
        (ig.mk p.gE.bh p.gE.ib (IntKind.i64.wrap (p.gE.ik+1))) p.iH p.lost,jY p now))
  else (p, -1)
theorem A6 {p:dW} {now:Int} (h:decide (jY p now<0)=false):iS p=true∧0≤jY p now∧jY p now≤9:=by
  have:=yE _ _ _ h
  unfold runnable at this
  exact pA (List.mem_filter.1 this).1
theorem He {o:cd} (h:jt o=true):0≤o.iR∧o.iR≤1000000:=by
  unfold jt at h
  cases hk:o.kind==0
  · simp only [hk,cond_false,Bool.and_eq_true] at h
    have h:=h.2.2.2.2.2.2.2
    cases h4:o.kind != 4
    · rw [h4] at h
      simp only [cond_false,Bool.and_eq_true] at h
      exact i7.1 h.2.2
    · rw [h4] at h
      simp only [cond_true,Bool.and_eq_true,beq_iff_eq] at h
      omega
  · simp only [hk,cond_true,Bool.and_eq_true,decide_eq_true_eq] at h
    rw [h.2.2]
    exact ⟨Int.le_refl _,by show (0:Int)≤1000000;decide⟩
theorem GN {n:Int} (h:n≤1000000):(n==1000000)=decide (n ≥ 1000000):=by
  rw [Bool.eq_iff_iff];simp;omega
theorem sK {a:ig} (h:iY a=true):(0≤a.bh∧a.bh≤1000000)∧(0≤a.ib∧a.ib≤1000000)∧(0≤a.ik∧a.ik≤1000000):=by
  unfold iY wV at h
  simpa only [Bool.and_eq_true,i7] using h
theorem mQ {p:dW} (h:iS p=true):iY p.gE=true:=by
  unfold iS uX at h
  simp only [Bool.and_eq_true] at h
  exact h.2.2.2.2.2.2.2.2.1
theorem GG {N:Nat} (hN:im≤N) {p:dW} (hb:iG p<im) (now:Int):rD N p now=some (lC p now):=by
  have hr:(runnable p now).length<im:=Nat.lt_of_le_of_lt (CP p now) (by decide)
  unfold rD lC
  simp only [sO hN hb,tF hN hb,E4 hN hb,Gk hN hr,Option.bind_some]
  cases hp:iS p
  · rfl
  simp only [Bool.not_true,cond_false,if_true]
  rw [show ou (runnable p now) p.next (IntKind.i64.wrap (p.want - 1))=jY p now from rfl]
  unfold pO
  have hsp:=sK (mQ hp)
  cases hn:decide (jY p now<0)
  · obtain ⟨_,n0,n9⟩:=A6 hn
    obtain ⟨e1,e2⟩:=(jS hp).at n0 n9
    have hran:=He ((jS hp).ok _ e2)
    simp only [cond_false,e1,Option.bind_some,GN hsp.2.2.2,GN hran.2,yY,EH hN,AX hN (mq hb).2.2.1,tL,Bool.false_or]
    cases decide (p.gE.ik ≥ 1000000)
    · cases decide ((nth p.heap.ag (jY p now)).iR ≥ 1000000)
      · have ea:iV p.gE (lu 2 1)=ig.mk p.gE.bh p.gE.ib (IntKind.i64.wrap (p.gE.ik+1)):=by
          show ig.mk (IntKind.i64.wrap (p.gE.bh+0)) (IntKind.i64.wrap (p.gE.ib+0)) (IntKind.i64.wrap (p.gE.ik+1))=_
          rw [iI (n:=p.gE.bh+0) (by omega) (by omega),iI (n:=p.gE.ib+0) (by omega) (by omega),Int.add_zero,Int.add_zero]
        rw [ea];rfl
      · rfl
    · rfl
  · rfl
theorem G8 (p:dW) (now:Int):iG (lC p now).1≤iG p+100:=by
  unfold lC
  split
  · rename_i hp
    split
    · exact Nat.le_add_right _ _
    · rename_i hn
      unfold pO at hn
      simp only [Bool.or_eq_true,not_or,Bool.not_eq_true] at hn
      obtain ⟨_,n0,n9⟩:=A6 hn.1
      have h1:=wC ((jS hp).ok _ ((jS hp).at n0 n9).2)
      have h2:jo iz (p.heap.ag.set (jY p now).toNat (ri (nth p.heap.ag (jY p now))))≤jo iz p.heap.ag+12:=Nat.le_trans uQ (Nat.add_le_add_left h1 _)
      have h3:=mh p.tree (kN p (nth p.heap.ag (jY p now)).res) ⟨0,0,1⟩
      unfold iG mr
      simp only [h3]
      omega
  · exact Nat.le_add_right _ _
end Go.Kx
/- Plain laws: what is freed, shaded, lh; a collector's step. No program in sight. -/
namespace Go.Kx
open Go
set_option linter.unusedVariables false
set_option linter.unusedSimpArgs false
set_option maxRecDepth 10000
def uo (i:Int) (x:Int):Int:=if x==i then -1 else x
def oo (i:Int) (o:cd):cd:=if o.kind==0 then o else cd.mk o.gen o.kind (if o.box==i then -1 else o.box) o.res o.iU o.bh o.wait o.iW o.iR o.mark (o.il.map (uo i)) o.data o.queue
def k7 (l:List cd) (i:Int):List cd×Bool:=if kI l&&(iE i 1 9&&((nth l i).kind != 0)) then ((l.set i.toNat (blank (nth l i).gen)).map (oo i),true) else (l,false)
theorem BI {l:List cd} (h:Ar l) {i g:Int} {k:Nat} {y:cd} (hy:(l.set i.toNat (blank g))[k]?=some y) (hk:(y.kind==0)=false):jt y=true:=by
  rcases List.mem_or_eq_of_mem_set (List.mem_of_getElem? hy) with q | q
  · exact h.ok y q
  · rw [q] at hk;simp [blank] at hk
theorem xq {o:cd} (h:jt o=true) (hk:(o.kind==0)=false):o.il.length=2:=by
  unfold jt at h
  simp only [hk,cond_false,Bool.and_eq_true] at h
  obtain ⟨_,_,_,_,_,_,hl,_⟩:=h
  unfold np at hl
  simp only [Bool.and_eq_true,beq_iff_eq] at hl
  omega
theorem Dq {N:Nat} (hN:im≤N) {l:List cd} (hb:jo iz l<im) (i:Int):o4 N l i=some (k7 l i):=by
  unfold o4 k7
  simp only [yn hN hb,xR hN hb,oF,Option.bind_some]
  cases ha:kI l
  · rfl
  have h:=kf.1 ha
  cases hi:iE i 1 9
  · rfl
  have hr:=i7.1 hi
  simp only [Bool.not_true,cond_false,(h.at (i:=i) (by omega) hr.2).1,Option.bind_some,bne,Bool.true_and]
  cases hk:(nth l i).kind==0
  · simp only [cond_false,Bool.not_false,if_true]
    rw [show cd.mk (nth l i).gen 0 0 0 0 0 0 0 0 false [] [] []=blank (nth l i).gen from rfl]
    have hlen:(l.set i.toNat (blank (nth l i).gen)).length=l.length:=List.length_set
    rw [uV (l.set i.toNat (blank (nth l i).gen)) (oo i) (by rw [hlen];exact Nat.lt_of_lt_of_le h.vM hN)]
    · rfl
    · intro k t y ht hty hy hkl
      have hk10:k<10:=by rw [hlen,h.len] at hkl;exact hkl
      have hd:decide ((k:Int)<(l.length:Int))=true:=by simp [h.len];omega
      have hkt:k<t.length:=jv hty
      simp only [hd,cond_true,iO,hty,Option.bind_some,jm (show k<im from Nat.lt_trans hk10 (by decide))]
      unfold oo
      cases hyk:y.kind==0
      · have ho:=BI h hy hyk
        have h2:=xq ho hyk
        have hLB:y.il.length<im:=by rw [h2];decide
        have inner:iter (fun (s124:(List Int)×Int)=>(bif (decide (s124.2<(y.il.length:Int))) then ((idx s124.1 s124.2).bind fun y127=>bif (y127==i) then (some (.inl (s124.1.set (s124.2:Int).toNat (-1),IntKind.i64.wrap (s124.2+1)))) else (some (.inl (s124.1,IntKind.i64.wrap (s124.2+1))))) else (some (.inr (s124.1,s124.2))):Option (((List Int)×Int)⊕((List Int)×Int)))) N (y.il,0)=some (y.il.map (uo i),(y.il.length:Int)):=by
          rw [uV y.il (uo i) (Nat.lt_of_lt_of_le hLB hN)]
          · intro j t2 z ht2 hz _ hj
            simp only [jh hj,cond_true,iO,hz,Option.bind_some,jm (Nat.lt_trans hj hLB),Int.toNat_natCast]
            unfold uo
            cases z==i
            · simp [nI hz]
            · rfl
          · intro t2 ht2
            simp only [jg,cond_false]
        simp only [cond_false,Bool.false_eq_true,if_false]
        cases hbx:y.box==i
        · simp only [cond_false,Option.bind_some,iO,hty,Bool.false_eq_true,if_false]
          rw [inner];rfl
        · simp only [cond_true,Option.bind_some,Int.toNat_natCast,iO,List.getElem?_set_self hkt,if_true]
          rw [inner]
          simp only [Option.bind_some,List.set_set]
      · simp only [cond_true,if_true]
        rw [nI hty]
    · intro t ht
      have hd:decide (((l.set i.toNat (blank (nth l i).gen)).length:Int)<(l.length:Int))=false:=by rw [hlen];simp
      simp only [hd,cond_false]
  · rfl
theorem yv {N:Nat} (hN:im≤N) {l:List cd} (hb:jo iz l<im) (hw:wA l) (i:Int):nH N l i=some (k7 l i):=by
  unfold nH k7
  simp only [za hN hb,qB hN hb hw,nB,Option.bind_some]
  cases ha:kI l
  · rfl
  have h:=kf.1 ha
  cases hi:iE i 1 9
  · rfl
  have hr:=i7.1 hi
  simp only [Bool.not_true,cond_false,(h.at (i:=i) (by omega) hr.2).1,Option.bind_some,bne,Bool.true_and]
  cases hk:(nth l i).kind==0
  · simp only [cond_false,Bool.not_false,if_true]
    rw [show cd.mk (nth l i).gen 0 0 0 0 0 0 0 0 false [] [] []=blank (nth l i).gen from rfl]
    have hlen:(l.set i.toNat (blank (nth l i).gen)).length=l.length:=List.length_set
    rw [uV (l.set i.toNat (blank (nth l i).gen)) (oo i) (by rw [hlen];exact Nat.lt_of_lt_of_le h.vM hN)]
    · rfl
    · intro k t y ht hty hy hkl
      have hk10:k<10:=by rw [hlen,h.len] at hkl;exact hkl
      have hkt:k<t.length:=jv hty
      simp only [jh hkt,cond_true,iO,hty,Option.bind_some,jm (show k<im from Nat.lt_trans hk10 (by decide))]
      unfold oo
      cases hyk:y.kind==0
      · have ho:=BI h hy hyk
        have h2:=xq ho hyk
        simp only [cond_false,Bool.false_eq_true,if_false]
        have inner:∀ (t2:List cd) (z:cd),t2.length=t.length→t2[k]?=some z→z.il.length=2→iter (fun (s90:(List cd)×Int)=>(bif (decide (s90.2<2)) then ((idx s90.1 (k:Int)).bind fun y93=>(idx y93.il s90.2).bind fun y115=>bif (y115==i) then (some (.inl ((s90.1.set (k:Int).toNat (cd.mk y93.gen y93.kind y93.box y93.res y93.iU y93.bh y93.wait y93.iW y93.iR y93.mark (y93.il.set (s90.2:Int).toNat (-1)) y93.data y93.queue)),IntKind.i64.wrap (s90.2+1)))) else (some (.inl (s90.1,IntKind.i64.wrap (s90.2+1))))) else (some (.inr (s90.1,s90.2))):Option (((List cd)×Int)⊕((List cd)×Int)))) N (t2,0) =
            some (t2.set k (cd.mk z.gen z.kind z.box z.res z.iU z.bh z.wait z.iW z.iR z.mark (z.il.map (uo i)) z.data z.queue),2):=by
          intro t2 z hl2 hz hz2
          have hk2:k<t2.length:=by omega
          obtain ⟨a,b,hab⟩:∃ a b,z.il=[a,b]:=by
            match hq:z.il with
            | []=>simp [hq] at hz2
            | [a]=>simp [hq] at hz2
            | [a,b]=>exact ⟨a,b,rfl⟩
            | a::b::c::r=>simp [hq] at hz2
          obtain ⟨M,rfl⟩:∃ M,N=M+3:=⟨N - 3,by have:16777216≤N:=hN;omega⟩
          have hset:∀ u:cd,(t2.set k u)[k]?=some u:=fun u=>List.getElem?_set_self hk2
          have hid:t2.set k (cd.mk z.gen z.kind z.box z.res z.iU z.bh z.wait z.iW z.iR z.mark [a,b] z.data z.queue)=t2:=by rw [← hab];exact nI hz
          have w1:IntKind.i64.wrap (0+1)=1:=by decide
          have w2:IntKind.i64.wrap (1+1)=2:=by decide
          unfold iter
          simp only [show decide ((0:Int)<2)=true from rfl,cond_true,iO,hz,Option.bind_some,hab,show idx [a,b] 0=some a from rfl,w1,Int.toNat_natCast]
          cases hA:a==i
          · simp only [cond_false,Option.bind_some]
            unfold iter
            simp only [show decide ((1:Int)<2)=true from rfl,cond_true,iO,hz,Option.bind_some,hab,show idx [a,b] 1=some b from rfl,w2,Int.toNat_natCast]
            cases hB:b==i
            · simp only [cond_false,Option.bind_some]
              unfold iter
              simp [uo,hA,hB,hid]
            · simp only [cond_true,Option.bind_some]
              unfold iter
              simp [uo,hA,hB]
          · simp only [cond_true,Option.bind_some]
            unfold iter
            simp only [show decide ((1:Int)<2)=true from rfl,cond_true,iO,hset,Option.bind_some,w2,Int.toNat_natCast]
            rw [show idx ([a,b].set (0:Int).toNat (-1)) 1=some b from rfl]
            simp only [Option.bind_some]
            cases hB:b==i
            · simp only [cond_false,Option.bind_some]
              unfold iter
              simp [uo,hA,hB]
            · simp only [cond_true,Option.bind_some,List.set_set]
              unfold iter
              simp [uo,hA,hB]
        simp only [iO,Int.toNat_natCast] at inner ⊢
        cases hbx:y.box==i
        · simp only [cond_false,Option.bind_some,Bool.false_eq_true,if_false]
          rw [inner t y rfl hty h2];rfl
        · simp only [cond_true,Option.bind_some,Int.toNat_natCast,if_true]
          have e:=inner (t.set k (cd.mk y.gen y.kind (-1) y.res y.iU y.bh y.wait y.iW y.iR y.mark y.il y.data y.queue)) (cd.mk y.gen y.kind (-1) y.res y.iU y.bh y.wait y.iW y.iR y.mark y.il y.data y.queue) List.length_set (List.getElem?_set_self hkt) h2
          rw [e]
          simp only [Option.bind_some,List.set_set]
      · simp only [cond_true,if_true]
        rw [nI hty]
    · intro t ht
      rw [← ht]
      simp only [jg,cond_false]
  · rfl
def lJ (t:List ir) (f:Int) (a:ig):List ir×Bool :=
  if j8 t&&(iY a&&iY (iV (jU t) a)) then
    (t.set (if jl t f then f else 0).toNat (l7 (nth t (if jl t f then f else 0)) (iV (nth t (if jl t f then f else 0)).iL a)),true)
  else (t,false)
theorem vm (t:List ir) (f:Int) (a:ig):(lJ t f a).1.length=t.length:=by
  unfold lJ
  split <;> simp
theorem zA {N:Nat} (hN:im≤N) {t:List ir} (hB:t.length<im) (f:Int) (a:ig):oz N t f a=some (lJ t f a):=by
  unfold oz lJ
  simp only [uK hB,tB hN,su,Bl hN hB,tL,Option.bind_some,lN]
  cases ht:j8 t
  · rfl
  have hl:=qZ ht
  cases iY a
  · rfl
  cases iY (iV (jU t) a)
  · rfl
  simp only [Bool.not_true,Bool.or_self,cond_false,uU N hl,Option.bind_some,Bool.and_self,if_true]
  cases hv:jl t f
  · simp only [Bool.not_false,cond_true,Option.bind_some,jC (l:=t) (i:=0) (by omega) (by omega),Bool.false_eq_true,if_false];rfl
  · obtain ⟨f0,f4⟩:=kX hv
    simp only [Bool.not_true,cond_false,Option.bind_some,jC (l:=t) f0 (by omega),if_true];rfl
theorem Jf {n:Int}:wV n=true ↔ 0≤n∧n≤1000000:=i7
theorem jk {a:ig}:iY a=true ↔ (0≤a.bh∧a.bh≤1000000)∧(0≤a.ib∧a.ib≤1000000)∧(0≤a.ik∧a.ik≤1000000):=by
  unfold iY;simp only [Bool.and_eq_true,Jf]
theorem qW:∀ (t:List ir) (s:ig) (B:Int),(∀ r,r ∈ t→iY r.iL=true)→0≤B→B+1000000 * (t.length:Int)≤1000000000→(0≤s.bh∧s.bh≤B)→(0≤s.ib∧s.ib≤B)→(0≤s.ik∧s.ik≤B) →
    (s.bh≤(ju s t).bh∧s.ib≤(ju s t).ib∧s.ik≤(ju s t).ik) ∧
      ∀ r,r ∈ t→r.live=true→r.iL.bh≤(ju s t).bh∧r.iL.ib≤(ju s t).ib∧r.iL.ik≤(ju s t).ik
  | [],s,B,_,_,_,_,_,_=>⟨⟨Int.le_refl _,Int.le_refl _,Int.le_refl _⟩,fun r hr=>by simp at hr⟩
  | r::t,s,B,h,hB,hL,h1,h2,h3=>by
    have hr:=jk.1 (h r (by simp))
    simp only [List.length_cons] at hL
    have e:ju s (r::t)=ju (if r.live then iV s r.iL else s) t:=rfl
    rw [e]
    cases hv:r.live
    · obtain ⟨q1,q2⟩:=qW t s B (fun x hx=>h x (by simp [hx])) hB (by omega) h1 h2 h3
      refine ⟨q1,fun x hx hl=>?_⟩
      rcases List.mem_cons.1 hx with rfl | hx
      · rw [hv] at hl;cases hl
      · exact q2 x hx hl
    · simp only [if_true]
      have w1:(iV s r.iL).bh=s.bh+r.iL.bh:=iI (by omega) (by omega)
      have w2:(iV s r.iL).ib=s.ib+r.iL.ib:=iI (by omega) (by omega)
      have w3:(iV s r.iL).ik=s.ik+r.iL.ik:=iI (by omega) (by omega)
      obtain ⟨⟨a1,a2,a3⟩,q2⟩:=qW t (iV s r.iL) (B+1000000) (fun x hx=>h x (by simp [hx])) (by omega) (by omega) (by omega) (by omega) (by omega)
      refine ⟨⟨by omega,by omega,by omega⟩,fun x hx hl=>?_⟩
      rcases List.mem_cons.1 hx with rfl | hx
      · exact ⟨by omega,by omega,by omega⟩
      · exact q2 x hx hl
theorem A8 {t:List ir} (h:Tr t) {a:ig} (ha:iY a=true) (hs:iY (iV (ju ⟨0,0,0⟩ t) a)=true) {i:Int} (hi:0≤i∧i≤4) (hv:(nth t i).live=true):lH (nth t i).iL a=(iV (nth t i).iL a,true):=by
  have hl:=h.len
  have hm:nth t i ∈ t:=kT hi.1 (by omega)
  obtain ⟨_,q⟩:=qW t ⟨0,0,0⟩ 0 h.iL (by omega) (by omega) ⟨by decide,by decide⟩ ⟨by decide,by decide⟩ ⟨by decide,by decide⟩
  obtain ⟨q1,q2,q3⟩:=q _ hm hv
  have hb:=jk.1 (h.iL _ hm)
  have ha':=jk.1 ha
  have hS:=jk.1 h.sum
  have w1:(iV (ju ⟨0,0,0⟩ t) a).bh=(ju ⟨0,0,0⟩ t).bh+a.bh:=iI (by omega) (by omega)
  have w2:(iV (ju ⟨0,0,0⟩ t) a).ib=(ju ⟨0,0,0⟩ t).ib+a.ib:=iI (by omega) (by omega)
  have w3:(iV (ju ⟨0,0,0⟩ t) a).ik=(ju ⟨0,0,0⟩ t).ik+a.ik:=iI (by omega) (by omega)
  have hs':=jk.1 hs
  have v1:(iV (nth t i).iL a).bh=(nth t i).iL.bh+a.bh:=iI (by omega) (by omega)
  have v2:(iV (nth t i).iL a).ib=(nth t i).iL.ib+a.ib:=iI (by omega) (by omega)
  have v3:(iV (nth t i).iL a).ik=(nth t i).iL.ik+a.ik:=iI (by omega) (by omega)
  have:iY (iV (nth t i).iL a)=true:=jk.2 ⟨by omega,by omega,by omega⟩
  unfold lH
  rw [h.iL _ hm,ha,this];rfl
theorem Ff {N:Nat} (hN:im≤N) {t:List ir} (hB:t.length<im) (f:Int) (a:ig):pT N t f a=some (lJ t f a):=by
  unfold pT lJ
  simp only [qK hB,wE hN,z9 hN hB,ve,uT hN,Option.bind_some]
  cases ht:j8 t
  · rfl
  have hT:=ko.1 ht
  have hl:=hT.len
  have e:(lH (ju ⟨0,0,0⟩ t) a).2=(iY a&&iY (iV (jU t) a)):=by
    unfold lH jU
    rw [hT.sum,ht]
    simp only [if_true,Bool.true_and]
    cases iY a&&iY (iV (ju ⟨0,0,0⟩ t) a) <;> rfl
  rw [e]
  simp only [Bool.not_true,cond_false,Bool.true_and]
  cases hc:(iY a&&iY (iV (jU t) a))
  · rfl
  rw [Bool.and_eq_true] at hc
  have hs:iY (iV (ju ⟨0,0,0⟩ t) a)=true:=by
    have:=hc.2
    unfold jU at this
    rwa [ht,if_pos rfl] at this
  simp only [Bool.not_true,cond_false,if_true]
  cases hv:jl t f
  · simp only [Bool.not_false,cond_true,Option.bind_some,jC (l:=t) (i:=0) (by omega) (by omega),A8 hT hc.1 hs (i:=0) ⟨by omega,by omega⟩ hT.yb,Bool.false_eq_true,if_false];rfl
  · obtain ⟨f0,f4⟩:=kX hv
    have hlv:(nth t f).live=true:=by unfold jl at hv;rw [Bool.and_eq_true] at hv;exact hv.2
    simp only [Bool.not_true,cond_false,Option.bind_some,jC (l:=t) f0 (by omega),A8 hT hc.1 hs (i:=f) ⟨f0,f4⟩ hlv,if_true];rfl
end Go.Kx
