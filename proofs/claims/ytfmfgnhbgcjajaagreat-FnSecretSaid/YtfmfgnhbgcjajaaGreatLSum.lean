import Derived.Test.YtfmfgnhbgcjajaaGreatLReach
namespace Go.Kx
open Go
open Go.IntKind (i64)
set_option linter.unusedVariables false
set_option linter.unusedSimpArgs false
set_option maxRecDepth 10000
def NA(a:de):Prop:=i64.wrap a.cd=a.cd/\i64.wrap a.dg=a.dg/\i64.wrap a.dn=a.dn
theorem wrap_wrap(n:Int):i64.wrap (i64.wrap n)=i64.wrap n:=by
  have:-9223372036854775808<=i64.wrap n/\i64.wrap n<=9223372036854775807:=by
    simp only[IntKind.wrap,IntKind.signed,IntKind.bits];simp;omega
  exact dB this.1 this.2
theorem NA.sum(a b:de):NA (dU a b):=⟨wrap_wrap _,wrap_wrap _,wrap_wrap _⟩
theorem NA.zero:NA ⟨0,0,0⟩:=⟨by decide,by decide,by decide⟩
theorem Me{a:de}(h:NA a):dU a ⟨0,0,0⟩=a:=by
  obtain⟨h1,h2,h3⟩:=h;unfold dU;simp only[Int.add_zero,h1,h2,h3]
def fy(t:List dj):de:=if fk t then eU ⟨0,0,0⟩ t else⟨0,0,0⟩
theorem LF{N:Nat}(hN:df<=N){t:List dj}(hB:t.length<df):rA N t=some (fy t):=by
  unfold rA fy;rw[vx hN,RK,B4 hN hB];cases fk t<;>rfl
theorem FO:∀(t:List dj) (s:de),NA s->(∀r,r∈t->r.RC=false->r.dO=⟨0,0,0⟩)->t.foldl (fun s r=>dU s r.dO) s=eU s t
  | [],s,_,_=>rfl
  | r::t,s,hs,h=>by
    unfold eU;simp only[List.foldl_cons];cases hl:r.RC
    · rw[h r (by simp) hl,Me hs];exact FO t s hs fun x hx=>h x (by simp[hx])
    · exact FO t _ (NA.sum _ _) fun x hx=>h x (by simp[hx])
structure Tr (t:List dj):Prop where
  len:t.length=5
  pA:(nth t 0).RC=true
  BE:(nth t 0).RE=-1
  dead:∀r,r∈t->r.RC=false->r=kh
  dO:∀r,r∈t->dP r.dO=true
  lead:∀(k:Nat) (r:dj),t[k]?=some r->r.RC=true->leads t 5 (k:Int)=true
  sum:dP (eU ⟨0,0,0⟩ t)=true
theorem E6:dP kh.dO=true:=by decide
theorem fc{t:List dj}:fk t=true <-> Tr t:=by
  unfold fk;simp only[RP,Bool.not_eq_true',bne_eq_false_iff_eq,iV,Nat.zero_add];constructor
  · rintro⟨h1,h2,h3,h4,h5⟩;have hm:∀r,r∈t->∃k:Nat,t[k]?=some r:=fun o ho=>List.getElem?_of_mem ho;refine⟨by omega,h2,h3,fun r hr hl=>?_,fun r hr=>?_,fun k r hk hl=>?_,h5⟩
    · obtain⟨k,hk⟩:=hm r hr;have:=h4 k r hk;unfold mC at this;simpa[hl]using this
    · obtain⟨k,hk⟩:=hm r hr;have:=h4 k r hk;unfold mC at this;split at this
      · simp only[RP]at this;exact this.1
      · simp only[decide_eq_true_eq]at this;rw[this];exact E6
    · have:=h4 k r hk;unfold mC at this;rw[if_pos hl]at this;simp only[RP]at this;exact this.2
  · intro h;refine⟨by have:=h.len;omega,h.pA,h.BE,fun k r hr=>?_,h.sum⟩;unfold mC;have hm:=List.mem_of_getElem? hr;cases hl:r.RC
    · simp[h.dead r hm hl]
    · simp[h.dO r hm,h.lead k r hr hl]
theorem C5{N:Nat}(hN:df<=N){t:List dj}(hB:t.length<df):pd N t=some (fy t):=by
  unfold pd fy;rw[pH hN,RK];cases h:fk t
  · rfl
  have ht:=fc.1 h;simp only[RN,RL,if_true]
  rw[show((0:Int),(0:Int),(0:Int),(0:Int))=(fun(k:Nat) (s:de)=>((k:Int),s.cd,s.dg,s.dn)) 0 ⟨0,0,0⟩ from rfl,
    gz t (fun(k:Nat) (s:de)=>((k:Int),s.cd,s.dg,s.dn)) (fun _ s r=>dU s r.dO) (fun s=>((t.length:Int),s.cd,s.dg,s.dn)) (fun _ _=>True) ?_ ?_ (Nat.lt_of_lt_of_le hB hN) trivial,i9,FO t _ NA.zero fun r hr hl=>by rw[ht.dead r hr hl];rfl]
  · rfl
  · intro k s r hy hk _;simp only[ei hk,RM,dM,hy,RK,sk,eB (Nat.lt_trans hk hB)];exact⟨trivial,trivial⟩
  · intro s _;simp only[ep,RL]
def held(p:bh):Int:=((p.py.ag.take 10).filter eG).foldl (fun n o=>i64.wrap (n+o.cd)) 0
theorem foldl_filter{α β:Type}(p:α->Bool)(g:β->α->β):∀(l:List α) (b:β),(l.filter p).foldl g b=l.foldl (fun b y=>if p y then g b y else b) b
  | [],_=>rfl
  | y::l,b=>by
    rw[List.filter_cons,List.foldl_cons];cases h:p y
    · simp[foldl_filter p g l]
    · simp[foldl_filter p g l]
theorem foldl_map'{α β γ:Type}(f:α->γ)(g:β->γ->β):∀(l:List α) (b:β),(l.map f).foldl g b=l.foldl (fun b y=>g b (f y)) b
  | [],_=>rfl
  | y::l,b=>by simp[foldl_map' f g l]
theorem C6{α β:Type}(p:α->Bool)(h:α->β):∀(l:List α) (k:Nat),jo (fun _ y=>p y) (fun _ y=>h y) k l=(l.filter p).map h
  | [],_=>rfl
  | y::l,k=>by
    unfold jo;rw[C6 p h l,List.filter_cons];split<;>simp
theorem Ph{N:Nat}(hN:df<=N){p:bh}(hb:dC p<df)(hw:wP p):vu N p=some (held p):=by
  have h4:=(gm hb).2.2.2.1;have hl:=gj h4;have hN':16777216<=N:=hN;unfold vu held
  rw[foldl_filter,show((0:Int),(0:Int))=(fun(k:Nat) (n:Int)=>(n,(k:Int))) 0 0 from rfl,
    gz (p.py.ag.take 10) (fun(k:Nat) (n:Int)=>(n,(k:Int))) (fun _ n o=>if eG o then i64.wrap (n+o.cd)else n) (fun n=>(n,(((p.py.ag.take 10).length:Nat):Int))) (fun _ _=>True) ?_ ?_ (by simp;omega) trivial,i9]
  · rfl
  · intro k n y hy hk _
    have hk2:k<10/\k<p.py.ag.length:=by simp at hk;omega
    rw[List.getElem?_take_of_lt hk2.1]at hy;have hm:=List.mem_of_getElem? hy
    have h3:decide ((k:Int)<10)=true:=by simp;omega
    refine⟨?_,trivial⟩;simp only[ei hk2.2,h3,RM,dM,hy,RK,Hr hN (fq h4 hm) (hw y hm),eB (show k<df from Nat.lt_trans hk2.1 (by decide))];cases eG y<;>rfl
  · intro n _;simp only[List.length_take]
    rcases Nat.lt_or_ge 10 p.py.ag.length with h|h
    · have e:min 10 p.py.ag.length=10:=by omega
      have h3:decide (((10:Nat):Int)<(p.py.ag.length:Int))=true:=by simp;omega
      simp only[e,h3,RM];rfl
    · have e:min 10 p.py.ag.length=p.py.ag.length:=by omega
      simp only[e,ep,RL,RK]
def view(o:c6):oo:=oo.mk o.RG o.Rq o.box o.RF o.dY o.cd o.Ry o.ee o.ed o.mark
theorem Qa(n:Nat):(if(10:Int)<(n:Int)then(10:Int)else(n:Int))=((min 10 n:Nat):Int):=by split<;>omega
theorem Dk{N:Nat}(hN:df<=N){p:bh}(hb:dC p<df):mR N p=some (((p.py.ag.take 10).filter eG).map view):=by
  have h4:=(gm hb).2.2.2.1;have h10:eE dw (p.py.ag.take 10)<df:=Nat.lt_of_le_of_lt (Am _ _ _) h4;have hl:=gj h10;unfold mR
  have e:p.py.ag.take (min 10 p.py.ag.length)=p.py.ag.take 10:=by
    rcases Nat.lt_or_ge 10 p.py.ag.length with h|h
    · rw[show min 10 p.py.ag.length=10 by omega]
    · rw[show min 10 p.py.ag.length=p.py.ag.length by omega,List.take_of_length_le h,List.take_length]
  rw[Qa,vm (by omega),e,RK,jq (p.py.ag.take 10) (fun _ o=>eG o) (fun _ o=>view o) hl hN,C6]
  · rfl
  · intro k t y hy hk ht;have hz:=fq h10 (List.mem_of_getElem? hy);simp only[ei hk,RM,dM,hy,RK,HU hN hz,eB (Nat.lt_trans hk hl),fZ ht (Nat.lt_of_le_of_lt hk hl)];cases eG y<;>rfl
  · intro t;simp only[ep,RL]
theorem PD{N:Nat}(hN:df<=N){p:bh}(hb:dC p<df):vE N p=some (held p):=by
  unfold vE held;rw[Dk hN hb,RK]
  have hl:(((p.py.ag.take 10).filter eG).map view).length<df:=by
    have h1:=List.length_filter_le eG (p.py.ag.take 10);have h2:(16777216:Nat)=df:=rfl;simp only[List.length_map];simp only[List.length_take]at h1;omega
  have e:=foldl_map' view (fun(n:Int) (o:oo)=>i64.wrap (n+o.cd)) ((p.py.ag.take 10).filter eG) 0;generalize ((p.py.ag.take 10).filter eG).map view=v at *
  rw[show((0:Int),(0:Int))=(fun(k:Nat) (n:Int)=>(n,(k:Int))) 0 0 from rfl,
    gz v (fun(k:Nat) (n:Int)=>(n,(k:Int))) (fun _ n o=>i64.wrap (n+o.cd)) (fun n=>(n,(v.length:Int))) (fun _ _=>True) ?_ ?_ (Nat.lt_of_lt_of_le hl hN) trivial,i9,e]
  · rfl
  · intro k n y hy hk _;simp only[ei hk,RM,dM,hy,RK,eB (Nat.lt_trans hk hl)];exact⟨trivial,trivial⟩
  · intro n _;simp only[ep,RL]
def hD(p:bh):de:=if dP p.dc then dU ⟨i64.wrap ((fy p.Rr).cd+held p),(fy p.Rr).dg,(fy p.Rr).dn⟩ p.dc else fy p.Rr
theorem J3{N:Nat}(hN:df<=N){p:bh}(hb:dC p<df):rG N p=some (hD p):=by
  unfold rG hD;simp only[C5 hN (gm hb).2.2.1,oV,PD hN hb,sk,RK];cases dP p.dc<;>rfl
theorem JO{N:Nat}(hN:df<=N){p:bh}(hb:dC p<df)(hw:wP p):rN N p=some (hD p):=by
  unfold rN hD;simp only[LF hN (gm hb).2.2.1,o8,Ph hN hb hw,RK];cases dP p.dc<;>rfl
def lJ(s:de)(l:List bh):de:=l.foldl (fun s p=>dU s (hD p)) s
def eI(w:dh):Bool:=dv w.RB 0 1000000&&(dv (w.parts.length:Int) 1 3&&(w.parts.all dH&&dP (lJ ⟨0,0,0⟩ w.parts)))
def wW(l:List bh):Prop:=∀p,p∈l->wP p
theorem MJ{N:Nat}(hN:df<=N){l:List bh}(hb:eE dC l<df)(hw:wW l):tF N l=some (lJ ⟨0,0,0⟩ l):=by
  have hB:=gj hb;unfold tF lJ
  rw[show((0:Int),(0:Int),(0:Int),(0:Int))=(fun(k:Nat) (s:de)=>((k:Int),s.cd,s.dg,s.dn)) 0 ⟨0,0,0⟩ from rfl,
    gz l (fun(k:Nat) (s:de)=>((k:Int),s.cd,s.dg,s.dn)) (fun _ s p=>dU s (hD p)) (fun s=>((l.length:Int),s.cd,s.dg,s.dn)) (fun _ _=>True) ?_ ?_ (Nat.lt_of_lt_of_le hB hN) trivial,i9]
  · rfl
  · intro k s p hy hk _;have hm:=List.mem_of_getElem? hy;simp only[ei hk,RM,dM,hy,RK,JO hN (fq hb hm) (hw p hm),eB (Nat.lt_trans hk hB)];exact⟨rfl,trivial⟩
  · intro s _;simp only[ep,RL]
theorem wz{N:Nat}(hN:df<=N){w:dh}(hb:eE dC w.parts<df)(hw:wW w.parts):lZ N w=some (eI w):=by
  have hB:=gj hb;unfold lZ eI;simp only[jj,RK,gv];cases dv w.RB 0 1000000
  · rfl
  cases dv (w.parts.length:Int) 1 3
  · rfl
  simp only[RN,Bool.or_self,RL,RO];rw[gp w.parts (fun _ p=>dH p) (.inl (w.parts.length:Int)) (.inr false) (Nat.lt_of_lt_of_le hB hN),gZ]
  · simp only[RK,MJ hN hb hw,o8];cases w.parts.all dH<;>rfl
  · intro k y hy hk;have hm:=List.mem_of_getElem? hy;simp only[ei hk,RM,dM,hy,RK,sd hN (fq hb hm) (hw y hm),eB (Nat.lt_trans hk hB)];cases dH y<;>rfl
  · simp only[ep,RL]
theorem wx{N:Nat}(hN:df<=N){w:dh}(hb:eE dC w.parts<df):ma N w=some (eI w):=by
  have hB:=gj hb;unfold ma eI;simp only[vB,jK,RK,gv];cases dv w.RB 0 1000000
  · rfl
  cases dv (w.parts.length:Int) 1 3
  · rfl
  simp only[RN,Bool.or_self,RL,RO]
  rw[show((0:Int),(0:Int),(0:Int),(0:Int))=(fun(k:Nat) (s:de)=>((k:Int),s.cd,s.dg,s.dn)) 0 ⟨0,0,0⟩ from rfl,
    ku w.parts (fun(k:Nat) (s:de)=>((k:Int),s.cd,s.dg,s.dn)) (fun _ s p=>if dH p then .inl (dU s (hD p))else .inr (.inr false)) (fun s=>.inl ((w.parts.length:Int),s.cd,s.dg,s.dn)) (fun _ _=>True) ?_ ?_ (Nat.lt_of_lt_of_le hB hN) trivial]
  · simp only[RK,oV]
    have key:∀(l:List bh) (k:Nat) (s:de),Sum.elim (fun(o56:Int×Int×Int×Int)=>some (dP (de.mk o56.2.1 o56.2.2.1 o56.2.2.2))) (fun r61=>some r61) (jL (fun _ s p=>if dH p then .inl (dU s (hD p))else .inr (.inr false)) (fun s=>.inl ((w.parts.length:Int),s.cd,s.dg,s.dn)) k s l)=some (l.all dH&&dP (lJ s l)):=by
      intro l
      induction l with
      | nil=>intro k s;rfl
      | cons p l ih =>
        intro k s;unfold jL;rw[List.all_cons];cases hp:dH p
        · rfl
        · simpa[lJ]using ih (k+1) (dU s (hD p))
    exact key w.parts 0 _
  · intro k s p hy hk _;have hm:=List.mem_of_getElem? hy;refine⟨?_,fun _ _=>trivial⟩;simp only[ei hk,RM,dM,hy,RK,sb hN (fq hb hm),J3 hN (fq hb hm),sk,eB (Nat.lt_trans hk hB)];cases dH p<;>rfl
  · intro s _;simp only[ep,RL]
theorem nV{t:List dj}(h:fk t=true):t.length=5:=(fc.1 h).len
def hZ(p:bh)(i:Int):Int:=if fk p.Rr&&eh p.Rr i then i else 0
theorem gM{t:List dj}{i:Int}(h:eh t i=true):0<=i/\i<=4:=by
  unfold eh at h;simp only[RP,dI]at h;exact h.1
theorem si(p:bh)(i:Int):0<=hZ p i/\hZ p i<=4:=by
  unfold hZ;split
  · rename_i h;simp only[RP]at h;exact gM h.2
  · omega
theorem BI{N:Nat}(hN:df<=N)(p:bh)(i:Int):pL N p i=some (hZ p i):=by
  unfold pL hZ;rw[pH hN,RK];cases h:fk p.Rr
  · rfl
  · simp only[RN,RL,pR N (nV h),RK,RO];cases eh p.Rr i<;>rfl
theorem r8{N:Nat}(hN:df<=N)(t:List dj)(i:Int):kc N t i=some (fk t&&eh t i):=by
  unfold kc eh;simp only[vx hN,vj,RK];cases h:fk t
  · rfl
  have hl:=nV h;cases hi:dv i 0 4
  · rfl
  · simp only[RM,BB hi (by omega) (show(4:Int)<(t.length:Int) by omega),RK,RO]
theorem xb{N:Nat}(hN:df<=N)(p:bh)(i:Int):kt N p i=some (hZ p i):=by
  unfold kt hZ;rw[r8 hN,RK];cases(fk p.Rr&&eh p.Rr i)<;>rfl
theorem iM{p:bh}(h:dH p=true):fk p.Rr=true:=by
  unfold dH at h;simp only[RP]at h;exact h.2.2.1
theorem w7{p:bh}(h:dH p=true){i:Int}(h0:0<=i)(h4:i<=4):idx p.Rr i=some (nth p.Rr i):=eK h0 (by have:=nV (iM h);omega)
def rU(p:bh)(i:Int):de:=(nth p.Rr (hZ p (nth p.py.ag i).RF)).dO
theorem zs{N:Nat}(hN:df<=N){p:bh}(h:dH p=true){i:Int}(h0:0<=i)(h9:i<=9):nY N p i=some (rU p i):=by
  unfold nY rU;obtain⟨r0,r4⟩:=si p (nth p.py.ag i).RF;simp only[((fb h).at h0 h9).1,RK,BI hN,w7 h r0 r4]
def uu(p:bh)(i:Int):Bool:=((nth p.py.ag i).Ry==0)&&decide ((rU p i).dn>0)
def runnable(p:bh)(now:Int):List Int:=(threads p now).filter (uu p)
theorem yh(p:bh)(now:Int):(runnable p now).length<=10:=by
  unfold runnable;refine Nat.le_trans (List.length_filter_le _ _) ?_;unfold threads;split
  · rename_i hp;refine Nat.le_trans (um _ _ _ _) ?_;rw[od (fb hp)];exact Nat.le_refl _
  · exact Nat.zero_le _
theorem Jc{N:Nat}(hN:df<=N){p:bh}(hb:dC p<df)(now:Int):qk N p now=some (runnable p now):=by
  have hl:=pf p now;unfold qk runnable;rw[x7 hN hb,RK,jq (threads p now) (fun _ i=>uu p i) (fun _ y=>y) hl hN,kY]
  · rfl
  · intro k t y hy hk ht;obtain⟨hp,y0,y9⟩:=kW (List.mem_of_getElem? hy);simp only[ei hk,RM,dM,hy,RK,((fb hp).at y0 y9).1,zs hN hp y0 y9,iB,eB (Nat.lt_trans hk hl),fZ ht (Nat.lt_of_le_of_lt hk hl)]
    show(bif uu p y then _ else _)=_
    cases uu p y<;>rfl
  · intro t;simp only[ep,RL]
theorem JD{N:Nat}(hN:df<=N){p:bh}(hb:dC p<df)(hw:wP p)(now:Int):pW N p now=some (runnable p now):=by
  have hl:=pf p now;unfold pW runnable;rw[wc hN hb hw,RK,jq (threads p now) (fun _ i=>uu p i) (fun _ y=>y) hl hN,kY]
  · rfl
  · intro k t y hy hk ht;obtain⟨hp,y0,y9⟩:=kW (List.mem_of_getElem? hy);obtain⟨r0,r4⟩:=si p (nth p.py.ag y).RF;simp only[ei hk,RM,dM,hy,RK,((fb hp).at y0 y9).1,xb hN,w7 hp r0 r4,iB,eB (Nat.lt_trans hk hl),fZ ht (Nat.lt_of_le_of_lt hk hl)]
    show(bif uu p y then _ else _)=_
    cases uu p y<;>rfl
  · intro t;simp only[ep,RL]
def lh(h:Int):Bool:=dv h 0 29999
def lR(h:Int):Int:=if lh h then h % 3 else -1
def lU(h:Int):Int:=if lh h then h / 3 % 10 else -1
def An(h:Int):Int:=if lh h then h / 3 / 10 else -1
theorem zi{h:Int}:lh h=true <-> 0<=h/\h<=29999:=dI
theorem hdiv{h:Int}(q:lh h=true):i64.wrap (Int.tdiv h 3)=h / 3/\Int.tmod h 3=h % 3/\Int.tmod (h / 3) 10=h / 3 % 10/\i64.wrap (Int.tdiv (h / 3) 10)=h / 3 / 10:=by
  rw[zi]at q
  have h3:0<=h / 3:=by omega
  refine⟨?_,Int.tmod_eq_emod_of_nonneg q.1,Int.tmod_eq_emod_of_nonneg h3,?_⟩
  · rw[Int.tdiv_eq_ediv_of_nonneg q.1,dB (by omega) (by omega)]
  · rw[Int.tdiv_eq_ediv_of_nonneg h3,dB (by omega) (by omega)]
theorem vA(N:Nat)(h:Int):kF N h=some (lR h):=by
  unfold kF lR;rw[ox,RK];cases q:dv h 0 29999
  · simp[lh,q]
  · simp[lh,q,(hdiv (h:=h) q).2.1]
theorem vD(N:Nat)(h:Int):kH N h=some (lR h):=by
  unfold kH lR;rw[qt,RK];cases q:dv h 0 29999
  · simp[lh,q]
  · simp[lh,q,(hdiv (h:=h) q).2.1]
theorem Ef(N:Nat)(h:Int):nP N h=some (lU h):=by
  unfold nP lU;rw[ox,RK];cases q:dv h 0 29999
  · simp[lh,q]
  · simp[lh,q,(hdiv (h:=h) q).1,(hdiv (h:=h) q).2.2.1]
theorem Eo(N:Nat)(h:Int):nU N h=some (lU h):=by
  unfold nU lU;rw[qt,RK];cases q:dv h 0 29999
  · simp[lh,q]
  · simp[lh,q,(hdiv (h:=h) q).1,(hdiv (h:=h) q).2.2.1]
theorem FU(N:Nat)(h:Int):oR N h=some (An h):=by
  unfold oR An;rw[ox,RK];cases q:dv h 0 29999
  · simp[lh,q]
  · simp[lh,q,(hdiv (h:=h) q).1,(hdiv (h:=h) q).2.2.2]
theorem Gh(N:Nat)(h:Int):oM N h=some (An h):=by
  unfold oM An;rw[qt,RK];cases q:dv h 0 29999
  · simp[lh,q]
  · simp[lh,q,(hdiv (h:=h) q).1,(hdiv (h:=h) q).2.2.2]
def mA(p i g:Int):Int:=if dv p 0 2&&(dv i 0 9&&dv g 0 999)then i64.wrap ((i64.wrap ((i64.wrap ((i64.wrap (g*10))+i))*3))+p)else -1
theorem Bc(N:Nat)(p i g:Int):nD N p i g=some (mA p i g):=by
  unfold nD mA;simp only[xz,sc,jK,RK,gv];cases dv p 0 2<;>cases dv i 0 9<;>cases dv g 0 999<;>rfl
theorem u7(N:Nat)(p i g:Int):lr N p i g=some (mA p i g):=by
  unfold lr mA;simp only[qe,jj,RK,gv];cases dv p 0 2<;>cases dv i 0 9<;>cases dv g 0 999<;>rfl
theorem Kd{h:Int}(q:0<=lR h):lh h=true/\0<=lU h/\lU h<=9:=by
  unfold lR at q;unfold lU;cases hk:lh h
  · simp[hk]at q
  · rw[zi]at hk;simp only[if_true];exact⟨trivial,by omega,by omega⟩
def er(w:dh)(p:Int):Bool:=dv p 0 ((w.parts.length:Int)-1)
theorem v8{N:Nat}{w:dh}(hl:w.parts.length<df)(p:Int):mc N w p=some (er w p):=by
  have hl:w.parts.length<16777216:=hl;unfold mc er;rw[jK,dB (by omega) (by omega)];rfl
theorem fu{w:dh}{p:Int}(h:er w p=true):idx w.parts p=some (nth w.parts p)/\nth w.parts p∈w.parts:=by
  unfold er at h;rw[dI]at h;exact⟨eK h.1 (by omega),gg h.1 (by omega)⟩
theorem xK{N:Nat}(hN:df<=N){own:List Int}{a b:dV}(ho:own.length<df)(ha:a.Ro.length<df)(hb:b.Ro.length<df):mr N own a b=some (lK own a b):=by
  unfold mr lK;simp only[zb hN ho,pT hN ha,pT hN hb,RK,gv];cases h1:ia own
  · rfl
  cases h2:eT a
  · rfl
  cases h3:eT b
  · rfl
  have l2:=(j6.1 h2).1;have l3:=(j6.1 h3).1;simp only[RN,Bool.or_self,RL,RO];rw[Lg a.Ro l2 (fun k y=>!decide (y>(b.Ro[k]?).getD 0) || own.contains (k:Int)) (.inl 4) (.inr false) hN]
  · simp only[RK];cases allI _ 0 a.Ro<;>rfl
  · intro k y hy hk hd;have hz:b.Ro[k]?=some (b.Ro[k]'(by omega)):=List.getElem?_eq_getElem _;simp only[hd,RM,dM,hy,hz,RK,Option.getD_some,wU hN ho,eB (show k<df from Nat.lt_trans hk (by decide))];cases decide (y>b.Ro[k]'(by omega))<;>cases own.contains (k:Int)<;>rfl
  · rfl
def target(p:Int)(c:dD):Int:=if(c.Rq==7) || (c.Rq==17)then lR c.a else if c.Rq==16 then c.b else p
def other(w:dh)(p:Int)(c:dD):Int:=if er w (target p c)then target p c else -1
theorem Gb{N:Nat}{w:dh}(hl:w.parts.length<df)(p:Int)(c:dD):oI N w p c=some (other w p c):=by
  unfold oI other target;simp only[vA,v8 hl,RK]
  cases c.Rq==7<;>cases c.Rq==17<;>cases c.Rq==16<;>simp only[RM,RL,RK,Bool.or_self,Bool.or_true,Bool.true_or,Bool.or_false,if_true,if_false,Bool.false_eq_true] <;>
    first|(cases er w (lR c.a)<;>rfl)|(cases er w c.b<;>rfl)|(cases er w p<;>rfl)
theorem Gt{N:Nat}{w:dh}(hl:w.parts.length<df)(p:Int)(c:dD):oD N w p c=some (other w p c):=by
  have hl:w.parts.length<16777216:=hl;unfold oD other target er;simp only[vD,jj,RK];rw[dB (by omega) (by omega)]
  cases c.Rq==7<;>cases c.Rq==17<;>cases c.Rq==16<;>simp only[RM,RL,RK,Bool.or_self,Bool.or_true,Bool.true_or,Bool.or_false,if_true,if_false,Bool.false_eq_true] <;>
    first|(cases dv (lR c.a) 0 ((w.parts.length:Int)-1)<;>rfl)|(cases dv c.b 0 ((w.parts.length:Int)-1)<;>rfl)|(cases dv p 0 ((w.parts.length:Int)-1)<;>rfl)
theorem sx{w:dh}{p:Int}{c:dD}(h:decide (other w p c<0)=false):er w (other w p c)=true:=by
  unfold other at h⊢;cases hp:er w (target p c)
  · simp[hp]at h
  · simp[hp]
def better(p:bh)(v i:Int):Int:=if decide ((rU p i).dn<=(rU p v).dn)then i else v
def mj(p:bh)(now:Int):Int:=match threads p now with
  | a::b::l=>(b::l).foldl (better p) a
  | _=>-1
theorem A6{p:bh}{m:List Int}:∀(l:List Int) (v:Int),v∈m->(∀y,y∈l->y∈m)->l.foldl (better p) v∈m
  | [],v,hv,_=>hv
  | y::l,v,hv,h=>by
    rw[List.foldl_cons];refine A6 l _ ?_ fun z hz=>h z (by simp[hz]);unfold better;split
    · exact h y (by simp)
    · exact hv
theorem ve{p:bh}{now:Int}(h:decide (mj p now>=0)=true):mj p now∈threads p now:=by
  unfold mj at h⊢
  cases ht:threads p now with
  | nil=>rw[ht]at h;simp at h
  | cons a l=>cases l with
    | nil=>rw[ht]at h;simp at h
    | cons b l=>exact A6 (b::l) a (by simp) fun y hy=>by simp at hy⊢;exact .inr hy
theorem NH{N:Nat}(hN:df<=N){p:bh}{l:List Int}(hl:l.length<df){body:Int×Int->Option ((Int×Int)⊕(Int×Int))}(hm:∀y,y∈l->y∈l){v0:Int}(I:Int->Prop)(h0:I v0)
    (hs:∀(k:Nat) (v y:Int),l[k]?=some y->k<l.length->I v->body (v,(k:Int))=some (.inl (better p v y,((k+1:Nat):Int)))/\I (better p v y)) (he:∀v,body (v,(l.length:Int))=some (.inr (v,(l.length:Int)))) :
    iter body N (v0,0)=some (l.foldl (better p) v0,(l.length:Int)):=by
  rw[show(v0,(0:Int))=(fun(k:Nat) (v:Int)=>(v,(k:Int))) 0 v0 from rfl,
    gz l (fun(k:Nat) (v:Int)=>(v,(k:Int))) (fun _ v y=>better p v y) (fun v=>(v,(l.length:Int))) (fun _ v=>I v) (fun k v y hy hk hI=>hs k v y hy hk hI) (fun v _=>he v) (Nat.lt_of_lt_of_le hl hN) h0,i9]
theorem sX{p:bh}{now y:Int}(h:y∈threads p now):dH p=true/\0<=y/\y<=9:=kW h
theorem L4{N:Nat}(hN:df<=N){p:bh}(hb:dC p<df)(now:Int):sK N p now=some (mj p now):=by
  have hl:=pf p now;unfold sK mj;rw[x7 hN hb,RK]
  cases ht:threads p now with
  | nil=>rfl
  | cons a l=>cases l with
    | nil=>rfl
    | cons b l =>
      have hm:∀y,y∈a::b::l->dH p=true/\0<=y/\y<=9:=fun y hy=>sX (by rw[ht];exact hy);rw[ht]at hl;rw[show decide ((((a::b::l).length:Nat):Int)<2)=false by simp;omega,show idx (a::b::l) 0=some a from rfl];simp only[RL,RK];rw[NH hN (p:=p) (l:=a::b::l) hl (fun _ h=>h) (fun v=>dH p=true/\0<=v/\v<=9) (hm a (by simp))]
      · have e:better p a a=a:=by unfold better;split<;>rfl
        rw[RK,List.foldl_cons,e]
      · intro k v y hy hk hI;obtain⟨hp,y0,y9⟩:=hm y (List.mem_of_getElem? hy);refine⟨?_,?_⟩
        · simp only[ei hk,RM,dM,hy,RK,zs hN hp y0 y9,zs hN hp hI.2.1 hI.2.2,eB (Nat.lt_trans hk hl)];unfold better;cases decide ((rU p y).dn<=(rU p v).dn)<;>rfl
        · unfold better;split
          · exact⟨hp,y0,y9⟩
          · exact hI
      · intro v;simp only[ep,RL]
theorem LN{N:Nat}(hN:df<=N){p:bh}(hb:dC p<df)(hw:wP p)(now:Int):sS N p now=some (mj p now):=by
  have hl:=pf p now;have hB:(16777216:Nat)=df:=rfl;unfold sS mj;rw[wc hN hb hw,RK]
  cases ht:threads p now with
  | nil=>rfl
  | cons a l=>cases l with
    | nil=>rfl
    | cons b l =>
      have hm:∀y,y∈a::b::l->dH p=true/\0<=y/\y<=9:=fun y hy=>sX (by rw[ht];exact hy);rw[ht]at hl;rw[show decide ((((a::b::l).length:Nat):Int)<2)=false by simp;omega];simp only[RL];obtain⟨hpa,a0,a9⟩:=hm a (by simp)
      have step:∀(k:Nat) (v y:Int),(a::b::l)[k]?=some y->k<(a::b::l).length->(v=-1\/0<=v/\v<=9) ->
          (bif(decide ((k:Int)<(((a::b::l).length:Nat):Int)))then((bif(decide (v<0))then(some true)else((idx (a::b::l) (k:Int)).bind fun y14=>(idx p.py.ag y14).bind fun y27=>(idx p.py.ag v).bind fun y45=>(kt N p y27.RF).bind fun y63=>(idx p.Rr y63).bind fun y65=>(kt N p y45.RF).bind fun y74=>(idx p.Rr y74).bind fun y76=>some (decide (y65.dO.dn<=y76.dO.dn))):Option Bool).bind fun j11=>bif j11 then((idx (a::b::l) (k:Int)).bind fun y87=>some (.inl (y87,i64.wrap ((k:Int)+1))))else(some (.inl (v,i64.wrap ((k:Int)+1)))))else(some (.inr (v,(k:Int)))):Option ((Int×Int)⊕(Int×Int))) =
          some (.inl (if decide (v<0)then y else better p v y,((k+1:Nat):Int))):=by
        intro k v y hy hk hv;obtain⟨hp,y0,y9⟩:=hm y (List.mem_of_getElem? hy);simp only[ei hk,RM,dM,hy,RK,eB (Nat.lt_trans hk hl)];cases hd:decide (v<0)
        · have hv:0<=v/\v<=9:=by simp at hd;omega
          obtain⟨r0,r4⟩:=si p (nth p.py.ag y).RF;obtain⟨q0,q4⟩:=si p (nth p.py.ag v).RF;simp only[RL,((fb hp).at y0 y9).1,((fb hp).at hv.1 hv.2).1,xb hN,w7 hp r0 r4,w7 hp q0 q4,RK,Bool.false_eq_true,if_false];unfold better;rw[show(nth p.Rr (hZ p (nth p.py.ag y).RF)).dO.dn=(rU p y).dn from rfl,show(nth p.Rr (hZ p (nth p.py.ag v).RF)).dO.dn=(rU p v).dn from rfl];cases decide ((rU p y).dn<=(rU p v).dn)<;>rfl
        · rfl
      rw[show((-1:Int),(0:Int))=(fun(k:Nat) (v:Int)=>(v,(k:Int))) 0 (-1) from rfl,
        gz (a::b::l) (fun(k:Nat) (v:Int)=>(v,(k:Int))) (fun _ v y=>if decide (v<0)then y else better p v y) (fun v=>(v,(((a::b::l).length:Nat):Int))) (fun _ v=>v=-1\/0<=v/\v<=9) ?_ ?_ (by omega) (.inl rfl),i9]
      · simp only[RK];congr 1
        have key:∀(m:List Int) (v:Int),0<=v->(∀y,y∈m->0<=y)->m.foldl (fun v y=>if decide (v<0)then y else better p v y) v=m.foldl (better p) v:=by
          intro m
          induction m with
          | nil=>intro v _ _;rfl
          | cons y m ih =>
            intro v hv hy
            have hd:decide (v<0)=false:=by simp;omega
            simp only[List.foldl_cons,hd,Bool.false_eq_true,if_false];refine ih _ ?_ fun z hz=>hy z (by simp[hz]);unfold better;split
            · exact hy y (by simp)
            · exact hv
        rw[List.foldl_cons];exact key (b::l) a a0 fun y hy=>(hm y (by simp at hy⊢;exact .inr hy)).2.1
      · intro k v y hy hk hI;refine⟨step k v y hy hk hI,.inr ?_⟩;obtain⟨hp,y0,y9⟩:=hm y (List.mem_of_getElem? hy);split
        · exact⟨y0,y9⟩
        · rename_i hd;unfold better;split
          · exact⟨y0,y9⟩
          · simp at hd;omega
      · intro v _;simp only[ep,RL]
def jM(p:bh)(l:List c6):bh:=bh.mk p.Rp p.own p.Rr (dm.mk l p.py.gc) p.db p.RA p.Rz p.dc p.du p.Rx
def AJ(o:c6)(t:Int):c6:=c6.mk o.RG o.Rq o.box o.RF t o.cd o.Ry o.ee o.ed o.mark o.dk o.Rw o.Rs
def oT(p:bh)(now:Int):List c6:=if decide (mj p now>=0)then p.py.ag.set (mj p now).toNat (AJ (nth p.py.ag (mj p now)) (i64.wrap (now-1)))else p.py.ag
def fI(p:bh)(now:Int):bh:=if dH p&&(dv now 1 1000000&&!decide (p.du<3))then bh.mk p.Rp p.own p.Rr (dm.mk (oT p now) p.py.gc) p.db p.RA p.Rz p.dc 0 p.Rx else p
theorem Iw{N:Nat}(hN:df<=N){p:bh}(hb:dC p<df)(now:Int):pK N p now=some (fI p now):=by
  unfold pK fI oT;simp only[mW hN hb,sb hN hb,jK,L4 hN hb,RK,gv];cases hp:dH p
  · rfl
  cases dv now 1 1000000
  · rfl
  cases decide (p.du<3)
  · cases hv:decide (mj p now>=0)
    · rfl
    · obtain⟨_,v0,v9⟩:=kW (ve hv);simp only[RN,Bool.or_self,RL,RM,((fb hp).at v0 v9).1,RK,if_true];rfl
  · rfl
theorem JB{N:Nat}(hN:df<=N){p:bh}(hb:dC p<df)(hw:wP p)(now:Int):qh N p now=some (fI p now):=by
  unfold qh fI oT;simp only[qa hN hb,sd hN hb hw,jj,LN hN hb hw,RK,gv];cases hp:dH p
  · rfl
  cases dv now 1 1000000
  · rfl
  cases decide (p.du<3)
  · cases hv:decide (mj p now>=0)
    · rfl
    · obtain⟨_,v0,v9⟩:=kW (ve hv);simp only[RN,Bool.or_self,RL,RM,((fb hp).at v0 v9).1,RK,if_true];rfl
  · rfl
def Br(l:List c6)(now part h:Int):Bool:=(gh l&&(lh h&&(lR h==part)))&&(((nth l (lU h)).Rq != 0)&&(((nth l (lU h)).RG==An h)&&nth (reach l now) (lU h)))
def dq(l:List c6)(now part h:Int):Int:=bif Br l now part h then lU h else -1
theorem As{h:Int}(q:lh h=true):0<=lU h/\lU h<=9:=(Kd (h:=h) (by unfold lR;rw[q,if_pos rfl];rw[zi]at q;omega)).2
theorem uZ{N:Nat}(hN:df<=N){l:List c6}(hb:eE dw l<df)(now part h:Int):lk N l now part h=some (dq l now part h):=by
  unfold lk dq Br;simp only[HC hN hb,ox,vA,Ef,FU,RK,gv];cases ha:gh l
  · have e:reach l now=[]:=by unfold reach;rw[ha];rfl
    rw[e];rfl
  have har:=fF.1 ha;have hl:=od har now;rw[show(((reach l now).length:Int)==0)=false by rw[hl];rfl,show dv h 0 29999=lh h from rfl];cases hh:lh h
  · rfl
  obtain⟨s0,s9⟩:=As hh;simp only[bne,(har.at s0 s9).1,eK (l:=reach l now) s0 (by omega),RK];cases lR h==part<;>cases(nth l (lU h)).Rq==0<;>cases(nth l (lU h)).RG==An h<;>cases nth (reach l now) (lU h)<;>rfl
theorem vc{N:Nat}(hN:df<=N){l:List c6}(hb:eE dw l<df)(hw:wA l)(now part h:Int):ll N l now part h=some (dq l now part h):=by
  unfold ll dq Br;simp only[pF hN hb hw,Hl hN hb hw,qt,vD,Eo,Gh,RK,gv];cases ha:gh l
  · rfl
  have har:=fF.1 ha;have hl:=od har now;rw[show dv h 0 29999=lh h from rfl];cases hh:lh h
  · rfl
  obtain⟨s0,s9⟩:=As hh;simp only[bne,(har.at s0 s9).1,eK (l:=reach l now) s0 (by omega),RK];cases lR h==part<;>cases(nth l (lU h)).Rq==0<;>cases(nth l (lU h)).RG==An h<;>cases nth (reach l now) (lU h)<;>rfl
def uc(p:bh)(me now:Int)(o:c6):Bool:=decide (o.Ry>0)&&decide (dq p.py.ag now me (i64.wrap (o.Ry-1))<0)
def xl(o:c6):c6:=c6.mk o.RG o.Rq o.box o.RF o.dY o.cd 0 (-1) o.ed o.mark o.dk o.Rw o.Rs
def om(p:bh)(me now:Int):List c6:=p.py.ag.map fun o=>if uc p me now o then xl o else o
def gx(p:bh)(me now:Int):bh:=if dH p&&dv me 0 2 then jM p (om p me now)else p
theorem r7{α:Type}{body:List α×Int->Option ((List α×Int)⊕(List α×Int))}(x:List α)(f:α->α){N:Nat}(hN:x.length<N)
    (hs:∀(k:Nat) (t:List α) (y:α),t.length=x.length->t[k]?=some y->x[k]?=some y->k<x.length->body (t,(k:Int))=some (.inl (t.set k (f y),((k+1:Nat):Int))))
    (he:∀t,t.length=x.length->body (t,(x.length:Int))=some (.inr (t,(x.length:Int)))):iter body N (x,0)=some (x.map f,(x.length:Int)):=by
  have key:∀(r:List α) (d d':List α) (M:Nat),d'.length=d.length->x=d'++r->r.length<M->iter body M (d++r,(d.length:Int))=some (d++r.map f,(x.length:Int)):=by
    intro r
    induction r with
    | nil =>
      intro d d' M hd hx hM
      cases M with
      | zero=>simp at hM
      | succ M =>
        have e:d.length=x.length:=by rw[hx];simp[hd]
        unfold iter;rw[List.append_nil,e,he d e];simp
    | cons y r ih =>
      intro d d' M hd hx hM
      cases M with
      | zero=>simp at hM
      | succ M =>
        have hlen:(d++y::r).length=x.length:=by rw[hx];simp[hd]
        unfold iter;rw[hs d.length (d++y::r) y hlen (by rw[List.getElem?_append_right (Nat.le_refl _)];simp) (by rw[hx,List.getElem?_append_right (by omega)];simp[hd]) (by rw[<- hlen];simp)]
        have e:(d++y::r).set d.length (f y)=(d++[f y])++r:=by rw[List.set_append_right _ _ (Nat.le_refl _)];simp
        have e2:d.length+1=(d++[f y]).length:=by simp
        simp only[RK,e];rw[e2,ih (d++[f y]) (d'++[y]) M (by simp[hd]) (by rw[hx];simp) (by simp at hM;omega)];simp
  exact key x [] [] N rfl rfl hN
theorem kJ{α:Type}{l:List α}{k:Nat}{y:α}(h:l[k]?=some y):l.set k y=l:=by
  apply List.ext_getElem? fun i=>?_;rw[List.getElem?_set];split
  · rename_i e;subst e;rw[if_pos (eF h),h]
  · rfl
theorem IK{N:Nat}(hN:df<=N){p:bh}(hb:dC p<df)(me now:Int):pY N p me now=some (gx p me now):=by
  have h4:=(gm hb).2.2.2.1;have hl:=gj h4;unfold pY gx om jM;simp only[mW hN hb,sb hN hb,xz,RK,gv];cases hp:dH p
  · rfl
  cases dv me 0 2
  · rfl
  simp only[RN,Bool.or_self,RL,Bool.and_self,if_true];rw[r7 p.py.ag (fun o=>if uc p me now o then xl o else o) (Nat.lt_of_lt_of_le hl hN)]
  · rfl
  · intro k t y ht hty hy hk;simp only[ei hk,RM,dM,hy,hty,RK,uZ hN h4,iB,eB (Nat.lt_trans hk hl),Int.toNat_natCast,List.getElem?_set_self (show k<t.length by omega),List.set_set];rw[show(decide (y.Ry>0)&&decide (dq p.py.ag now me (i64.wrap (y.Ry-1))<0))=uc p me now y from rfl];cases uc p me now y
    · simp[kJ hty]
    · rfl
  · intro t ht;simp only[ep,RL]
theorem Ju{N:Nat}(hN:df<=N){p:bh}(hb:dC p<df)(hw:wP p)(me now:Int):pX N p me now=some (gx p me now):=by
  have h4:=(gm hb).2.2.2.1;have hl:=gj h4;unfold pX gx om jM;simp only[qa hN hb,sd hN hb hw,jj,RK,gv];cases hp:dH p
  · rfl
  cases dv me 0 2
  · rfl
  simp only[RN,Bool.or_self,RL,Bool.and_self,if_true];rw[r7 p.py.ag (fun o=>if uc p me now o then xl o else o) (Nat.lt_of_lt_of_le hl hN)]
  · rfl
  · intro k t y ht hty hy hk;simp only[ht,ei hk,RM,dM,hy,hty,RK,vc hN h4 hw,iB,eB (Nat.lt_trans hk hl),Int.toNat_natCast,List.getElem?_set_self (show k<t.length by omega),List.set_set];rw[show(decide (y.Ry>0)&&decide (dq p.py.ag now me (i64.wrap (y.Ry-1))<0))=uc p me now y from rfl];cases uc p me now y
    · simp[kJ hty]
    · rfl
  · intro t ht;simp only[ht,ep,RL]
theorem DY{f:c6->Nat}{g:c6->c6}(h:∀o,f (g o)=f o):∀l:List c6,lI f (l.map g)=lI f l
  | []=>rfl
  | o::l=>by simp only[List.map_cons,lI,h,DY h l]
theorem H6{f:c6->Nat}{g:c6->c6}(h:∀o,f (g o)=f o)(l:List c6):eE f (l.map g)=eE f l:=by
  unfold eE;rw[DY h,List.length_map]
theorem BF(p:bh)(me now:Int):dC (gx p me now)=dC p:=by
  unfold gx;split
  · unfold dC jM mu om;simp only;rw[H6 fun o=>by split<;>rfl]
  · rfl
theorem BJ(p:bh)(now:Int):dC (fI p now)<=dC p+100:=by
  unfold fI;split
  · rename_i h;simp only[RP]at h
    have hsz:eE dw (oT p now)<=eE dw p.py.ag+12:=by
      unfold oT;split
      · rename_i hv;obtain⟨_,v0,v9⟩:=kW (ve hv);have:=xH ((fb h.1).ok _ ((fb h.1).at v0 v9).2);exact Nat.le_trans wZ (Nat.add_le_add_left this _)
      · omega
    unfold dC mu;simp only;omega
  · omega
end Go.Kx
