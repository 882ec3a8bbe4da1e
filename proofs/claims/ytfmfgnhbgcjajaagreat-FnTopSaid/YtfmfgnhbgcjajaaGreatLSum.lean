import Derived.Test.YtfmfgnhbgcjajaaGreatLReach
namespace Go.Kx
open Go
open Go.IntKind (i64)
set_option linter.unusedVariables false
set_option linter.unusedSimpArgs false
set_option maxRecDepth 10000
def NA(a:de):Prop:=i64.wrap a.cd=a.cd/\i64.wrap a.dg=a.dg/\i64.wrap a.du=a.du
theorem wrap_wrap(n:Int):i64.wrap (i64.wrap n)=i64.wrap n:=by
  have:-9223372036854775808<=i64.wrap n/\i64.wrap n<=9223372036854775807:=by
    simp only[IntKind.wrap,IntKind.signed,IntKind.bits];simp;omega
  exact dF this.1 this.2
theorem NA.sum(a b:de):NA (dY a b):=⟨wrap_wrap _,wrap_wrap _,wrap_wrap _⟩
theorem NA.zero:NA ⟨0,0,0⟩:=⟨by decide,by decide,by decide⟩
theorem L3{a:de}(h:NA a):dY a ⟨0,0,0⟩=a:=by
  obtain⟨h1,h2,h3⟩:=h;unfold dY;simp only[Int.add_zero,h1,h2,h3]
def fX(t:List dk):de:=if fF t then eX ⟨0,0,0⟩ t else⟨0,0,0⟩
theorem Kl{N:Nat}(hN:dh<=N){t:List dk}(hB:t.length<dh):rA N t=some (fX t):=by
  unfold rA fX;rw[vX hN,Ry,BX hN hB];cases fF t<;>rfl
theorem DM:∀(t:List dk) (s:de),NA s->(∀r,r∈t->r.Rq=false->r.dQ=⟨0,0,0⟩)->t.foldl (fun s r=>dY s r.dQ) s=eX s t
  | [],s,_,_=>rfl
  | r::t,s,hs,h=>by
    unfold eX;simp only[List.foldl_cons];cases hl:r.Rq
    · rw[h r (by simp) hl,L3 hs];exact DM t s hs fun x hx=>h x (by simp[hx])
    · exact DM t _ (NA.sum _ _) fun x hx=>h x (by simp[hx])
structure Tr (t:List dk):Prop where
  len:t.length=5
  pM:(nth t 0).Rq=true
  BB:(nth t 0).Rr=-1
  dead:∀r,r∈t->r.Rq=false->r=kA
  dQ:∀r,r∈t->dT r.dQ=true
  lead:∀(k:Nat) (r:dk),t[k]?=some r->r.Rq=true->leads t 5 (k:Int)=true
  sum:dT (eX ⟨0,0,0⟩ t)=true
theorem E9:dT kA.dQ=true:=by decide
theorem fI{t:List dk}:fF t=true <-> Tr t:=by
  unfold fF;simp only[RD,Bool.not_eq_true',bne_eq_false_iff_eq,jI,Nat.zero_add];constructor
  · rintro⟨h1,h2,h3,h4,h5⟩;have hm:∀r,r∈t->∃k:Nat,t[k]?=some r:=fun o ho=>List.getElem?_of_mem ho;refine⟨by omega,h2,h3,fun r hr hl=>?_,fun r hr=>?_,fun k r hk hl=>?_,h5⟩
    · obtain⟨k,hk⟩:=hm r hr;have:=h4 k r hk;unfold mK at this;simpa[hl]using this
    · obtain⟨k,hk⟩:=hm r hr;have:=h4 k r hk;unfold mK at this;split at this
      · simp only[RD]at this;exact this.1
      · simp only[decide_eq_true_eq]at this;rw[this];exact E9
    · have:=h4 k r hk;unfold mK at this;rw[if_pos hl]at this;simp only[RD]at this;exact this.2
  · intro h;refine⟨by have:=h.len;omega,h.pM,h.BB,fun k r hr=>?_,h.sum⟩;unfold mK;have hm:=List.mem_of_getElem? hr;cases hl:r.Rq
    · simp[h.dead r hm hl]
    · simp[h.dQ r hm,h.lead k r hr hl]
theorem Cp{N:Nat}(hN:dh<=N){t:List dk}(hB:t.length<dh):pD N t=some (fX t):=by
  unfold pD fX;rw[qA hN,Ry];cases h:fF t
  · rfl
  have ht:=fI.1 h;simp only[RB,Rz,if_true]
  rw[show((0:Int),(0:Int),(0:Int),(0:Int))=(fun(k:Nat) (s:de)=>((k:Int),s.cd,s.dg,s.du)) 0 ⟨0,0,0⟩ from rfl,
    gy t (fun(k:Nat) (s:de)=>((k:Int),s.cd,s.dg,s.du)) (fun _ s r=>dY s r.dQ) (fun s=>((t.length:Int),s.cd,s.dg,s.du)) (fun _ _=>True) ?_ ?_ (Nat.lt_of_lt_of_le hB hN) trivial,ir,DM t _ NA.zero fun r hr hl=>by rw[ht.dead r hr hl];rfl]
  · rfl
  · intro k s r hy hk _;simp only[ey hk,RA,dN,hy,Ry,pG,eD (Nat.lt_trans hk hB)];exact⟨trivial,trivial⟩
  · intro s _;simp only[er,Rz]
def held(p:bh):Int:=((p.heap.ag.take 10).filter eG).foldl (fun n o=>i64.wrap (n+o.cd)) 0
theorem foldl_filter{α β:Type}(p:α->Bool)(g:β->α->β):∀(l:List α) (b:β),(l.filter p).foldl g b=l.foldl (fun b y=>if p y then g b y else b) b
  | [],_=>rfl
  | y::l,b=>by
    rw[List.filter_cons,List.foldl_cons];cases h:p y
    · simp[foldl_filter p g l]
    · simp[foldl_filter p g l]
theorem foldl_map'{α β γ:Type}(f:α->γ)(g:β->γ->β):∀(l:List α) (b:β),(l.map f).foldl g b=l.foldl (fun b y=>g b (f y)) b
  | [],_=>rfl
  | y::l,b=>by simp[foldl_map' f g l]
theorem Cj{α β:Type}(p:α->Bool)(h:α->β):∀(l:List α) (k:Nat),jj (fun _ y=>p y) (fun _ y=>h y) k l=(l.filter p).map h
  | [],_=>rfl
  | y::l,k=>by
    unfold jj;rw[Cj p h l,List.filter_cons];split<;>simp
theorem Ph{N:Nat}(hN:dh<=N){p:bh}(hb:dG p<dh)(hw:wP p):vv N p=some (held p):=by
  have h4:=(gE hb).2.2.2.1;have hl:=gL h4;have hN':16777216<=N:=hN;unfold vv held
  rw[foldl_filter,show((0:Int),(0:Int))=(fun(k:Nat) (n:Int)=>(n,(k:Int))) 0 0 from rfl,
    gy (p.heap.ag.take 10) (fun(k:Nat) (n:Int)=>(n,(k:Int))) (fun _ n o=>if eG o then i64.wrap (n+o.cd)else n) (fun n=>(n,(((p.heap.ag.take 10).length:Nat):Int))) (fun _ _=>True) ?_ ?_ (by simp;omega) trivial,ir]
  · rfl
  · intro k n y hy hk _
    have hk2:k<10/\k<p.heap.ag.length:=by simp at hk;omega
    rw[List.getElem?_take_of_lt hk2.1]at hy;have hm:=List.mem_of_getElem? hy
    have h3:decide ((k:Int)<10)=true:=by simp;omega
    refine⟨?_,trivial⟩;simp only[ey hk2.2,h3,RA,dN,hy,Ry,HY hN (fH h4 hm) (hw y hm),eD (show k<dh from Nat.lt_trans hk2.1 (by decide))];cases eG y<;>rfl
  · intro n _;simp only[List.length_take]
    rcases Nat.lt_or_ge 10 p.heap.ag.length with h|h
    · have e:min 10 p.heap.ag.length=10:=by omega
      have h3:decide (((10:Nat):Int)<(p.heap.ag.length:Int))=true:=by simp;omega
      simp only[e,h3,RA];rfl
    · have e:min 10 p.heap.ag.length=p.heap.ag.length:=by omega
      simp only[e,er,Rz,Ry]
def view(o:c6):oC:=oC.mk o.Rs o.so o.box o.Rt o.dX o.cd o.Rm o.ef o.ee o.mark
theorem PJ(n:Nat):(if(10:Int)<(n:Int)then(10:Int)else(n:Int))=((min 10 n:Nat):Int):=by split<;>omega
theorem C5{N:Nat}(hN:dh<=N){p:bh}(hb:dG p<dh):m5 N p=some (((p.heap.ag.take 10).filter eG).map view):=by
  have h4:=(gE hb).2.2.2.1;have h10:eK dA (p.heap.ag.take 10)<dh:=Nat.lt_of_le_of_lt (LY _ _ _) h4;have hl:=gL h10;unfold m5
  have e:p.heap.ag.take (min 10 p.heap.ag.length)=p.heap.ag.take 10:=by
    rcases Nat.lt_or_ge 10 p.heap.ag.length with h|h
    · rw[show min 10 p.heap.ag.length=10 by omega]
    · rw[show min 10 p.heap.ag.length=p.heap.ag.length by omega,List.take_of_length_le h,List.take_length]
  rw[PJ,vO (by omega),e,Ry,m7 (p.heap.ag.take 10) (fun _ o=>eG o) (fun _ o=>view o) hl hN,Cj]
  · rfl
  · intro k t y hy hk ht;have hz:=fH h10 (List.mem_of_getElem? hy);simp only[ey hk,RA,dN,hy,Ry,HS hN hz,eD (Nat.lt_trans hk hl),hY ht (Nat.lt_of_le_of_lt hk hl)];cases eG y<;>rfl
  · intro t;simp only[er,Rz]
theorem Pk{N:Nat}(hN:dh<=N){p:bh}(hb:dG p<dh):vy N p=some (held p):=by
  unfold vy held;rw[C5 hN hb,Ry]
  have hl:(((p.heap.ag.take 10).filter eG).map view).length<dh:=by
    have h1:=List.length_filter_le eG (p.heap.ag.take 10);have h2:(16777216:Nat)=dh:=rfl;simp only[List.length_map];simp only[List.length_take]at h1;omega
  have e:=foldl_map' view (fun(n:Int) (o:oC)=>i64.wrap (n+o.cd)) ((p.heap.ag.take 10).filter eG) 0;generalize ((p.heap.ag.take 10).filter eG).map view=v at *
  rw[show((0:Int),(0:Int))=(fun(k:Nat) (n:Int)=>(n,(k:Int))) 0 0 from rfl,
    gy v (fun(k:Nat) (n:Int)=>(n,(k:Int))) (fun _ n o=>i64.wrap (n+o.cd)) (fun n=>(n,(v.length:Int))) (fun _ _=>True) ?_ ?_ (Nat.lt_of_lt_of_le hl hN) trivial,ir,e]
  · rfl
  · intro k n y hy hk _;simp only[ey hk,RA,dN,hy,Ry,eD (Nat.lt_trans hk hl)];exact⟨trivial,trivial⟩
  · intro n _;simp only[er,Rz]
def ig(p:bh):de:=if dT p.db then dY ⟨i64.wrap ((fX p.Re).cd+held p),(fX p.Re).dg,(fX p.Re).du⟩ p.db else fX p.Re
theorem B6{N:Nat}(hN:dh<=N){p:bh}(hb:dG p<dh):pd N p=some (ig p):=by
  unfold pd ig;simp only[Cp hN (gE hb).2.2.1,pE,Pk hN hb,pG,Ry];cases dT p.db<;>rfl
theorem Jx{N:Nat}(hN:dh<=N){p:bh}(hb:dG p<dh)(hw:wP p):r7 N p=some (ig p):=by
  unfold r7 ig;simp only[Kl hN (gE hb).2.2.1,o7,Ph hN hb hw,Ry];cases dT p.db<;>rfl
def kY(s:de)(l:List bh):de:=l.foldl (fun s p=>dY s (ig p)) s
def eO(w:dq):Bool:=dy w.Rj 0 1000000&&(dy (w.parts.length:Int) 1 3&&(w.parts.all dI&&dT (kY ⟨0,0,0⟩ w.parts)))
def wW(l:List bh):Prop:=∀p,p∈l->wP p
theorem DJ{N:Nat}(hN:dh<=N){l:List bh}(hb:eK dG l<dh)(hw:wW l):qJ N l=some (kY ⟨0,0,0⟩ l):=by
  have hB:=gL hb;unfold qJ kY
  rw[show((0:Int),(0:Int),(0:Int),(0:Int))=(fun(k:Nat) (s:de)=>((k:Int),s.cd,s.dg,s.du)) 0 ⟨0,0,0⟩ from rfl,
    gy l (fun(k:Nat) (s:de)=>((k:Int),s.cd,s.dg,s.du)) (fun _ s p=>dY s (ig p)) (fun s=>((l.length:Int),s.cd,s.dg,s.du)) (fun _ _=>True) ?_ ?_ (Nat.lt_of_lt_of_le hB hN) trivial,ir]
  · rfl
  · intro k s p hy hk _;have hm:=List.mem_of_getElem? hy;simp only[ey hk,RA,dN,hy,Ry,Jx hN (fH hb hm) (hw p hm),eD (Nat.lt_trans hk hB)];exact⟨rfl,trivial⟩
  · intro s _;simp only[er,Rz]
theorem pU{N:Nat}(hN:dh<=N){w:dq}(hb:eK dG w.parts<dh)(hw:wW w.parts):jY N w=some (eO w):=by
  have hB:=gL hb;unfold jY eO;simp only[jV,Ry,gW];cases dy w.Rj 0 1000000
  · rfl
  cases dy (w.parts.length:Int) 1 3
  · rfl
  simp only[RB,Bool.or_self,Rz,RC];rw[fG w.parts (fun _ p=>dI p) (.inl (w.parts.length:Int)) (.inr false) (Nat.lt_of_lt_of_le hB hN),gF]
  · simp only[Ry,DJ hN hb hw,o7];cases w.parts.all dI<;>rfl
  · intro k y hy hk;have hm:=List.mem_of_getElem? hy;simp only[ey hk,RA,dN,hy,Ry,ss hN (fH hb hm) (hw y hm),eD (Nat.lt_trans hk hB)];cases dI y<;>rfl
  · simp only[er,Rz]
theorem qt{N:Nat}(hN:dh<=N){w:dq}(hb:eK dG w.parts<dh):jR N w=some (eO w):=by
  have hB:=gL hb;unfold jR eO;simp only[vD,ko,Ry,gW];cases dy w.Rj 0 1000000
  · rfl
  cases dy (w.parts.length:Int) 1 3
  · rfl
  simp only[RB,Bool.or_self,Rz,RC]
  rw[show((0:Int),(0:Int),(0:Int),(0:Int))=(fun(k:Nat) (s:de)=>((k:Int),s.cd,s.dg,s.du)) 0 ⟨0,0,0⟩ from rfl,
    kJ w.parts (fun(k:Nat) (s:de)=>((k:Int),s.cd,s.dg,s.du)) (fun _ s p=>if dI p then .inl (dY s (ig p))else .inr (.inr false)) (fun s=>.inl ((w.parts.length:Int),s.cd,s.dg,s.du)) (fun _ _=>True) ?_ ?_ (Nat.lt_of_lt_of_le hB hN) trivial]
  · simp only[Ry,pE]
    have key:∀(l:List bh) (k:Nat) (s:de),Sum.elim (fun(o56:Int×Int×Int×Int)=>some (dT (de.mk o56.2.1 o56.2.2.1 o56.2.2.2))) (fun r61=>some r61) (kf (fun _ s p=>if dI p then .inl (dY s (ig p))else .inr (.inr false)) (fun s=>.inl ((w.parts.length:Int),s.cd,s.dg,s.du)) k s l)=some (l.all dI&&dT (kY s l)):=by
      intro l
      induction l with
      | nil=>intro k s;rfl
      | cons p l ih =>
        intro k s;unfold kf;rw[List.all_cons];cases hp:dI p
        · rfl
        · simpa[kY]using ih (k+1) (dY s (ig p))
    exact key w.parts 0 _
  · intro k s p hy hk _;have hm:=List.mem_of_getElem? hy;refine⟨?_,fun _ _=>trivial⟩;simp only[ey hk,RA,dN,hy,Ry,sA hN (fH hb hm),B6 hN (fH hb hm),pG,eD (Nat.lt_trans hk hB)];cases dI p<;>rfl
  · intro s _;simp only[er,Rz]
def tT(w:dq):de:=if eO w then kY ⟨0,0,0⟩ w.parts else⟨0,0,0⟩
theorem IN{N:Nat}(hN:dh<=N){w:dq}(hb:eK dG w.parts<dh)(hw:wW w.parts):qI N w=some (tT w):=by
  unfold qI tT;simp only[pU hN hb hw,DJ hN hb hw,Ry];cases eO w<;>rfl
theorem H4{N:Nat}(hN:dh<=N){w:dq}(hb:eK dG w.parts<dh):qq N w=some (tT w):=by
  have hB:=gL hb;unfold qq tT;rw[qt hN hb,Ry];cases eO w
  · rfl
  simp only[RB,Rz,if_true]
  rw[show((0:Int),(0:Int),(0:Int),(0:Int))=(fun(k:Nat) (s:de)=>((k:Int),s.cd,s.dg,s.du)) 0 ⟨0,0,0⟩ from rfl,
    gy w.parts (fun(k:Nat) (s:de)=>((k:Int),s.cd,s.dg,s.du)) (fun _ s p=>dY s (ig p)) (fun s=>((w.parts.length:Int),s.cd,s.dg,s.du)) (fun _ _=>True) ?_ ?_ (Nat.lt_of_lt_of_le hB hN) trivial,ir]
  · rfl
  · intro k s p hy hk _;have hm:=List.mem_of_getElem? hy;simp only[ey hk,RA,dN,hy,Ry,B6 hN (fH hb hm),pG,eD (Nat.lt_trans hk hB)];exact⟨trivial,trivial⟩
  · intro s _;simp only[er,Rz]
def lC(h:Int):Bool:=dy h 0 29999
def lZ(h:Int):Int:=if lC h then h % 3 else -1
def lW(h:Int):Int:=if lC h then h / 3 % 10 else -1
def zY(h:Int):Int:=if lC h then h / 3 / 10 else -1
theorem zd{h:Int}:lC h=true <-> 0<=h/\h<=29999:=dM
theorem hdiv{h:Int}(q:lC h=true):i64.wrap (Int.tdiv h 3)=h / 3/\Int.tmod h 3=h % 3/\Int.tmod (h / 3) 10=h / 3 % 10/\i64.wrap (Int.tdiv (h / 3) 10)=h / 3 / 10:=by
  rw[zd]at q
  have h3:0<=h / 3:=by omega
  refine⟨?_,Int.tmod_eq_emod_of_nonneg q.1,Int.tmod_eq_emod_of_nonneg h3,?_⟩
  · rw[Int.tdiv_eq_ediv_of_nonneg q.1,dF (by omega) (by omega)]
  · rw[Int.tdiv_eq_ediv_of_nonneg h3,dF (by omega) (by omega)]
theorem wc(N:Nat)(h:Int):kT N h=some (lZ h):=by
  unfold kT lZ;rw[oE,Ry];cases q:dy h 0 29999
  · simp[lC,q]
  · simp[lC,q,(hdiv (h:=h) q).2.1]
theorem vH(N:Nat)(h:Int):kS N h=some (lZ h):=by
  unfold kS lZ;rw[qV,Ry];cases q:dy h 0 29999
  · simp[lC,q]
  · simp[lC,q,(hdiv (h:=h) q).2.1]
theorem Dz(N:Nat)(h:Int):nJ N h=some (lW h):=by
  unfold nJ lW;rw[oE,Ry];cases q:dy h 0 29999
  · simp[lC,q]
  · simp[lC,q,(hdiv (h:=h) q).1,(hdiv (h:=h) q).2.2.1]
theorem D4(N:Nat)(h:Int):nS N h=some (lW h):=by
  unfold nS lW;rw[qV,Ry];cases q:dy h 0 29999
  · simp[lC,q]
  · simp[lC,q,(hdiv (h:=h) q).1,(hdiv (h:=h) q).2.2.1]
theorem Gi(N:Nat)(h:Int):oT N h=some (zY h):=by
  unfold oT zY;rw[oE,Ry];cases q:dy h 0 29999
  · simp[lC,q]
  · simp[lC,q,(hdiv (h:=h) q).1,(hdiv (h:=h) q).2.2.2]
theorem GJ(N:Nat)(h:Int):oJ N h=some (zY h):=by
  unfold oJ zY;rw[qV,Ry];cases q:dy h 0 29999
  · simp[lC,q]
  · simp[lC,q,(hdiv (h:=h) q).1,(hdiv (h:=h) q).2.2.2]
def kW(p i g:Int):Int:=if dy p 0 2&&(dy i 0 9&&dy g 0 999)then i64.wrap ((i64.wrap ((i64.wrap ((i64.wrap (g*10))+i))*3))+p)else -1
theorem Ax(N:Nat)(p i g:Int):n7 N p i g=some (kW p i g):=by
  unfold n7 kW;simp only[xO,sr,ko,Ry,gW];cases dy p 0 2<;>cases dy i 0 9<;>cases dy g 0 999<;>rfl
theorem vh(N:Nat)(p i g:Int):lv N p i g=some (kW p i g):=by
  unfold lv kW;simp only[qc,jV,Ry,gW];cases dy p 0 2<;>cases dy i 0 9<;>cases dy g 0 999<;>rfl
theorem KZ{h:Int}(q:0<=lZ h):lC h=true/\0<=lW h/\lW h<=9:=by
  unfold lZ at q;unfold lW;cases hk:lC h
  · simp[hk]at q
  · rw[zd]at hk;simp only[if_true];exact⟨trivial,by omega,by omega⟩
def eR(w:dq)(p:Int):Bool:=dy p 0 ((w.parts.length:Int)-1)
theorem wh{N:Nat}{w:dq}(hl:w.parts.length<dh)(p:Int):mg N w p=some (eR w p):=by
  have hl:w.parts.length<16777216:=hl;unfold mg eR;rw[ko,dF (by omega) (by omega)];rfl
theorem fx{w:dq}{p:Int}(h:eR w p=true):idx w.parts p=some (nth w.parts p)/\nth w.parts p∈w.parts:=by
  unfold eR at h;rw[dM]at h;exact⟨eP h.1 (by omega),gJ h.1 (by omega)⟩
theorem xR{N:Nat}(hN:dh<=N){own:List Int}{a b:fD}(ho:own.length<dh)(ha:a.Rb.length<dh)(hb:b.Rb.length<dh):mC N own a b=some (qa own a b):=by
  unfold mC qa;simp only[zq hN ho,uw hN ha,uw hN hb,Ry,gW];cases h1:jb own
  · rfl
  cases h2:fw a
  · rfl
  cases h3:fw b
  · rfl
  have l2:=(rE.1 h2).1;have l3:=(rE.1 h3).1;simp only[RB,Bool.or_self,Rz,RC];rw[Ox a.Rb l2 (fun k y=>!decide (y>(b.Rb[k]?).getD 0) || own.contains (k:Int)) (.inl 4) (.inr false) hN]
  · simp only[Ry];cases allI _ 0 a.Rb<;>rfl
  · intro k y hy hk hd;have hz:b.Rb[k]?=some (b.Rb[k]'(by omega)):=List.getElem?_eq_getElem _;simp only[hd,RA,dN,hy,hz,Ry,Option.getD_some,vt hN ho,eD (show k<dh from Nat.lt_trans hk (by decide))];cases decide (y>b.Rb[k]'(by omega))<;>cases own.contains (k:Int)<;>rfl
  · rfl
def target(p:Int)(c:dH):Int:=if(c.so==7) || (c.so==17)then lZ c.a else if c.so==16 then c.b else p
def other(w:dq)(p:Int)(c:dH):Int:=if eR w (target p c)then target p c else -1
theorem GO{N:Nat}{w:dq}(hl:w.parts.length<dh)(p:Int)(c:dH):oK N w p c=some (other w p c):=by
  unfold oK other target;simp only[wc,wh hl,Ry]
  cases c.so==7<;>cases c.so==17<;>cases c.so==16<;>simp only[RA,Rz,Ry,Bool.or_self,Bool.or_true,Bool.true_or,Bool.or_false,if_true,if_false,Bool.false_eq_true] <;>
    first|(cases eR w (lZ c.a)<;>rfl)|(cases eR w c.b<;>rfl)|(cases eR w p<;>rfl)
theorem FJ{N:Nat}{w:dq}(hl:w.parts.length<dh)(p:Int)(c:dH):oP N w p c=some (other w p c):=by
  have hl:w.parts.length<16777216:=hl;unfold oP other target eR;simp only[vH,jV,Ry];rw[dF (by omega) (by omega)]
  cases c.so==7<;>cases c.so==17<;>cases c.so==16<;>simp only[RA,Rz,Ry,Bool.or_self,Bool.or_true,Bool.true_or,Bool.or_false,if_true,if_false,Bool.false_eq_true] <;>
    first|(cases dy (lZ c.a) 0 ((w.parts.length:Int)-1)<;>rfl)|(cases dy c.b 0 ((w.parts.length:Int)-1)<;>rfl)|(cases dy p 0 ((w.parts.length:Int)-1)<;>rfl)
theorem qo{w:dq}{p:Int}{c:dH}(h:decide (other w p c<0)=false):eR w (other w p c)=true:=by
  unfold other at h⊢;cases hp:eR w (target p c)
  · simp[hp]at h
  · simp[hp]
theorem od{t:List dk}(h:fF t=true):t.length=5:=(fI.1 h).len
def iw(p:bh)(i:Int):Int:=if fF p.Re&&ei p.Re i then i else 0
theorem hO{t:List dk}{i:Int}(h:ei t i=true):0<=i/\i<=4:=by
  unfold ei at h;simp only[RD,dM]at h;exact h.1
theorem sD(p:bh)(i:Int):0<=iw p i/\iw p i<=4:=by
  unfold iw;split
  · rename_i h;simp only[RD]at h;exact hO h.2
  · omega
theorem Bw{N:Nat}(hN:dh<=N)(p:bh)(i:Int):pS N p i=some (iw p i):=by
  unfold pS iw;rw[qA hN,Ry];cases h:fF p.Re
  · rfl
  · simp only[RB,Rz,pQ N (od h),Ry,RC];cases ei p.Re i<;>rfl
theorem sB{N:Nat}(hN:dh<=N)(t:List dk)(i:Int):kt N t i=some (fF t&&ei t i):=by
  unfold kt ei;simp only[vX hN,vr,Ry];cases h:fF t
  · rfl
  have hl:=od h;cases hi:dy i 0 4
  · rfl
  · simp only[RA,Aw hi (by omega) (show(4:Int)<(t.length:Int) by omega),Ry,RC]
theorem xh{N:Nat}(hN:dh<=N)(p:bh)(i:Int):kK N p i=some (iw p i):=by
  unfold kK iw;rw[sB hN,Ry];cases(fF p.Re&&ei p.Re i)<;>rfl
theorem jB{p:bh}(h:dI p=true):fF p.Re=true:=by
  unfold dI at h;simp only[RD]at h;exact h.2.2.1
theorem xf{p:bh}(h:dI p=true){i:Int}(h0:0<=i)(h4:i<=4):idx p.Re i=some (nth p.Re i):=eP h0 (by have:=od (jB h);omega)
def sn(p:bh)(i:Int):de:=(nth p.Re (iw p (nth p.heap.ag i).Rt)).dQ
theorem zk{N:Nat}(hN:dh<=N){p:bh}(h:dI p=true){i:Int}(h0:0<=i)(h9:i<=9):ox N p i=some (sn p i):=by
  unfold ox sn;obtain⟨r0,r4⟩:=sD p (nth p.heap.ag i).Rt;simp only[((fe h).at h0 h9).1,Ry,Bw hN,xf h r0 r4]
def uR(p:bh)(i:Int):Bool:=((nth p.heap.ag i).Rm==0)&&decide ((sn p i).du>0)
def runnable(p:bh)(now:Int):List Int:=(threads p now).filter (uR p)
theorem x7(p:bh)(now:Int):(runnable p now).length<=10:=by
  unfold runnable;refine Nat.le_trans (List.length_filter_le _ _) ?_;unfold threads;split
  · rename_i hp;refine Nat.le_trans (wF _ _ _ _) ?_;rw[mf (fe hp)];exact Nat.le_refl _
  · exact Nat.zero_le _
theorem IZ{N:Nat}(hN:dh<=N){p:bh}(hb:dG p<dh)(now:Int):qD N p now=some (runnable p now):=by
  have hl:=pw p now;unfold qD runnable;rw[yw hN hb,Ry,m7 (threads p now) (fun _ i=>uR p i) (fun _ y=>y) hl hN,nV]
  · rfl
  · intro k t y hy hk ht;obtain⟨hp,y0,y9⟩:=ll (List.mem_of_getElem? hy);simp only[ey hk,RA,dN,hy,Ry,((fe hp).at y0 y9).1,zk hN hp y0 y9,iK,eD (Nat.lt_trans hk hl),hY ht (Nat.lt_of_le_of_lt hk hl)]
    show(bif uR p y then _ else _)=_
    cases uR p y<;>rfl
  · intro t;simp only[er,Rz]
theorem Ia{N:Nat}(hN:dh<=N){p:bh}(hb:dG p<dh)(hw:wP p)(now:Int):ql N p now=some (runnable p now):=by
  have hl:=pw p now;unfold ql runnable;rw[wi hN hb hw,Ry,m7 (threads p now) (fun _ i=>uR p i) (fun _ y=>y) hl hN,nV]
  · rfl
  · intro k t y hy hk ht;obtain⟨hp,y0,y9⟩:=ll (List.mem_of_getElem? hy);obtain⟨r0,r4⟩:=sD p (nth p.heap.ag y).Rt;simp only[ey hk,RA,dN,hy,Ry,((fe hp).at y0 y9).1,xh hN,xf hp r0 r4,iK,eD (Nat.lt_trans hk hl),hY ht (Nat.lt_of_le_of_lt hk hl)]
    show(bif uR p y then _ else _)=_
    cases uR p y<;>rfl
  · intro t;simp only[er,Rz]
def vb(h:df)(r:List Bool)(k:Nat)(o:c6):Bool:=(decide ((k:Int)<h.gc.Rp)&&o.mark) || (decide ((k:Int)>=h.gc.Rp)&&(decide ((k:Int)>0)&&(nth r (k:Int)&&!o.mark)))
def black(h:df)(r:List Bool)(k:Nat)(o:c6):Bool:=nth r (k:Int)&&((o.mark || ((k:Int)==0))&&!h.gc.da.contains (k:Int))
def wu(h:df)(r:List Bool)(y:Int):Bool:=decide (y>0)&&(nth r y&&!(nth h.ag y).mark)
def A2(h:df)(r:List Bool)(k:Nat)(o:c6):Bool:=!black h r k o || (eY h.ag (k:Int)).all fun y=>!wu h r y
def nh(h:df)(now:Int):Bool:=fR h&&(bif h.gc.Rg==1 then allI (fun k o=>!vb h (reach h.ag now) k o) 0 h.ag else allI (A2 h (reach h.ag now)) 0 h.ag)
theorem Qi{p q r m:Bool}(c:Bool):(bif p then(bif m then some true else(bif q then(bif c then(bif r then some (!m)else some false)else some false)else some false))else(bif q then(bif c then(bif r then some (!m)else some false)else some false)else some false):Option Bool)=some ((p&&m) || (q&&(c&&(r&&!m)))):=by
  cases p<;>cases q<;>cases r<;>cases m<;>cases c<;>rfl
theorem Mc{N:Nat}(hN:dh<=N){h:df}(h1:eK dA h.ag<dh)(h2:h.gc.da.length<dh)(now:Int):tq N h now=some (nh h now):=by
  unfold tq nh;simp only[vU hN h1 h2,BR hN h1,Ry];cases q:fR h
  · rfl
  have ha:=kl q;have hB:=ha.uX;have hl:=mf ha now;simp only[RB,Rz,RC];cases hp:h.gc.Rg==1
  · simp only[Rz];rw[fG h.ag (A2 h (reach h.ag now)) (.inl (h.ag.length:Int)) (.inr false) (Nat.lt_of_lt_of_le hB hN)]
    · simp only[Ry];cases allI (A2 h (reach h.ag now)) 0 h.ag<;>rfl
    · intro k o ho hk
      have hk10:k<10:=by rw[<- ha.len];exact hk
      obtain⟨e1,e2⟩:=jH ha (k:Int);have heB:(eY h.ag (k:Int)).length<dh:=Nat.lt_of_le_of_lt e2 (by decide);simp only[ey hk,RA,dN,ho,Ry,re hN h2,eD (Nat.lt_trans hk hB)];rw[<- dN (reach h.ag now) k,eP (l:=reach h.ag now) (i:=(k:Int)) (by omega) (by omega),ym hN ha (by omega) (by omega)];simp only[Ry]
      rw[show(bif nth (reach h.ag now) (k:Int)then(bif o.mark then some (!h.gc.da.contains (k:Int))else bif(k:Int)==0 then some (!h.gc.da.contains (k:Int))else some false)else some false:Option Bool)=some (black h (reach h.ag now) k o) by
        unfold black
        cases nth (reach h.ag now) (k:Int)<;>cases o.mark<;>cases((k:Int)==0)<;>rfl]
      simp only[Ry];rw[fG (eY h.ag (k:Int)) (fun _ y=>!(black h (reach h.ag now) k o&&wu h (reach h.ag now) y)) (.inl ((eY h.ag (k:Int)).length:Int)) (.inr false) (Nat.lt_of_lt_of_le heB hN),gF]
      · unfold A2;cases black h (reach h.ag now) k o
        · simp
        · simp only[RC,RB,Bool.false_or,Ry];cases(eY h.ag (k:Int)).all fun y=>!wu h (reach h.ag now) y<;>rfl
      · intro j y hy hj;obtain⟨y0,y9⟩:=e1 y (List.mem_of_getElem? hy);simp only[ey hj,RA,dN,hy,Ry,eP (l:=reach h.ag now) y0 (by omega),(ha.at y0 y9).1,iK,eD (Nat.lt_trans hj heB)];unfold wu;cases(black h (reach h.ag now) k o&&(decide (y>0)&&(nth (reach h.ag now) y&&!(nth h.ag y).mark)))<;>rfl
      · simp only[er,Rz]
    · simp only[er,Rz]
  · simp only[RA];rw[fG h.ag (fun k o=>!vb h (reach h.ag now) k o) (.inl (h.ag.length:Int)) (.inr false) (Nat.lt_of_lt_of_le hB hN)]
    · simp only[Ry];cases allI (fun k o=>!vb h (reach h.ag now) k o) 0 h.ag<;>rfl
    · intro k o ho hk
      have hk10:k<10:=by rw[<- ha.len];exact hk
      simp only[ey hk,RA,dN,ho,Ry,eD (Nat.lt_trans hk hB)];rw[<- dN (reach h.ag now) k,eP (l:=reach h.ag now) (i:=(k:Int)) (by omega) (by omega)];simp only[Ry];rw[Qi];unfold vb;simp only[Ry];cases((decide ((k:Int)<h.gc.Rp)&&o.mark) || (decide ((k:Int)>=h.gc.Rp)&&(decide ((k:Int)>0)&&(nth (reach h.ag now) (k:Int)&&!o.mark))))<;>rfl
    · simp only[er,Rz]
theorem Lu{N:Nat}(hN:dh<=N){h:df}(h1:eK dA h.ag<dh)(h2:h.gc.da.length<dh)(hw:wA h.ag)(now:Int):ti N h now=some (nh h now):=by
  unfold ti nh;simp only[vZ hN h1 h2 hw,Bz hN h1 hw,Ry];cases q:fR h
  · rfl
  have ha:=kl q;have hB:=ha.uX;have hl:=mf ha now
  have h10:(h.ag.length:Int)=10:=by have:=ha.len;omega
  simp only[RB,Rz,RC];cases hp:h.gc.Rg==1
  · simp only[Rz];rw[fG h.ag (A2 h (reach h.ag now)) (.inl 10) (.inr false) (Nat.lt_of_lt_of_le hB hN)]
    · simp only[Ry];cases allI (A2 h (reach h.ag now)) 0 h.ag<;>rfl
    · intro k o ho hk
      have hk10:k<10:=by rw[<- ha.len];exact hk
      have hd:decide ((k:Int)<10)=true:=by simp;omega
      obtain⟨e1,e2⟩:=jH ha (k:Int);have heB:(eY h.ag (k:Int)).length<dh:=Nat.lt_of_le_of_lt e2 (by decide);simp only[hd,RA,dN,ho,Ry,vt hN h2,eD (Nat.lt_trans hk hB)];rw[<- dN (reach h.ag now) k,eP (l:=reach h.ag now) (i:=(k:Int)) (by omega) (by omega),BY hN h1 hw ha (by omega) (by omega)];simp only[Ry]
      rw[show(bif !nth (reach h.ag now) (k:Int)then some true else(bif h.gc.da.contains (k:Int)then some true else bif decide ((k:Int)>0)then some (!o.mark)else some false):Option Bool)=some (!black h (reach h.ag now) k o) by
        unfold black
        cases k with
        | zero=>cases nth (reach h.ag now) ((0:Nat):Int)<;>cases o.mark<;>cases h.gc.da.contains ((0:Nat):Int)<;>rfl
        | succ k =>
          rw[decide_eq_true (show((k+1:Nat):Int)>0 by omega),show((((k+1:Nat):Int))==0)=false by simp;omega]
          cases nth (reach h.ag now) ((k+1:Nat):Int)<;>cases o.mark<;>cases h.gc.da.contains ((k+1:Nat):Int)<;>rfl]
      simp only[Ry];rw[fG (eY h.ag (k:Int)) (fun _ y=>!wu h (reach h.ag now) y) (.inl ((eY h.ag (k:Int)).length:Int)) (.inr false) (Nat.lt_of_lt_of_le heB hN),gF]
      · unfold A2;cases black h (reach h.ag now) k o
        · rfl
        · simp only[RB,Bool.false_or,Rz,Ry];cases(eY h.ag (k:Int)).all fun y=>!wu h (reach h.ag now) y<;>rfl
      · intro j y hy hj;obtain⟨y0,y9⟩:=e1 y (List.mem_of_getElem? hy);simp only[ey hj,RA,dN,hy,Ry,eP (l:=reach h.ag now) y0 (by omega),(ha.at y0 y9).1,iK,eD (Nat.lt_trans hj heB)];unfold wu;cases(decide (y>0)&&(nth (reach h.ag now) y&&!(nth h.ag y).mark))<;>rfl
      · simp only[er,Rz]
    · rw[h10];rfl
  · simp only[RA];rw[fG h.ag (fun k o=>!vb h (reach h.ag now) k o) (.inl 10) (.inr false) (Nat.lt_of_lt_of_le hB hN)]
    · simp only[Ry];cases allI (fun k o=>!vb h (reach h.ag now) k o) 0 h.ag<;>rfl
    · intro k o ho hk
      have hk10:k<10:=by rw[<- ha.len];exact hk
      have hd:decide ((k:Int)<10)=true:=by simp;omega
      simp only[hd,RA,dN,ho,Ry,eD (Nat.lt_trans hk hB)];rw[<- dN (reach h.ag now) k,eP (l:=reach h.ag now) (i:=(k:Int)) (by omega) (by omega)];simp only[Ry];rw[Qi];unfold vb;simp only[Ry];cases((decide ((k:Int)<h.gc.Rp)&&o.mark) || (decide ((k:Int)>=h.gc.Rp)&&(decide ((k:Int)>0)&&(nth (reach h.ag now) (k:Int)&&!o.mark))))<;>rfl
    · rw[h10];rfl
def sound(w:dq):Bool:=eO w&&w.parts.all fun p=>nh p.heap w.Rj
theorem NR{N:Nat}(hN:dh<=N){w:dq}(hb:eK dG w.parts<dh):uQ N w=some (sound w):=by
  have hB:=gL hb;unfold uQ sound;rw[fG w.parts (fun _ p=>nh p.heap w.Rj) (.inl (w.parts.length:Int)) (.inr false) (Nat.lt_of_lt_of_le hB hN),gF]
  · simp only[Ry,qt hN hb];cases w.parts.all fun p=>nh p.heap w.Rj
    · simp
    · simp
  · intro k p hy hk;obtain⟨_,_,_,h4,h5,_⟩:=gE (fH hb (List.mem_of_getElem? hy));simp only[ey hk,RA,dN,hy,Ry,Mc hN h4 h5,eD (Nat.lt_trans hk hB)];cases nh p.heap w.Rj<;>rfl
  · simp only[er,Rz]
theorem HX{N:Nat}(hN:dh<=N){w:dq}(hb:eK dG w.parts<dh)(hw:wW w.parts):sQ N w=some (sound w):=by
  have hB:=gL hb;unfold sQ sound;rw[pU hN hb hw,Ry];cases eO w
  · rfl
  simp only[RB,Rz,RC];rw[fG w.parts (fun _ p=>nh p.heap w.Rj) (.inl (w.parts.length:Int)) (.inr false) (Nat.lt_of_lt_of_le hB hN),gF]
  · simp only[Ry];cases w.parts.all fun p=>nh p.heap w.Rj<;>rfl
  · intro k p hy hk;have hm:=List.mem_of_getElem? hy;obtain⟨_,_,_,h4,h5,_⟩:=gE (fH hb hm);simp only[ey hk,RA,dN,hy,Ry,Lu hN h4 h5 (hw p hm),eD (Nat.lt_trans hk hB)];cases nh p.heap w.Rj<;>rfl
  · simp only[er,Rz]
def om(b:List eh)(w:dq):Bool:=ia b&&(eO w&&decide (tT w=lI b))
theorem Gv{N:Nat}(hN:dh<=N){b:List eh}{w:dq}(h1:eK fh b<dh)(hb:eK dG w.parts<dh):oI N b w=some (om b w):=by
  unfold oI om;simp only[xB hN h1,qt hN hb,H4 hN hb,Kj hN h1,Ry];cases ia b<;>cases eO w<;>rfl
theorem zB{N:Nat}(hN:dh<=N){b:List eh}{w:dq}(h1:eK fh b<dh)(hb:eK dG w.parts<dh)(hw:wW w.parts):mS N b w=some (om b w):=by
  unfold mS om;simp only[xX hN h1,pU hN hb hw,IN hN hb hw,J5 hN h1,Ry];cases ia b<;>cases eO w<;>rfl
end Go.Kx
