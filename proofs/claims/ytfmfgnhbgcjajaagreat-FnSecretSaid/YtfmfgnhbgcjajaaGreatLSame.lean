import Derived.Test.YtfmfgnhbgcjajaaGreatLBoot
namespace Go.Kx
open Go
open Go.IntKind (i64)
set_option linter.unusedVariables false
set_option linter.unusedSimpArgs false
set_option maxRecDepth 10000
theorem Cg{N:Nat}(hN:df<=N){a b:List Int}(ha:a.length<df):rh N a b=some (decide (a=b)):=xd a b (· != ·) (by intro y z;by_cases h:y=z<;>simp[h]) ha hN
theorem zD{N:Nat}(hN:df<=N){a b:List Int}(ha:a.length<df):oL N a b=some (decide (a=b)):=xd a b (· != ·) (by intro y z;by_cases h:y=z<;>simp[h]) ha hN
theorem G7{N:Nat}(hN:df<=N){a b:List eL}(ha:a.length<df):rV N a b=some (decide (a=b)):=xd a b (fun y z=>!decide (y=z)) (fun _ _=>rfl) ha hN
theorem Lw(a b:dV):decide (a.Ro=b.Ro)=decide (a=b):=by cases a;cases b;simp
theorem Gq{N:Nat}(hN:df<=N){a b:dV}(ha:a.Ro.length<df):rW N a b=some (decide (a=b)):=by
  rw[<- Lw];exact xd a.Ro b.Ro (· != ·) (by intro y z;by_cases h:y=z<;>simp[h]) ha hN
theorem zg{o:c6}(h:dw o<df):o.dk.length<df/\o.Rw.length<df/\o.Rs.length<df:=by unfold dw at h;omega
theorem Li{N:Nat}(hN:df<=N){a b:c6}(ha:dw a<df):rR N a b=some (decide (a=b)):=by
  obtain⟨h1,h2,h3⟩:=zg ha;unfold rR;simp only[zD hN h1,zD hN h2,G7 hN h3,RK,iB];congr 1;rw[Bool.eq_iff_iff];cases a;cases b;simp[c6.mk.injEq]
theorem LJ{N:Nat}(hN:df<=N){a b:c6}(ha:dw a<df):qz N a b=some (decide (a=b)):=by
  obtain⟨h1,h2,h3⟩:=zg ha;unfold qz;simp only[gv,RK];cases hj:(a.RG != b.RG || (a.Rq != b.Rq || (a.box != b.box || (a.RF != b.RF || (a.dY != b.dY || (a.cd != b.cd || (a.Ry != b.Ry || (a.ee != b.ee || (a.ed != b.ed || (!(a.mark==b.mark) || ((a.dk.length:Int) != (b.dk.length:Int) || ((a.Rw.length:Int) != (b.Rw.length:Int) || ((a.Rs.length:Int) != (b.Rs.length:Int))))))))))))))
  · simp only[Bool.or_eq_false_iff,bne_eq_false_iff_eq,Bool.not_eq_false',beq_iff_eq]at hj;obtain⟨e1,e2,e3,e4,e5,e6,e7,e8,e9,e10,l1,l2,l3⟩:=hj;simp only[RL]
    rw[wV a.dk b.dk (by omega) (.inl (a.dk.length:Int)) (.inr false) (Nat.lt_of_lt_of_le h1 hN),RK,
      wV a.Rw b.Rw (by omega) (.inl (a.Rw.length:Int)) (.inr false) (Nat.lt_of_lt_of_le h2 hN),RK,
      wV a.Rs b.Rs (by omega) (.inl (a.Rs.length:Int)) (.inr false) (Nat.lt_of_lt_of_le h3 hN),RK]
    · have:decide (a=b)=(decide (a.dk=b.dk)&&(decide (a.Rw=b.Rw)&&decide (a.Rs=b.Rs))):=by
        rw[Bool.eq_iff_iff];cases a;cases b
        simp_all [c6.mk.injEq]
      rw[this]
      by_cases q1:a.dk=b.dk<;>by_cases q2:a.Rw=b.Rw<;>by_cases q3:a.Rs=b.Rs<;>simp[q1,q2,q3]
    · intro k y z hy hz hk;simp only[ei hk,RM,dM,hy,hz,RK,eB (Nat.lt_trans hk h3)]
      by_cases h:y=z<;>simp[h]
    · simp only[ep,RL]
    · intro k y z hy hz hk;simp only[ei hk,RM,dM,hy,hz,RK,HI,eB (Nat.lt_trans hk h2)]
      by_cases h:y=z<;>simp[h]
    · simp only[ep,RL]
    · intro k y z hy hz hk;simp only[ei hk,RM,dM,hy,hz,RK,HI,eB (Nat.lt_trans hk h1)]
      by_cases h:y=z<;>simp[h]
    · simp only[ep,RL]
  · have:¬ a=b:=by
      rintro rfl;simp at hj
    simp[this]
theorem F8{N:Nat}(hN:df<=N){a b:List c6}(ha:eE dw a<df):rT N a b=some (decide (a=b)):=Hu a b (qz N) (fun y z hy _=>LJ hN (fq ha hy)) (gj ha) hN
theorem gm{p:bh}(h:dC p<df):p.Rp.Ro.length<df/\p.own.length<df/\p.Rr.length<df/\eE dw p.py.ag<df/\p.py.gc.da.length<df/\p.db.length<df:=by
  unfold dC mu vX iN at h;omega
theorem Jx{N:Nat}(hN:df<=N){a b:bh}(ha:dC a<df):pQ N a b=some (decide (a=b)):=by
  obtain⟨h1,h2,h3,h4,h5,h6⟩:=gm ha;unfold pQ;simp only[Gq hN h1,Cg hN h2,F8 hN h4,Cg hN h5,RK,gv,iB];cases hj:(!decide (a.Rp=b.Rp) || (!decide (a.own=b.own) || ((a.Rr.length:Int) != (b.Rr.length:Int) || ((a.db.length:Int) != (b.db.length:Int) || (a.RA != b.RA || (a.Rz != b.Rz || (!decide (a.dc=b.dc) || (a.du != b.du || a.Rx != b.Rx))))))))
  · simp only[Bool.or_eq_false_iff,bne_eq_false_iff_eq,Bool.not_eq_false',decide_eq_true_eq]at hj;obtain⟨e1,e2,l1,l2,e3,e4,e5,e6,e7⟩:=hj;simp only[RL]
    rw[wV a.Rr b.Rr (by omega) (.inl (a.Rr.length:Int)) (.inr false) (Nat.lt_of_lt_of_le h3 hN),RK,
      wV a.db b.db (by omega) (.inl (a.db.length:Int)) (.inr false) (Nat.lt_of_lt_of_le h6 hN),RK]
    · have:decide (a=b)=(decide (a.Rr=b.Rr)&&(decide (a.db=b.db)&&(decide (a.py.ag=b.py.ag)&&((a.py.gc.Ru==b.py.gc.Ru)&&((a.py.gc.RD==b.py.gc.RD)&&((a.py.gc.Rv==b.py.gc.Rv)&&decide (a.py.gc.da=b.py.gc.da))))))):=by
        rw[Bool.eq_iff_iff];obtain⟨_,_,_,⟨_,⟨_,_,_,_⟩⟩,_,_,_,_,_,_⟩:=a;obtain⟨_,_,_,⟨_,⟨_,_,_,_⟩⟩,_,_,_,_,_,_⟩:=b;simp only at e1 e2 e3 e4 e5 e6 e7;subst e1;subst e2;subst e3;subst e4;subst e5;subst e6;subst e7;simp only[bh.mk.injEq,dm.mk.injEq,eS.mk.injEq,RP,decide_eq_true_eq,beq_iff_eq,true_and,and_true];constructor
        · rintro⟨q1,⟨q2,q3,q4,q5,q6⟩,q7⟩;exact⟨q1,q7,q2,q3,q4,q5,q6⟩
        · rintro⟨q1,q7,q2,q3,q4,q5,q6⟩;exact⟨q1,⟨q2,q3,q4,q5,q6⟩,q7⟩
      rw[this]
      by_cases q1:a.Rr=b.Rr<;>by_cases q2:a.db=b.db<;>simp[q1,q2]
    · intro k y z hy hz hk;simp only[ei hk,RM,dM,hy,hz,RK,eB (Nat.lt_trans hk h6)]
      by_cases h:y=z<;>simp[h]
    · simp only[ep,RL]
    · intro k y z hy hz hk;simp only[ei hk,RM,dM,hy,hz,RK,eB (Nat.lt_trans hk h3)]
      by_cases h:y=z<;>simp[h]
    · simp only[ep,RL]
  · have:¬ a=b:=by
      rintro rfl;simp at hj
    simp[this]
theorem fM{α:Type}{l:List α}(h:l.length<df):app ([]:List α) l=some l:=by
  unfold app;rw[if_pos (by simpa using h)];rfl
theorem qn{N:Nat}{l:List Int}(h:l.length<df):jB N l=some l:=by unfold jB;rw[fM h];rfl
theorem zT{N:Nat}{l:dV}(h:l.Ro.length<df):mH N l=some l:=by unfold mH;rw[qn h];rfl
theorem mV{N:Nat}{l:List dj}(h:l.length<df):iX N l=some l:=by unfold iX;rw[fM h];rfl
theorem nj{N:Nat}{l:List dj}(h:l.length<df):iP N l=some l:=by unfold iP;rw[fM h];rfl
theorem CO{N:Nat}{o:c6}(h:dw o<df):pw N o=some o:=by
  obtain⟨h1,h2,h3⟩:=zg h;unfold pw;simp only[qn h1,qn h2,fM h3,RK]
theorem HV{N:Nat}{o:c6}(h:dw o<df):ss N o=some o:=by
  obtain⟨h1,h2,h3⟩:=zg h;unfold ss;simp only[fM h1,fM h2,fM h3,RK]
theorem tX{N:Nat}(hN:df<=N){l:List c6}(hb:eE dw l<df):ks N l=some l:=by
  have hl:=gj hb;unfold ks;rw[jq l (fun _ _=>true) (fun _ y=>y) hl hN,kY (fun _=>true)]
  · simp
  · intro k t y hy hk ht;simp only[ei hk,RM,dM,hy,RK,CO (fq hb (List.mem_of_getElem? hy)),eB (Nat.lt_trans hk hl),fZ ht (Nat.lt_of_le_of_lt hk hl)];rfl
  · intro t;simp only[ep,RL]
theorem z6{N:Nat}(hN:df<=N){l:List c6}(hb:eE dw l<df):mP N l=some l:=by
  have hl:=gj hb;unfold mP;rw[jq l (fun _ _=>true) (fun _ y=>y) hl hN,kY (fun _=>true)]
  · simp
  · intro k t y hy hk ht;simp only[ei hk,RM,dM,hy,RK,HV (fq hb (List.mem_of_getElem? hy)),eB (Nat.lt_trans hk hl),fZ ht (Nat.lt_of_le_of_lt hk hl)];rfl
  · intro t;simp only[ep,RL]
theorem uV{N:Nat}(hN:df<=N){h:dm}(h1:eE dw h.ag<df)(h2:h.gc.da.length<df):lj N h=some h:=by
  unfold lj;simp only[tX hN h1,qn h2,RK]
theorem wo{N:Nat}(hN:df<=N){h:dm}(h1:eE dw h.ag<df)(h2:h.gc.da.length<df):l8 N h=some h:=by
  unfold l8;simp only[z6 hN h1,fM h2,RK]
theorem mW{N:Nat}(hN:df<=N){p:bh}(h:dC p<df):gJ N p=some p:=by
  obtain⟨h1,h2,h3,h4,h5,h6⟩:=gm h;unfold gJ;simp only[zT h1,qn h2,mV h3,uV hN h4 h5,fM h6,RK]
theorem qa{N:Nat}(hN:df<=N){p:bh}(h:dC p<df):jz N p=some p:=by
  obtain⟨h1,h2,h3,h4,h5,h6⟩:=gm h;unfold jz;simp only[fM h1,fM h2,nj h3,wo hN h4 h5,fM h6,RK]
theorem vm{α:Type}{l:List α}{k:Nat}(h:k<=l.length):sub l 0 (k:Int)=some (l.take k):=by
  unfold sub;rw[if_pos ⟨Int.le_refl _,by omega,by omega⟩];simp
theorem CY{α:Type}(f:α->Nat):∀(l:List α) (k:Nat),lI f (l.take k)<=lI f l
  | [],k=>by simp
  | y::l,0=>Nat.zero_le _
  | y::l,k+1=>by
    have:=CY f l k;simp only[List.take_succ_cons,lI];omega
theorem zQ{α:Type}(f:α->Nat)(p:α->Bool):∀(l:List α),lI f (l.filter p)<=lI f l
  | []=>Nat.le_refl _
  | y::l=>by
    have:=zQ f p l;rw[List.filter_cons];split<;>simp only[lI]<;>omega
theorem Am{α:Type}(f:α->Nat)(l:List α)(k:Nat):eE f (l.take k)<=eE f l:=by
  have:=CY f l k;unfold eE;simp only[List.length_take];omega
theorem Jf{α:Type}(f:α->Nat)(p:α->Bool)(l:List α):eE f (l.filter p)<=eE f l:=by
  have:=zQ f p l;have:=List.length_filter_le p l;unfold eE;omega
theorem QO(n:Nat):(if(3:Int)<(n:Int)then(3:Int)else(n:Int))=((min 3 n:Nat):Int):=by split<;>omega
def k6(w:dh)(l:dV):List bh:=(w.parts.take 3).filter fun p=>fT p.Rp l
theorem Ew(w:dh)(l:dV):eE dC (k6 w l)<=eE dC w.parts:=Nat.le_trans (Jf _ _ _) (Am _ _ _)
theorem zV{N:Nat}(hN:df<=N){w:dh}{l:dV}(hb:eE dC w.parts<df)(hl:l.Ro.length<df):mK N w l=some (k6 w l):=by
  have hb3:eE dC (w.parts.take 3)<df:=Nat.lt_of_le_of_lt (Am _ _ _) hb;have hl3:=gj hb3;unfold mK k6
  have e:w.parts.take (min 3 w.parts.length)=w.parts.take 3:=by
    rcases Nat.lt_or_ge 3 w.parts.length with h|h
    · rw[show min 3 w.parts.length=3 by omega]
    · rw[show min 3 w.parts.length=w.parts.length by omega,List.take_of_length_le h,List.take_length]
  rw[QO,vm (by omega),e,RK,jq (w.parts.take 3) (fun _ p=>fT p.Rp l) (fun _ y=>y) hl3 hN,kY]
  · rfl
  · intro k t y hy hk ht;have hz:=fq hb3 (List.mem_of_getElem? hy);simp only[ei hk,RM,dM,hy,RK,H7 hN (gm hz).1 hl,mW hN hz,eB (Nat.lt_trans hk hl3),fZ ht (Nat.lt_of_le_of_lt hk hl3)];cases fT y.Rp l<;>rfl
  · intro t;simp only[ep,RL]
theorem oc{α:Type}(p:Bool)(a b:α):(bif p then some a else some b)=some (bif p then a else b):=by cases p<;>rfl
theorem z5{ρ τ β:Type}(c:Bool)(a:ρ)(r:τ)(f:ρ->Option β)(g:τ->Option β):Sum.elim f g (if c then .inl a else .inr r)=if c then f a else g r:=by cases c<;>rfl
theorem xz(N:Nat)(a:Int):mN N a=some (dv a 0 2):=by unfold mN;rw[jK];rfl
theorem sc(N:Nat)(a:Int):kj N a=some (dv a 0 9):=by unfold kj;rw[jK];rfl
theorem vB(N:Nat)(a:Int):je N a=some (dv a 0 1000000):=by unfold je;rw[jK];rfl
theorem ox(N:Nat)(a:Int):iU N a=some (dv a 0 29999):=by unfold iU;rw[jK];rfl
theorem qt(N:Nat)(a:Int):iI N a=some (dv a 0 29999):=by unfold iI;rw[jj];rfl
theorem qe(N:Nat)(a:Int):ja N a=some (dv a 0 9):=by unfold ja;rw[jj];rfl
def td(m:eL):Bool:=!(bif(m.RJ != (-1))then(!dv m.RJ 0 29999 || !dv m.n 0 999)else !dv m.n 0 999)
def iT(o:c6):Bool:=o.dk.all (fun y=>dv y (-1) 9)&&(o.Rw.all (fun y=>dv y 0 999)&&(o.Rs.all td&&(((o.dk.length:Int)==2)&&(((o.Rw.length:Int)==(bif o.Rq==2 then o.cd else 0))&&decide ((o.Rs.length:Int)<=(bif o.Rq==3 then 2 else 0))))))
theorem Lo{N:Nat}(hN:df<=N){o:c6}(ho:dw o<df):rj N o=some (iT o):=by
  obtain⟨h1,h2,h3⟩:=zg ho;unfold rj iT;rw[gp o.dk (fun _ y=>dv y (-1) 9) (.inl (o.dk.length:Int)) (.inr false) (Nat.lt_of_lt_of_le h1 hN),gZ,RK]
  · cases o.dk.all fun y=>dv y (-1) 9
    · rfl
    simp only[if_true,Sum.elim_inl,RO];rw[gp o.Rw (fun _ y=>dv y 0 999) (.inl (o.Rw.length:Int)) (.inr false) (Nat.lt_of_lt_of_le h2 hN),gZ,RK]
    · cases o.Rw.all fun y=>dv y 0 999
      · rfl
      simp only[if_true,Sum.elim_inl,RO];rw[gp o.Rs (fun _ y=>td y) (.inl (o.Rs.length:Int)) (.inr false) (Nat.lt_of_lt_of_le h3 hN),gZ,RK]
      · cases o.Rs.all td
        · rfl
        simp only[if_true,Sum.elim_inl,RO,oc,RK];congr 1;cases((o.dk.length:Int)==2)<;>cases((o.Rw.length:Int)==(bif o.Rq==2 then o.cd else 0))<;>simp
      · intro k y hy hk;simp only[ei hk,RM,dM,hy,RK,jK,ox,gv,oc,eB (Nat.lt_trans hk h3)];unfold td;cases(y.RJ != (-1))<;>cases dv y.RJ 0 29999<;>cases dv y.n 0 999<;>rfl
      · simp only[ep,RL]
    · intro k y hy hk;simp only[ei hk,RM,dM,hy,RK,jK,eB (Nat.lt_trans hk h2)];cases dv y 0 999<;>rfl
    · simp only[ep,RL]
  · intro k y hy hk;simp only[ei hk,RM,dM,hy,RK,jK,eB (Nat.lt_trans hk h1)];cases dv y (-1) 9<;>rfl
  · simp only[ep,RL]
def blank(g:Int):c6:=c6.mk g 0 0 0 0 0 0 0 0 false [] [] []
def eG(o:c6):Bool:=dv o.RG 0 999&&(dv o.Rq 0 4&&(bif o.Rq==0 then decide (o=blank o.RG)else
  dv o.box (-1) 9&&(dv o.RF 0 4&&(dv o.dY 0 1000000&&(dv o.cd 0 8&&(iT o&&(bif o.Rq != 4 then(o.Ry==0&&(o.ee==0&&o.ed==0))else
    (o.Ry==0 || dv (i64.wrap (o.Ry-1)) 0 29999)&&(dv o.ee (-1) 999&&dv o.ed 0 1000000))))))))
theorem HU{N:Nat}(hN:df<=N){o:c6}(ho:dw o<df):sH N o=some (eG o):=by
  unfold sH eG;simp only[jK,uo,vB,ox,Lo hN ho,Li hN ho,RK,gv,iB,oc];rw[show c6.mk o.RG 0 0 0 0 0 0 0 0 false [] [] []=blank o.RG from rfl];congr 1;simp only[Bool.cond_true_left,Bool.cond_false_left,Bool.cond_true_right,Bool.cond_false_right,Bool.not_or,Bool.not_not,Bool.and_assoc];cases o.Ry==0<;>rfl
def mo(o:c6):Prop:=-9223372036854775808<=o.Ry
theorem Mf{n:Int}(h:-9223372036854775808<=n)(h0:n<0):dv (i64.wrap (n-1)) 0 29999=false:=by
  rcases Decidable.em (n=-9223372036854775808)with e|e
  · subst e;decide
  · rw[dB (by omega) (by omega)];simp[dv];omega
def AA(o:c6):Bool:=bif o.Rq != 4 then(o.Ry==0&&(o.ee==0&&o.ed==0))else
    (o.Ry==0 || dv (i64.wrap (o.Ry-1)) 0 29999)&&(dv o.ee (-1) 999&&dv o.ed 0 1000000)
theorem O4{o : c6}(hw : mo o)(hr : dv o.ed 0 1000000=true): (bif o.Rq != 4 then bif o.Ry != 0 then true else bif o.ee != 0 then true else bif o.ed != 0 then true else bif o.Rq==4 then
      bif decide (o.Ry<0)then true else bif decide (o.Ry>0)then !dv (i64.wrap (o.Ry-1)) 0 29999 || !dv o.ee (-1) 999 else !dv o.ee (-1) 999 else false
    else bif o.Rq==4 then bif decide (o.Ry<0)then true else bif decide (o.Ry>0)then !dv (i64.wrap (o.Ry-1)) 0 29999 || !dv o.ee (-1) 999 else !dv o.ee (-1) 999 else false) = !AA o:=by
  unfold AA;simp only[bne, hr];cases o.Rq==4
  · simp only[Bool.not_false, RM, RL];cases o.Ry==0<;>cases o.ee==0<;>cases o.ed==0<;>rfl
  · simp only[RN, RM, RL]
    rcases Int.lt_trichotomy o.Ry 0 with h|h|h
    · have e1 : decide (o.Ry<0)=true:=by simpa using h
      have e2 : (o.Ry==0)=false:=by simp; omega
      rw[e1, e2, Mf hw h]; rfl
    · simp only[h];cases dv o.ee (-1) 999<;>rfl
    · have e1 : decide (o.Ry<0)=false:=by simp; omega
      have e2 : (o.Ry==0)=false:=by simp; omega
      have e3 : decide (o.Ry>0)=true:=by simpa using h
      rw[e1, e2, e3];cases dv (i64.wrap (o.Ry-1)) 0 29999<;>cases dv o.ee (-1) 999<;>rfl
theorem Oy(o:c6):(bif(o.Rw.length:Int) != 0 then bif o.Rq != 2 then true else bif(o.Rw.length:Int) != o.cd then true else bif o.Rq==2 then(o.Rw.length:Int) != o.cd else false
    else bif o.Rq==2 then(o.Rw.length:Int) != o.cd else false)=!((o.Rw.length:Int)==(bif o.Rq==2 then o.cd else 0)):=by
  simp only[bne];cases o.Rq==2<;>cases h:((o.Rw.length:Int)==0)<;>cases h2:((o.Rw.length:Int)==o.cd)<;>simp[h,h2]
theorem Nk(o:c6):(bif decide ((o.Rs.length:Int)>2)then true else bif decide ((o.Rs.length:Int)>0)then o.Rq != 3 else false)=!decide ((o.Rs.length:Int)<=(bif o.Rq==3 then 2 else 0)):=by
  simp only[bne];cases o.Rq==3
  · simp only[RL]
    rcases Nat.lt_trichotomy o.Rs.length 0 with h|h|h
    · omega
    · simp[h]
    · rw[decide_eq_true (show(o.Rs.length:Int)>0 by omega),decide_eq_false (show ¬ ((o.Rs.length:Int)<=0) by omega)];cases decide ((o.Rs.length:Int)>2)<;>rfl
  · simp only[RM]
    rcases Nat.lt_or_ge 2 o.Rs.length with h|h
    · rw[decide_eq_true (show(o.Rs.length:Int)>2 by omega),decide_eq_false (show ¬ ((o.Rs.length:Int)<=2) by omega)];rfl
    · rw[decide_eq_false (show ¬ ((o.Rs.length:Int)>2) by omega),decide_eq_true (show(o.Rs.length:Int)<=2 by omega)];cases decide ((o.Rs.length:Int)>0)<;>rfl
theorem Hr{N:Nat}(hN:df<=N){o:c6}(ho:dw o<df)(hw:mo o):sq N o=some (eG o):=by
  obtain⟨h1,h2,h3⟩:=zg ho;unfold sq eG;rw[jj,RK];cases hg:dv o.RG 0 999
  · rfl
  simp only[RN,RL,RO];cases hk0:o.Rq==0
  · simp only[RL,jj,vj,RK,gv]
    have hk0':o.Rq ≠ 0:=by simpa using hk0
    cases hA:(!dv o.Rq 1 4 || (!dv o.box (-1) 9 || (!dv o.RF 0 4 || (!dv o.dY 0 1000000 || (!dv o.cd 0 8 || ((o.dk.length:Int) != 2 || !dv o.ed 0 1000000))))))
    · simp only[Bool.or_eq_false_iff,Bool.not_eq_false',bne_eq_false_iff_eq]at hA;obtain⟨a1,a2,a3,a4,a5,a6,a7⟩:=hA
      have a1':dv o.Rq 0 4=true:=by rw[dI]at a1⊢;omega
      have hl2:o.dk.length=2:=by omega
      simp only[RL,a1',a2,a3,a4,a5,RO];rw[gp o.dk (fun _ y=>dv y (-1) 9) (.inl (2:Int)) (.inr false) (Nat.lt_of_lt_of_le h1 hN),gZ,RK,z5]
      · unfold iT;cases hL:o.dk.all fun y=>dv y (-1) 9
        · rfl
        have e6:((o.dk.length:Int)==2)=true:=by simp[a6]
        simp only[if_true,RO,e6];simp only[qt,RK,oc];rw[O4 hw a7,Oy o];rw[show(bif o.Rq != 4 then(o.Ry==0&&(o.ee==0&&o.ed==0))else(o.Ry==0 || dv (i64.wrap (o.Ry-1)) 0 29999)&&(dv o.ee (-1) 999&&dv o.ed 0 1000000))=AA o from rfl];cases AA o
        · simp
        cases((o.Rw.length:Int)==(bif o.Rq==2 then o.cd else 0))
        · simp
        simp only[RN,RL,Bool.and_true,RO];rw[gp o.Rw (fun _ y=>dv y 0 999) (.inl (o.Rw.length:Int)) (.inr false) (Nat.lt_of_lt_of_le h2 hN),gZ,RK,z5,Nk o]
        · cases o.Rw.all fun y=>dv y 0 999
          · rfl
          simp only[if_true,RO];cases decide ((o.Rs.length:Int)<=(bif o.Rq==3 then 2 else 0))
          · simp
          simp only[RN,RL,Bool.and_true];rw[gp o.Rs (fun _ y=>td y) (.inl (o.Rs.length:Int)) (.inr false) (Nat.lt_of_lt_of_le h3 hN),gZ,RK,z5]
          · cases o.Rs.all td<;>rfl
          · intro k y hy hk;simp only[ei hk,RM,dM,hy,RK,eB (Nat.lt_trans hk h3)];unfold td;cases(y.RJ != (-1))<;>cases dv y.RJ 0 29999<;>cases dv y.n 0 999<;>rfl
          · simp only[ep,RL]
        · intro k y hy hk;simp only[ei hk,RM,dM,hy,RK,eB (Nat.lt_trans hk h2)];cases dv y 0 999<;>rfl
        · simp only[ep,RL]
      · intro k y hy hk
        have hd:decide ((k:Int)<2)=true:=by simp;omega
        simp only[hd,RM,dM,hy,RK,jj,eB (Nat.lt_trans hk h1)];cases dv y (-1) 9<;>rfl
      · simp[hl2]
    · simp only[RM];congr 1
      symm
      rw[Bool.eq_false_iff];intro h;simp only[iT,RP,dI,beq_iff_eq]at h;obtain⟨b0,b1,b2,b3,b4,⟨_,_,_,b5,_,_⟩,b6⟩:=h
      have q1:dv o.Rq 1 4=true:=by rw[dI];omega
      have q2:dv o.box (-1) 9=true:=by rw[dI];omega
      have q3:dv o.RF 0 4=true:=by rw[dI];omega
      have q4:dv o.dY 0 1000000=true:=by rw[dI];omega
      have q5:dv o.cd 0 8=true:=by rw[dI];omega
      have q6:((o.dk.length:Int) != 2)=false:=by simp[b5]
      have q7:dv o.ed 0 1000000=true:=by
        cases h4:o.Rq != 4
        · rw[h4]at b6;simp only[RL,RP]at b6;exact b6.2.2
        · rw[h4]at b6;simp only[RM,RP,beq_iff_eq]at b6;rw[b6.2.2];decide
      simp[q1,q2,q3,q4,q5,q6,q7]at hA
  · have hk:o.Rq=0:=by simpa using hk0
    simp only[RM,iB,RK];congr 1;rw[Bool.eq_iff_iff];obtain⟨_,_,_,_,_,_,_,_,_,_,_,_,_⟩:=o;simp only at hk;subst hk;simp[blank,dv]
theorem o6{o:c6}(h:eG o=true):o.dk.length<=2/\∀y,y∈o.dk->-1<=y/\y<=9:=by
  unfold eG at h;cases hk:o.Rq==0
  · simp only[hk,RL,RP]at h;obtain⟨_,_,_,_,_,_,hl,_⟩:=h;unfold iT at hl;simp only[RP,List.all_eq_true,dI,beq_iff_eq]at hl;exact⟨by omega,hl.1⟩
  · simp only[hk,RM,RP,decide_eq_true_eq]at h;rw[h.2.2];simp[blank]
theorem jS{o:c6}(h:eG o=true)(hk:(o.Rq != 0)=true):dv o.box (-1) 9=true/\dv o.RF 0 4=true/\dv o.dY 0 1000000=true/\dv o.cd 0 8=true:=by
  unfold eG at h
  have hk:(o.Rq==0)=false:=by simpa[bne]using hk
  simp only[hk,RL,RP]at h;exact⟨h.2.2.1,h.2.2.2.1,h.2.2.2.2.1,h.2.2.2.2.2.1⟩
def uv(l:List c6)(i:Int):Bool:=(nth l i).Rq==0
def vJ(l:List c6)(o:c6):Bool:=o.dk.all fun y=>!(decide (y>=0)&&uv l y)
def sW(l:List c6)(k:Nat)(o:c6):Bool:=(eG o&&!(decide ((k:Int)>0)&&(o.Rq != 0&&(decide (o.box>=0)&&uv l o.box))))&&vJ l o
def vf(l:List c6):Bool:=((nth l 0).Rq != 1) || (((nth l 0).box != (-1)) || ((nth l 0).dY != 1000000))
def gh(l:List c6):Bool:=!((l.length:Int) != 10)&&(!vf l&&allI (sW l) 0 l)
theorem Cs{N:Nat}(hN:df<=N){l:List c6}(hl:l.length=10){o:c6}(ho:o.dk.length<=2)(hr:∀y,y∈o.dk->-1<=y/\y<=9):
    iter (fun(s75:Int)=>(bif(decide (s75<(o.dk.length:Int)))then((idx o.dk s75).bind fun y96=>(bif(decide (y96>=0))then((idx l y96).bind fun y108=>some (y108.Rq==0))else(some false):Option Bool).bind fun j105=>bif j105 then(some (.inr (.inr false)))else(some (.inl (i64.wrap (s75+1)))))else(some (.inr (.inl s75))):Option (Int⊕(Int⊕Bool)))) N 0=some (if vJ l o then .inl (o.dk.length:Int)else .inr false):=by
  have hB:o.dk.length<df:=Nat.lt_of_le_of_lt ho (by decide);rw[gp o.dk (fun _ y=>!(decide (y>=0)&&uv l y)) (.inl (o.dk.length:Int)) (.inr false) (Nat.lt_of_lt_of_le hB hN),gZ]
  · rfl
  · intro k y hy hk;have hm:=hr y (List.mem_of_getElem? hy);simp only[ei hk,RM,dM,hy,RK,eB (Nat.lt_trans hk hB)];cases h0:decide (y>=0)
    · rfl
    · have h0:y>=0:=by simpa using h0
      simp only[RM,eK (l:=l) (i:=y) h0 (by omega),RK,RO];unfold uv;cases(nth l y).Rq==0<;>rfl
  · simp only[ep,RL]
theorem H9{l:List c6}(hl:l.length=10){o:c6}(ho:eG o=true):(bif(decide (o.box>=0))then((idx l o.box).bind fun y58=>some (y58.Rq==0))else(some false):Option Bool)=some (decide (o.box>=0)&&uv l o.box)\/(o.Rq != 0)=false:=by
  cases hk:o.Rq != 0
  · exact .inr rfl
  · left;obtain⟨hb,_⟩:=jS ho hk;rw[dI]at hb;cases h0:decide (o.box>=0)
    · rfl
    · have h0:o.box>=0:=by simpa using h0
      simp only[RM,eK (l:=l) (i:=o.box) h0 (by omega),RK,RO];rfl
theorem uw{N:Nat}(hN:df<=N){l:List c6}(hb:eE dw l<df):kQ N l=some (gh l):=by
  have hlB:=gj hb;unfold kQ gh;cases h10:((l.length:Int) != 10)
  · have hl:l.length=10:=wH (n:=10) h10;rw[eK (l:=l) (i:=0) (by omega) (by omega)];simp only[RL,RK,gv,Bool.not_false,RO];rw[show((nth l 0).Rq != 1 || ((nth l 0).box != (-1) || (nth l 0).dY != 1000000))=vf l from rfl];cases vf l
    · simp only[RL,Bool.not_false,RO];rw[gp l (sW l) (.inl (l.length:Int)) (.inr false) (Nat.lt_of_lt_of_le hlB hN)]
      · simp only[RK];cases allI (sW l) 0 l<;>rfl
      · intro k y hy hk;have hm:=List.mem_of_getElem? hy;simp only[ei hk,RM,dM,hy,RK,HU hN (fq hb hm),eB (Nat.lt_trans hk hlB)];unfold sW;cases ho:eG y
        · rfl
        · obtain⟨q1,q2⟩:=o6 ho;rw[Cs hN hl q1 q2]
          rcases H9 hl ho with q|q
          · rw[q];simp only[RN,RL,RO,iB,RK];cases(decide ((k:Int)>0)&&(y.Rq != 0&&(decide (y.box>=0)&&uv l y.box)))<;>cases vJ l y<;>rfl
          · simp only[q,RN,RL,RO,Bool.false_and,Bool.and_false,iB,RK];cases vJ l y<;>rfl
      · simp only[ep,RL]
    · rfl
  · rfl
def wA(l:List c6):Prop:=∀o,o∈l->mo o
theorem pF{N:Nat}(hN:df<=N){l:List c6}(hb:eE dw l<df)(hw:wA l):jC N l=some (gh l):=by
  have hlB:=gj hb;unfold jC gh;cases h10:((l.length:Int) != 10)
  · have hl:l.length=10:=wH (n:=10) h10;rw[eK (l:=l) (i:=0) (by omega) (by omega)];simp only[RL,RK,gv,Bool.not_false,RO];rw[show((nth l 0).Rq != 1 || ((nth l 0).box != (-1) || (nth l 0).dY != 1000000))=vf l from rfl];cases vf l
    · simp only[RL,Bool.not_false,RO];rw[gp l (sW l) (.inl (l.length:Int)) (.inr false) (Nat.lt_of_lt_of_le hlB hN)]
      · simp only[RK];cases allI (sW l) 0 l<;>rfl
      · intro k y hy hk;have hm:=List.mem_of_getElem? hy;simp only[ei hk,RM,dM,hy,RK,Hr hN (fq hb hm) (hw y hm),eB (Nat.lt_trans hk hlB)];unfold sW;cases ho:eG y
        · rfl
        · obtain⟨q1,q2⟩:=o6 ho;rw[Cs hN hl q1 q2]
          rcases H9 hl ho with q|q
          · rw[q];simp only[RN,RL,RO,iB,RK];cases y.Rq != 0<;>cases decide ((k:Int)>0)<;>cases(decide (y.box>=0)&&uv l y.box)<;>cases vJ l y<;>rfl
          · simp only[q,RN,RL,RO,Bool.false_and,Bool.and_false,iB,RK];cases vJ l y<;>rfl
      · simp only[ep,RL]
    · rfl
  · rfl
theorem wU{N:Nat}(hN:df<=N){l:List Int}{x:Int}(hb:l.length<df):kq N l x=some (l.contains x):=by
  unfold kq;rw[gp l (fun _ y=>!(y==x)) (.inl (l.length:Int)) (.inr true) (Nat.lt_of_lt_of_le hb hN),gZ]
  · have:(l.all fun y=>!(y==x))=!l.contains x:=by
      induction l with
      | nil=>rfl
      | cons y l ih =>
        have ih:=ih (Nat.lt_trans (Nat.lt_succ_self _) hb);rw[List.all_cons,ih,List.contains_cons,Bool.beq_comm (a:=x)];cases(y==x)<;>rfl
    rw[this,RK];cases l.contains x<;>rfl
  · intro k y hy hk;simp only[ei hk,RM,dM,hy,RK,eB (Nat.lt_trans hk hb)];cases(y==x)<;>rfl
  · simp only[ep,RL]
def qy(g:List Int)(k:Nat)(y:Int):Bool:=dv y 0 9&&!(g.take k).contains y
def lD(g:eS):Bool:=((g.Ru==0)&&(g.RD==0)) || ((g.Ru==1)&&(dv g.RD 0 9&&((g.da.length:Int)==0)))
def gn(h:dm):Bool:=gh h.ag&&(lD h.gc&&(dv h.gc.Rv 0 1000000&&allI (qy h.gc.da) 0 h.gc.da))
theorem Hp{α:Type}{l:List α}{k:Nat}(h:l.length<df):(l.take k).length<df:=Nat.lt_of_le_of_lt (by simp;omega) h
theorem xI{N:Nat}(hN:df<=N){h:dm}(h1:eE dw h.ag<df)(h2:h.gc.da.length<df):mQ N h=some (gn h):=by
  unfold mQ gn;rw[gp h.gc.da (qy h.gc.da) (.inl (h.gc.da.length:Int)) (.inr false) (Nat.lt_of_lt_of_le h2 hN)]
  · simp only[RK,sc,vB,uw hN h1,iB];cases allI (qy h.gc.da) 0 h.gc.da
    · simp
    · simp only[if_true,Sum.elim_inl,Bool.and_true];unfold lD;cases gh h.ag
      · rfl
      cases((h.gc.Ru==0)&&(h.gc.RD==0))
      · cases((h.gc.Ru==1)&&(dv h.gc.RD 0 9&&((h.gc.da.length:Int)==0)))<;>rfl
      · rfl
  · intro k y hy hk;simp only[ei hk,RM,dM,hy,RK,sc,vm (Nat.le_of_lt hk),sR hN (Hp h2),eB (Nat.lt_trans hk h2)];unfold qy;cases dv y 0 9<;>cases(h.gc.da.take k).contains y<;>rfl
  · simp only[ep,RL]
theorem Oj(n:Nat):decide ((n:Int)>0)=!((n:Int)==0):=by
  cases n with
  | zero=>rfl
  | succ n=>rw[decide_eq_true (by omega)];simp;omega
theorem xF{N:Nat}(hN:df<=N){h:dm}(h1:eE dw h.ag<df)(h2:h.gc.da.length<df)(hw:wA h.ag):mS N h=some (gn h):=by
  unfold mS gn;rw[gp h.gc.da (qy h.gc.da) (.inl (h.gc.da.length:Int)) (.inr false) (Nat.lt_of_lt_of_le h2 hN)]
  · simp only[RK,qe,jj,pF hN h1 hw,gv,Oj];cases gh h.ag
    · rfl
    cases dv h.gc.Rv 0 1000000
    · simp
    unfold lD
    by_cases q0:h.gc.Ru=0
    · have e0:(h.gc.Ru==0)=true:=by simp[q0]
      have e1:(h.gc.Ru==1)=false:=by simp[q0]
      have e2:dv h.gc.Ru 0 1=true:=by rw[q0];decide
      rw[e0,e1,e2];simp only[bne];cases h.gc.RD==0
      · rfl
      · cases allI (qy h.gc.da) 0 h.gc.da<;>rfl
    by_cases q1:h.gc.Ru=1
    · have e0:(h.gc.Ru==0)=false:=by simp[q1]
      have e1:(h.gc.Ru==1)=true:=by simp[q1]
      have e2:dv h.gc.Ru 0 1=true:=by rw[q1];decide
      rw[e0,e1,e2];cases dv h.gc.RD 0 9
      · rfl
      cases((h.gc.da.length:Int)==0)
      · rfl
      · cases allI (qy h.gc.da) 0 h.gc.da<;>rfl
    · have e0:(h.gc.Ru==0)=false:=by simp[q0]
      have e1:(h.gc.Ru==1)=false:=by simp[q1]
      have e2:dv h.gc.Ru 0 1=false:=by
        rw[Bool.eq_false_iff,Ne,dI];omega
      rw[e0,e1,e2];rfl
  · intro k y hy hk;simp only[ei hk,RM,dM,hy,RK,qe,vm (Nat.le_of_lt hk),wU hN (Hp h2),eB (Nat.lt_trans hk h2)];unfold qy;cases dv y 0 9<;>cases(h.gc.da.take k).contains y<;>rfl
  · simp only[ep,RL]
def gO(t:ef):Bool:=(dv t.RF 0 4&&(dv t.eP 0 2&&(dv t.mB 0 4&&dv t.gP 0 2)))&&(((t.Rq==1)&&dv t.jx 0 1000) || ((t.Rq==2)&&dv t.jx 0 100))
theorem zr(N:Nat)(t:ef):nW N t=some (gO t):=by
  unfold nW gO;simp only[uo,xz,jK,RK,gv,iB]
  by_cases q:t.Rq=1
  · have e1:(t.Rq==1)=true:=by simp[q]
    have e2:(t.Rq==2)=false:=by simp[q]
    rw[e1,e2];cases dv t.RF 0 4<;>cases dv t.mB 0 4<;>cases dv t.eP 0 2<;>cases dv t.gP 0 2<;>cases dv t.jx 0 1000<;>rfl
  · have e1:(t.Rq==1)=false:=by simp[q]
    rw[e1];cases dv t.RF 0 4<;>cases dv t.mB 0 4<;>cases dv t.eP 0 2<;>cases dv t.gP 0 2<;>cases(t.Rq==2)<;>cases dv t.jx 0 100<;>rfl
theorem zd(N:Nat)(t:ef):n7 N t=some (gO t):=by
  unfold n7 gO;simp only[vj,jj,RK,gv,iB]
  by_cases q:t.Rq=1
  · have e1:(t.Rq==1)=true:=by simp[q]
    have e2:(t.Rq==2)=false:=by simp[q]
    rw[e1,e2];cases dv t.RF 0 4<;>cases dv t.eP 0 2<;>cases dv t.mB 0 4<;>cases dv t.gP 0 2<;>cases dv t.jx 0 1000<;>rfl
  · have e1:(t.Rq==1)=false:=by simp[q]
    rw[e1];cases dv t.RF 0 4<;>cases dv t.eP 0 2<;>cases dv t.mB 0 4<;>cases dv t.gP 0 2<;>cases(t.Rq==2)<;>cases dv t.jx 0 100<;>rfl
def m8(p:bh):Bool:=dv p.RA 0 9&&(dv p.Rz 0 10&&(dP p.dc&&(dv p.du 0 1000000&&dv p.Rx 0 1000000)))
def dH(p:bh):Bool:=eT p.Rp&&(ia p.own&&(fk p.Rr&&(gn p.py&&(!decide ((p.db.length:Int)>3)&&(p.db.all gO&&m8 p)))))
theorem sb{N:Nat}(hN:df<=N){p:bh}(h:dC p<df):kl N p=some (dH p):=by
  obtain⟨h1,h2,h3,h4,h5,h6⟩:=gm h;unfold kl dH;rw[gp p.db (fun _ t=>gO t) (.inl (p.db.length:Int)) (.inr false) (Nat.lt_of_lt_of_le h6 hN),gZ]
  · simp only[RK,ui hN h1,zn hN h2,pH hN,xI hN h4 h5,sc,jK,oV,vB,gv,iB];rw[show(dv p.RA 0 9&&(dv p.Rz 0 10&&(dP p.dc&&(dv p.du 0 1000000&&dv p.Rx 0 1000000))))=m8 p from rfl];cases p.db.all gO
    · simp
    · simp only[if_true,Sum.elim_inl,RO];cases eT p.Rp<;>cases ia p.own<;>cases fk p.Rr<;>cases gn p.py<;>cases decide ((p.db.length:Int)>3)<;>rfl
  · intro k y hy hk;simp only[ei hk,RM,dM,hy,RK,zr,eB (Nat.lt_trans hk h6)];cases gO y<;>rfl
  · simp only[ep,RL]
def wP(p:bh):Prop:=wA p.py.ag
theorem sd{N:Nat}(hN:df<=N){p:bh}(h:dC p<df)(hw:wP p):kg N p=some (dH p):=by
  obtain⟨h1,h2,h3,h4,h5,h6⟩:=gm h;unfold kg dH;rw[gp p.db (fun _ t=>gO t) (.inl (p.db.length:Int)) (.inr false) (Nat.lt_of_lt_of_le h6 hN),gZ]
  · simp only[RK,pT hN h1,zb hN h2,vx hN,xF hN h4 h5 hw,qe,jj,o8,gv,iB];unfold m8;cases eT p.Rp
    · rfl
    cases ia p.own
    · rfl
    cases fk p.Rr
    · rfl
    cases gn p.py
    · rfl
    cases decide ((p.db.length:Int)>3)
    · simp only[RN,Bool.not_false,Bool.false_or,RO];cases dv p.RA 0 9<;>cases dv p.Rz 0 10<;>cases dP p.dc<;>cases dv p.du 0 1000000<;>cases dv p.Rx 0 1000000<;>cases p.db.all gO<;>rfl
    · rfl
  · intro k y hy hk;simp only[ei hk,RM,dM,hy,RK,zd,eB (Nat.lt_trans hk h6)];cases gO y<;>rfl
  · simp only[ep,RL]
end Go.Kx
