import Derived.Test.YtfmfgnhbgcjajaaGreatLNew
namespace Go.Kx
open Go
set_option linter.unusedVariables false
set_option linter.unusedSimpArgs false
set_option maxRecDepth 10000
theorem m5{o z:c6}(h:eG o=true)(hk:(o.Rq==0)=false)(e1:z.RG=o.RG)(e2:z.Rq=o.Rq)(hb:dv z.box (-1) 9=true)(e3:z.RF=o.RF)(ht:dv z.dY 0 1000000=true)(e4:z.cd=o.cd)(hl:iT z=true)(e5:z.Ry=o.Ry)(e6:z.ee=o.ee)(e7:z.ed=o.ed):eG z=true:=by
  unfold eG at h⊢;rw[e1,e2,e3,e4,e5,e6,e7,hk];rw[hk]at h;simp only[RL,RP]at h⊢;obtain⟨a1,a2,a3,a4,a5,a6,a7,a8⟩:=h;exact⟨a1,a2,hb,a4,ht,a6,hl,a8⟩
theorem kN{o:c6}(h:eG o=true)(hk:(o.Rq==0)=false):iT o=true:=by
  unfold eG at h;rw[hk]at h;simp only[RL,RP]at h;exact h.2.2.2.2.2.2.1
theorem yw{o:c6}(hk:(o.Rq==0)=false):(o.Rq != 0)=true:=by unfold bne;rw[hk];rfl
theorem Oc{o:c6}(h:eG o=true)(hk:(o.Rq==0)=false)(b:Bool):eG (marked o b)=true :=
  m5 h hk rfl rfl (jS h (yw hk)).1 rfl (jS h (yw hk)).2.2.1 rfl (show iT o=true from kN h hk) rfl rfl rfl
theorem rD{o:c6}(h:eG o=true)(hk:(o.Rq==0)=true):o=blank o.RG:=by
  unfold eG at h;rw[hk]at h;simp only[RM,RP,decide_eq_true_eq]at h;exact h.2.2
theorem Mg{o:c6}(h:eG o=true):eG (blank o.RG)=true:=by
  unfold eG at h⊢;simp only[RP]at h
  show(dv o.RG 0 999&&(dv 0 0 4&&decide (blank o.RG=blank o.RG)))=true
  rw[h.1,decide_eq_true rfl];rfl
theorem Pj{o:c6}(h:eG o=true)(i:Int):eG (nS i o)=true:=by
  unfold nS;cases hk:o.Rq==0
  · simp only[Bool.false_eq_true,if_false];have hb:=(jS h (yw hk));refine m5 h hk rfl rfl ?_ rfl hb.2.2.1 rfl ?_ rfl rfl rfl
    · show dv (if o.box==i then -1 else o.box) (-1) 9=true
      split
      · decide
      · exact hb.1
    · have hl:=kN h hk;unfold iT at hl⊢;simp only[RP,List.length_map,List.all_map,List.all_eq_true]at hl⊢;refine⟨fun y hy=>?_,hl.2⟩
      show dv (uN i y) (-1) 9=true
      unfold uN;split
      · decide
      · exact hl.1 y hy
  · simp only[if_true];exact h
theorem D9(i:Int)(o:c6):(nS i o).Rq=o.Rq:=by unfold nS;split<;>rfl
theorem JS(i:Int)(o:c6):(nS i o).cd=o.cd:=by unfold nS;split<;>rfl
theorem Ob(i:Int)(o:c6):(nS i o).dY=o.dY:=by unfold nS;split<;>rfl
theorem Ar.swap{l:List c6}(h:Ar l){i:Int}(h0:0<=i)(h9:i<=9){z:c6}(hk:z.Rq=(nth l i).Rq)(hb:z.box=(nth l i).box)(hl:z.dk=(nth l i).dk)(ht:i=0->z.dY=(nth l i).dY)(ok:eG z=true):Ar (l.set i.toNat z):=by
  have h10:=h.len
  have hn:∀j,0<=j->nth (l.set i.toNat z) j=if i=j then z else nth l j:=fun j hj=>sJ h0 (by omega) hj
  have hkind:∀j,0<=j->(nth (l.set i.toNat z) j).Rq=(nth l j).Rq:=fun j hj=>by
    rw[hn j hj];split
    · rename_i e;rw[<- e];exact hk
    · rfl
  have hi:=(h.at h0 h9).2;refine⟨by rw[List.length_set];exact h10,by rw[hkind 0 (by omega)];exact h.sV,?_,?_,?_,?_,?_⟩
  · rw[hn 0 (by omega)];split
    · rename_i e;rw[hb,e];exact h.yT
    · exact h.yT
  · rw[hn 0 (by omega)];split
    · rename_i e;rw[ht e,e];exact h.Av
    · exact h.Av
  · intro o ho
    rcases List.mem_or_eq_of_mem_set ho with q|rfl
    · exact h.ok o q
    · exact ok
  · intro o ho y hy y0;rw[hkind y y0]
    rcases List.mem_or_eq_of_mem_set ho with q|rfl
    · exact h.dk o q y hy y0
    · rw[hl]at hy;exact h.dk _ hi y hy y0
  · intro k o hko k0 hne b0;rw[hkind o.box b0]
    by_cases e:k=i.toNat
    · subst e;rw[List.getElem?_set_self (by omega)]at hko;have:z=o:=Option.some.inj hko;subst this;have:=h.box i.toNat (nth l i) (fV h0 (by omega)) k0 (by rw[<- hk];exact hne) (by rw[<- hb];exact b0)
      rwa[hb]
    · rw[List.getElem?_set_ne (Ne.symm e)]at hko;exact h.box k o hko k0 hne b0
theorem Ar.mark{l:List c6}(h:Ar l){i:Int}(h0:0<=i)(h9:i<=9)(b:Bool)(hk:b=true->((nth l i).Rq==0)=false):Ar (l.set i.toNat (marked (nth l i) b)):=by
  refine h.swap h0 h9 rfl rfl rfl (fun _=>rfl) ?_;have ho:=h.ok _ (h.at h0 h9).2;cases hq:(nth l i).Rq==0
  · exact Oc ho hq b
  · cases b
    · have e:=rD ho hq
      have:marked (nth l i) false=nth l i:=by rw[e];rfl
      rw[this];exact ho
    · rw[hk rfl]at hq;cases hq
theorem Nq{l:List c6}(f:c6->c6){j:Int}(h0:0<=j)(h1:j<(l.length:Int)):nth (l.map f) j=f (nth l j):=by
  have:=fV (l:=l) h0 h1;unfold nth;rw[List.getElem?_map];unfold nth at this;rw[this];rfl
theorem Ar.free{l:List c6}(h:Ar l){i:Int}(h1:1<=i)(h9:i<=9):Ar ((l.set i.toNat (blank (nth l i).RG)).map (nS i)):=by
  have h10:=h.len;have hi:=(h.at (i:=i) (by omega) h9).2
  have hn:∀j,0<=j->j<=9->nth ((l.set i.toNat (blank (nth l i).RG)).map (nS i)) j=nS i (if i=j then blank (nth l i).RG else nth l j):=fun j hj h9=>by
    rw[Nq _ hj (by rw[List.length_set];omega),sJ (by omega) (by omega) hj]
  have hkind:∀j,0<=j->j<=9->j ≠ i->(nth ((l.set i.toNat (blank (nth l i).RG)).map (nS i)) j).Rq=(nth l j).Rq:=fun j hj h9 hne=>by
    rw[hn j hj h9,if_neg (Ne.symm hne),D9]
  have hmem:∀o,o∈l.set i.toNat (blank (nth l i).RG)->eG o=true:=fun o ho=>by
    rcases List.mem_or_eq_of_mem_set ho with q|rfl
    · exact h.ok o q
    · exact Mg (h.ok _ hi)
  refine⟨by rw[List.length_map,List.length_set];exact h10,by rw[hkind 0 (by omega) (by omega) (by omega)];exact h.sV,?_,?_,?_,?_,?_⟩
  · rw[hn 0 (by omega) (by omega),if_neg (by omega)];unfold nS;rw[h.sV]
    show(if(nth l 0).box==i then -1 else(nth l 0).box)=-1
    rw[h.yT];split<;>rfl
  · rw[hn 0 (by omega) (by omega),if_neg (by omega),Ob];exact h.Av
  · intro o ho;obtain⟨x,hx,rfl⟩:=List.mem_map.1 ho;exact Pj (hmem x hx) i
  · intro o ho y hy y0;obtain⟨x,hx,rfl⟩:=List.mem_map.1 ho;have hok:=hmem x hx;cases hq:x.Rq==0
    · unfold nS at hy;rw[hq]at hy;simp only[Bool.false_eq_true,if_false]at hy;obtain⟨v,hv,rfl⟩:=List.mem_map.1 hy;unfold uN at y0⊢;split at y0
      · omega
      · rename_i hne
        have hne:v ≠ i:=by simpa using hne
        have v9:=((o6 hok).2 v hv).2;rw[if_neg (by simpa using hne),hkind v y0 v9 hne]
        rcases List.mem_or_eq_of_mem_set hx with q|q
        · exact h.dk x q v hv y0
        · rw[q]at hq;simp[blank]at hq
    · have e:=rD hok hq;unfold nS at hy;rw[hq]at hy;simp only[if_true]at hy;rw[e]at hy;simp[blank]at hy
  · intro k o hko k0 hne b0;rw[List.getElem?_map]at hko;obtain⟨x,hx,rfl⟩:=Option.map_eq_some_iff.1 hko;rw[D9]at hne
    have hq:(x.Rq==0)=false:=by simpa using hne
    have hb:(nS i x).box=if x.box==i then -1 else x.box:=by unfold nS;rw[hq];rfl
    rw[hb]at b0⊢;split at b0
    · omega
    · rename_i hnb
      have hnb:x.box ≠ i:=by simpa using hnb
      rw[if_neg (by simpa using hnb)];have hxm:=List.mem_of_getElem? hx;have b9:=dI.1 (jS (hmem x hxm) (yw hq)).1;rw[hkind x.box b0 b9.2 hnb]
      by_cases e:k=i.toNat
      · subst e;rw[List.getElem?_set_self (by omega)]at hx;have:=Option.some.inj hx;rw[<- this]at hq;simp[blank]at hq
      · rw[List.getElem?_set_ne (Ne.symm e)]at hx;exact h.box k x hx k0 hne b0
structure Hk (h:dm):Prop where
  ar:Ar h.ag
  ph:lD h.gc=true
  rd:0<=h.gc.Rv/\h.gc.Rv<=1000000
  gr:∀y,y∈h.gc.da->0<=y/\y<=9
  nd:h.gc.da.Nodup
theorem J1{g:List Int}:allI (qy g) 0 g=true <-> (∀y,y∈g->0<=y/\y<=9)/\g.Nodup:=by
  rw[iV];constructor
  · intro h;refine⟨fun y hy=>?_,?_⟩
    · obtain⟨k,hk⟩:=List.getElem?_of_mem hy;have:=h k y hk;unfold qy at this;simp only[RP,dI]at this;exact this.1
    · refine List.pairwise_iff_getElem.2 fun i j hi hj hij e=>?_;have:=h j g[j] (List.getElem?_eq_getElem hj);unfold qy at this;simp only[Nat.zero_add,RP,Bool.not_eq_true']at this
      have hm:g[j]∈g.take j:=by
        rw[<- e];exact List.mem_iff_getElem.2 ⟨i,by rw[List.length_take];omega,by rw[List.getElem_take]⟩
      have hc:(g.take j).contains g[j]=true:=by simpa using hm
      rw[this.2]at hc;cases hc
  · rintro⟨h1,h2⟩ i y hy;unfold qy;simp only[Nat.zero_add,RP,Bool.not_eq_true',dI];refine⟨h1 y (List.mem_of_getElem? hy),?_⟩;cases hc:(g.take i).contains y
    · rfl
    · have hm:y∈g.take i:=by simpa using hc
      obtain⟨j,hj,e⟩:=List.mem_iff_getElem.1 hm;rw[List.length_take]at hj;rw[List.getElem_take]at e;have hi:=eF hy;have:=List.pairwise_iff_getElem.1 h2 j i (by omega) hi (by omega);rw[List.getElem?_eq_getElem hi]at hy;exact absurd (e.trans (Option.some.inj hy).symm) this
theorem lS{h:dm}:gn h=true <-> Hk h:=by
  unfold gn;simp only[RP,J1,dI,fF];exact⟨fun⟨a,b,c,d,e⟩=>⟨a,b,c,d,e⟩,fun q=>⟨q.ar,q.ph,q.rd,q.gr,q.nd⟩⟩
theorem vn(h:dm):∀y,y∈kf h->y∈h.gc.da:=fun y hy=>List.mem_of_mem_take hy
theorem wT{h:dm}(q:h.gc.da.Nodup):(kf h).Nodup:=List.Sublist.nodup (List.take_sublist _ _) q
theorem Hk.Q5{h:dm}(q:Hk h){ph:h.gc.Ru=0}(g:List Int):lD (eS.mk h.gc.Ru h.gc.RD h.gc.Rv g)=true:=by
  have hph:=q.ph;unfold lD at hph⊢;simp only[Bool.or_eq_true,RP,beq_iff_eq]at hph⊢
  rcases hph with e|e
  · exact .inl e
  · rw[ph]at e;exact absurd e.1 (by decide)
theorem Hk.jH{h:dm}(q:Hk h){k:Int}(k0:0<=k)(k9:k<=9):Hk (jH h k):=by
  unfold Kx.jH;split
  · rename_i c;simp only[RP,bne_iff_ne,ne_eq]at c;refine⟨q.ar.mark k0 k9 true fun _=>by simpa using c.2.1,q.Q5 (ph:=by simpa using c.1) _,q.rd,?_,?_⟩
    · intro y hy;simp only at hy;split at hy
      · exact q.gr y hy
      · rcases List.mem_append.1 hy with e|e
        · exact q.gr y e
        · rw[List.mem_singleton]at e;subst e;exact⟨k0,k9⟩
    · simp only;split
      · exact q.nd
      · rename_i hc;refine List.nodup_append.2 ⟨q.nd,by simp,fun a ha b hb e=>?_⟩;rw[List.mem_singleton]at hb;subst hb;subst e;exact hc (by simpa using ha)
  · exact q
theorem Hk.Ll{l:List c6}{now:Int}:∀(e:List Int) (h:dm),(∀y,y∈e->0<=y/\y<=9)->Hk h->Hk (e.foldl (iz l now) h)
  | [],h,_,q=>q
  | k::e,h,he,q=>by
    rw[List.foldl_cons];refine Hk.Ll e _ (fun y hy=>he y (by simp[hy])) ?_;unfold iz;split
    · exact q
    · exact q.jH (he k (by simp)).1 (he k (by simp)).2
theorem Ff{h:dm}(q:Hk h)(p0:0<=h.gc.RD)(p9:h.gc.RD<=9)(now:Int):Ar (iR h now):=by
  unfold iR;split
  · rename_i c;unfold ir at c;simp only[RP,bne_iff_ne,ne_eq]at c;unfold jm;split
    · exact q.ar.free (by omega) p9
    · exact q.ar
  · exact q.ar.mark p0 p9 false fun h=>by cases h
theorem Hk.step{h:dm}(q:Hk h)(now:Int):Hk (gX h now).1:=by
  unfold gX;rw[if_pos (lS.2 q)];have hph:=q.ph;unfold lD at hph;simp only[Bool.or_eq_true,RP,beq_iff_eq,dI]at hph;split
  · rename_i c
    have c:h.gc.Ru=1:=by simpa using c
    have hp:(0<=h.gc.RD/\h.gc.RD<=9)/\(h.gc.da.length:Int)=0:=by
      rcases hph with e|e
      · rw[c]at e;exact absurd e.1 (by decide)
      · exact e.2
    have hs:=Ff q hp.1.1 hp.1.2 now;unfold kp;simp only;split
    · refine⟨hs.mark (i:=0) (by omega) (by omega) true fun _=>by rw[hs.sV];rfl,rfl,?_,by simp,by simp⟩;have hr:=q.rd;simp only;rw[dB (by omega) (by omega)];split<;>omega
    · rename_i c9
      have c9:h.gc.RD ≠ 9:=by simpa using c9
      refine⟨hs,?_,q.rd,q.gr,q.nd⟩;unfold lD;simp only[Bool.or_eq_true,RP,beq_iff_eq,dI];exact .inr ⟨c,⟨by omega,by omega⟩,hp.2⟩
  · rename_i c
    have c:h.gc.Ru ≠ 1:=by simpa using c
    have hp:h.gc.Ru=0/\h.gc.RD=0:=by
      rcases hph with e|e
      · exact e
      · exact absurd e.1 c
    have hph':∀g,lD (eS.mk h.gc.Ru h.gc.RD h.gc.Rv g)=true:=fun g=>by
      unfold lD;simp[hp.1,hp.2]
    unfold rY;simp only;split
    · rename_i hg;refine⟨q.ar,?_,q.rd,q.gr,q.nd⟩;unfold lD;simp[hg,dv]
    · rename_i hg;obtain⟨l0,l9⟩:=pN (lS.2 q) hg;split
      · exact⟨q.ar,hph' _,q.rd,fun y hy=>q.gr y (vn h y hy),wT q.nd⟩
      · rename_i he;refine Hk.Ll _ _ (qj q.ar (dT h)).1 ⟨?_,hph' _,q.rd,fun y hy=>q.gr y (vn h y hy),wT q.nd⟩;refine q.ar.mark l0 l9 true fun _=>?_
        by_cases e0:dT h=0
        · rw[e0,q.ar.sV];rfl
        · cases hq:(nth h.ag (dT h)).Rq==0
          · rfl
          · refine absurd ?_ he;unfold eZ;rw[hq];simp[e0]
def yH:List Int->Int
  | []=>0
  | y::l=>y+yH l
theorem Ev:∀(l:List Int) (k:Nat) (y z:Int),l[k]?=some y->yH (l.set k z)=yH l-y+z
  | [],k,y,z,h=>by simp at h
  | x::l,0,y,z,h=>by
    simp at h;subst h
    show z+yH l=(x+yH l)-x+z
    omega
  | x::l,k+1,y,z,h=>by
    show x+yH (l.set k z)=x+yH l-y+z
    rw[Ev l k y z (by simpa using h)];omega
def g7(l:List c6):Int:=yH (l.map c6.cd)
theorem sD{l:List c6}{i:Int}(h0:0<=i)(h1:i<(l.length:Int))(z:c6):g7 (l.set i.toNat z)=g7 l-(nth l i).cd+z.cd:=by
  unfold g7;rw[List.map_set,Ev _ _ (nth l i).cd _ (by rw[List.getElem?_map,fV h0 h1];rfl)]
theorem N5{l:List c6}{f:c6->c6}(h:∀o,(f o).cd=o.cd):g7 (l.map f)=g7 l:=by
  unfold g7;rw[List.map_map];congr 1;exact List.map_congr_left fun o _=>h o
theorem C1{o:c6}(h:eG o=true):0<=o.cd/\o.cd<=8:=by
  cases hk:o.Rq==0
  · exact dI.1 (jS h (yw hk)).2.2.2
  · rw[rD h hk];exact⟨Int.le_refl 0,show(0:Int)<=8 by decide⟩
theorem DV:∀(l:List c6) (s:Int),(∀o,o∈l->eG o=true)->0<=s->s+8*(l.length:Int)<=1000000->l.foldl (fun n o=>IntKind.i64.wrap (n+o.cd)) s=s+g7 l/\0<=g7 l/\g7 l<=8*(l.length:Int)
  | [],s,_,_,_=>⟨(Int.add_zero s).symm,Int.le_refl _,Int.le_refl _⟩
  | o::l,s,h,h0,hB=>by
    have ho:=C1 (h o (by simp));simp only[List.length_cons]at hB;obtain⟨a,b,c⟩:=DV l (s+o.cd) (fun x hx=>h x (by simp[hx])) (by omega) (by omega);rw[List.foldl_cons,dB (by omega) (by omega),a];have e:g7 (o::l)=o.cd+g7 l:=rfl;rw[e];simp only[List.length_cons];omega
theorem Aq{p:bh}(h:Ar p.py.ag):held p=g7 p.py.ag/\0<=g7 p.py.ag/\g7 p.py.ag<=80:=by
  have h10:=h.len;unfold held;rw[List.take_of_length_le (by omega),List.filter_eq_self.2 h.ok];obtain⟨a,b,c⟩:=DV p.py.ag 0 h.ok (by decide) (by omega);exact⟨by rw[a];omega,b,by omega⟩
theorem CU{h:dm}(q:Ar h.ag){k:Int}(k0:0<=k)(k9:k<=9):g7 (jH h k).ag=g7 h.ag:=by
  unfold jH;split
  · show g7 (h.ag.set _ _)=_
    rw[sD k0 (by have:=q.len;omega)]
    show _-_+(nth h.ag k).cd=_
    omega
  · rfl
theorem Bf{l:List c6}{now:Int}:∀(e:List Int) (h:dm),(∀y,y∈e->0<=y/\y<=9)->Hk h->g7 (e.foldl (iz l now) h).ag=g7 h.ag
  | [],h,_,q=>rfl
  | k::e,h,he,q=>by
    have hk:=he k (by simp);rw[List.foldl_cons]
    have q1:Hk (iz l now h k):=by
      unfold iz;split
      · exact q
      · exact q.jH hk.1 hk.2
    rw[Bf e _ (fun y hy=>he y (by simp[hy])) q1];unfold iz;split
    · rfl
    · exact CU q.ar hk.1 hk.2
theorem Mp{h:dm}(q:Hk h)(now:Int):g7 (gX h now).1.ag=g7 h.ag-(if decide ((gX h now).2>=0)then(nth h.ag (gX h now).2).cd else 0):=by
  have h10:=q.ar.len;unfold gX;rw[if_pos (lS.2 q)];split
  · rename_i c
    have c:h.gc.Ru=1:=by simpa using c
    have hph:=q.ph;unfold lD at hph;simp only[Bool.or_eq_true,RP,beq_iff_eq,dI]at hph
    have hp:0<=h.gc.RD/\h.gc.RD<=9:=by
      rcases hph with e|e
      · rw[c]at e;exact absurd e.1 (by decide)
      · exact e.2.1
    have hs:=Ff q hp.1 hp.2 now;have hs10:=hs.len
    have key:g7 (iR h now)=g7 h.ag-(if ir h now then(nth h.ag h.gc.RD).cd else 0):=by
      unfold iR;cases hf:ir h now
      · simp only[Bool.false_eq_true,if_false];rw[sD hp.1 (by omega)]
        show _-_+(nth h.ag h.gc.RD).cd=_
        omega
      · simp only[if_true];unfold ir at hf;simp only[RP,bne_iff_ne,ne_eq]at hf;unfold jm
        rw[if_pos (by
          rw[fF.2 q.ar];simp only[RO,RP,dI,bne_iff_ne,ne_eq]
          exact⟨⟨by omega,hp.2⟩,hf.2.1⟩)]
        simp only;rw[N5 (JS _),sD hp.1 (by omega)]
        show _-_+0=_
        omega
    have ke:(kp h now).2=if ir h now then h.gc.RD else -1:=rfl
    rw[ke]
    have e2:g7 (kp h now).1.ag=g7 (iR h now):=by
      unfold kp;simp only;split
      · show g7 ((iR h now).set (0:Int).toNat (marked (nth (iR h now) 0) true))=_
        rw[sD (by omega) (by omega)]
        show _-_+(nth (iR h now) 0).cd=_
        omega
      · rfl
    rw[e2,key];cases hf:ir h now
    · simp
    · simp only[if_true];rw[show decide (h.gc.RD>=0)=true from decide_eq_true hp.1];rfl
  · simp only[show decide ((-1:Int)>=0)=false from rfl,Bool.false_eq_true,if_false,Int.sub_zero];unfold rY;split
    · rfl
    · rename_i hg;obtain⟨l0,l9⟩:=pN (lS.2 q) hg;split
      · rfl
      · rename_i he
        have hb:Hk (dm.mk (h.ag.set (dT h).toNat (marked (nth h.ag (dT h)) true)) (eS.mk h.gc.Ru h.gc.RD h.gc.Rv (kf h))):=by
          have:=q.step now;refine⟨?_,?_,q.rd,fun y hy=>q.gr y (vn h y hy),wT q.nd⟩
          · refine q.ar.mark l0 l9 true fun _=>?_
            by_cases e0:dT h=0
            · rw[e0,q.ar.sV];rfl
            · cases hq:(nth h.ag (dT h)).Rq==0
              · rfl
              · refine absurd ?_ he;unfold eZ;rw[hq];simp[e0]
          · have hph:=q.ph;unfold lD at hph⊢;rename_i c
            have c:h.gc.Ru ≠ 1:=by simpa using c
            simp only[Bool.or_eq_true,RP,beq_iff_eq]at hph⊢
            rcases hph with e|e
            · exact .inl e
            · exact absurd e.1 c
        rw[Bf _ _ (qj q.ar (dT h)).1 hb]
        show g7 (h.ag.set _ _)=_
        rw[sD l0 (by omega)]
        show _-_+(nth h.ag (dT h)).cd=_
        omega
theorem yJ{t:List dj}{a:de}(hT:Tr t)(f:Int)(ha:dP a=true)(hp:ez de.cd t+a.cd<=1000000)(hr:ez de.dg t+a.dg<=1000000)(hc:ez de.dn t+a.dn<=1000000):
    (iW t f a).2=true/\Tr (iW t f a).1/\ez de.cd (iW t f a).1=ez de.cd t+a.cd/\ez de.dg (iW t f a).1=ez de.dg t+a.dg/\ez de.dn (iW t f a).1=ez de.dn t+a.dn:=by
  have ht:=fc.2 hT;obtain⟨t1,t2,t3⟩:=hT.ez;have hS:=eA.1 hT.sum;have ha':=eA.1 ha
  have hsum:dU (fy t) a=⟨ez de.cd t+a.cd,ez de.dg t+a.dg,ez de.dn t+a.dn⟩:=by
    unfold fy dU;rw[if_pos ht,t1,t2,t3,dB (by omega) (by omega),dB (by omega) (by omega),dB (by omega) (by omega)]
  have hok:dP (dU (fy t) a)=true:=by
    rw[hsum];exact eA.2 ⟨by dsimp only;omega,by dsimp only;omega,by dsimp only;omega⟩
  have hi:0<=(if eh t f then f else 0)/\(if eh t f then f else 0)<=4/\(nth t (if eh t f then f else 0)).RC=true:=by
    split
    · rename_i q;have:=gM q;unfold eh at q;simp only[RP]at q;exact⟨this.1,this.2,q.2⟩
    · exact⟨Int.le_refl _,by decide,hT.pA⟩
  unfold iW;rw[if_pos (by rw[ht,ha,hok];rfl)];simp only;generalize (if eh t f then f else 0)=i at *;obtain⟨i0,i4,hv⟩:=hi;have hl:=hT.len;have hm:=gg (l:=t) i0 (by omega);have hb:=eA.1 (hT.dO _ hm)
  have e:dU (nth t i).dO a=⟨(nth t i).dO.cd+a.cd,(nth t i).dO.dg+a.dg,(nth t i).dO.dn+a.dn⟩:=by
    unfold dU;rw[dB (by omega) (by omega),dB (by omega) (by omega),dB (by omega) (by omega)]
  obtain⟨_,q⟩:=qG t ⟨0,0,0⟩ 0 hT.dO (by omega) (by omega) ⟨by decide,by decide⟩ ⟨by decide,by decide⟩ ⟨by decide,by decide⟩;obtain⟨q1,q2,q3⟩:=q _ hm hv;rw[t1]at q1;rw[t2]at q2;rw[t3]at q3;rw[e];obtain⟨w1,w2⟩:=hT.set i0 i4 hv (b:=⟨(nth t i).dO.cd+a.cd,(nth t i).dO.dg+a.dg,(nth t i).dO.dn+a.dn⟩) (eA.2 ⟨by dsimp only;omega,by dsimp only;omega,by dsimp only;omega⟩) (eA.2 ⟨by dsimp only;omega,by dsimp only;omega,by dsimp only;omega⟩);refine⟨trivial,w1,?_,?_,?_⟩
  · rw[w2];dsimp only;omega
  · rw[w2];dsimp only;omega
  · rw[w2];dsimp only;omega
def sp(p:bh):de:=⟨ez de.cd p.Rr+g7 p.py.ag+p.dc.cd,ez de.dg p.Rr+p.dc.dg,ez de.dn p.Rr+p.dc.dn⟩
theorem yW{p:bh}(h:dH p=true):hD p=sp p/\((0<=(sp p).cd/\(sp p).cd<=2000080)/\(0<=(sp p).dg/\(sp p).dg<=2000000)/\(0<=(sp p).dn/\(sp p).dn<=2000000))/\0<=ez de.cd p.Rr/\0<=ez de.dg p.Rr/\0<=ez de.dn p.Rr:=by
  have hT:=fc.1 (iM h);obtain⟨t1,t2,t3⟩:=hT.ez;have hS:=eA.1 hT.sum;rw[t1,t2,t3]at hS;have hsp:=ud (mi h);obtain⟨g1,g2,g3⟩:=Aq (fb h)
  have hts:fy p.Rr=⟨ez de.cd p.Rr,ez de.dg p.Rr,ez de.dn p.Rr⟩:=by
    unfold fy;rw[if_pos (iM h), <- t1, <- t2, <- t3]
  unfold hD;rw[mi h,g1,hts];simp only[if_true];unfold dU sp;dsimp only;rw[dB (n:=ez de.cd p.Rr+g7 p.py.ag) (by omega) (by omega),dB (by omega) (by omega),dB (by omega) (by omega),dB (by omega) (by omega)];exact⟨rfl,⟨by omega,by omega,by omega⟩,by omega,by omega,by omega⟩
structure Ck (S R C:Int) (c:wg):Prop where
  tr:Tr c.Rr
  hp:Hk c.py
  pg:ez de.cd c.Rr+g7 c.py.ag=S
  rt:ez de.dg c.Rr=R
  cp:ez de.dn c.Rr=C
  w:wA c.py.ag
theorem Ck.step{S R C:Int}{c:wg}(h:Ck S R C c)(hS:S<=1000000)(now:Int):Ck S R C (nE now c):=by
  have hq:=h.hp.step now;have hg:=Mp h.hp now;obtain⟨t1,t2,t3⟩:=h.tr.ez;have hSm:=eA.1 h.tr.sum;rw[t1,t2,t3]at hSm;have h1:=h.pg;have h2:=h.rt;have h3:=h.cp;obtain⟨_,hw,_,hr⟩:=u5 h.w now;unfold nE;cases hd:decide ((gX c.py now).2>=0)
  · rw[hd]at hg;simp only[Bool.false_eq_true,if_false]at hg⊢;exact⟨h.tr,hq,by dsimp only;omega,h2,h3,hw⟩
  · rw[hd]at hg;simp only[if_true]at hg⊢;obtain⟨_,d0,d9⟩:=hr hd;have hpr:=C1 (h.hp.ar.ok _ (h.hp.ar.at d0 d9).2);have hp':0<=g7 (gX c.py now).1.ag:=(Aq (p:=⟨⟨[]⟩,[],[],(gX c.py now).1,[],0,0,⟨0,0,0⟩,0,0⟩) hq.ar).2.1;obtain⟨_,b1,b2,b3,b4⟩:=yJ h.tr (nth c.py.ag (gX c.py now).2).RF (a:=⟨(nth c.py.ag (gX c.py now).2).cd,0,0⟩) (eA.2 ⟨by dsimp only;omega,show(0:Int)<=0/\(0:Int)<=1000000 by decide,show(0:Int)<=0/\(0:Int)<=1000000 by decide⟩) (by dsimp only;omega) (by dsimp only;omega) (by dsimp only;omega);exact⟨b1,hq,by dsimp only at *;omega,by dsimp only at *;omega,by dsimp only at *;omega,hw⟩
theorem Ck.steps{S R C:Int}(hS:S<=1000000){now:Int}:∀(k:Nat) (c:wg),Ck S R C c->Ck S R C (xP now k c)
  | 0,c,h=>h
  | k+1,c,h=>Ck.steps hS k _ (h.step hS now)
theorem E1{p:bh}(h:dH p=true)(hw:wP p)(hs:(sp p).cd<=1000000)(now steps:Int):dH (fX p now steps).1=true/\sp (fX p now steps).1=sp p:=by
  unfold fX;split
  · have hh:Hk p.py:=lS.1 (by
      unfold dH at h;simp only[RP]at h
      exact h.2.2.2.1)
    have hsp:=ud (mi h);have c0:Ck (ez de.cd p.Rr+g7 p.py.ag) (ez de.dg p.Rr) (ez de.dn p.Rr) ⟨0,p.Rr,p.py⟩:=⟨fc.1 (iM h),hh,rfl,rfl,rfl,hw⟩;have c1:=Ck.steps (by unfold sp at hs;dsimp only at hs;omega) (now:=now) steps.toNat _ c0;refine⟨?_,?_⟩
    · unfold dH at h⊢;simp only[RP]at h⊢;exact⟨h.1,h.2.1,fc.2 c1.tr,lS.2 c1.hp,h.2.2.2.2⟩
    · have a:=c1.pg;have b:=c1.rt;have d:=c1.cp;unfold sp;dsimp only;rw[a,b,d]
  · exact⟨h,rfl⟩
theorem MV{p q:bh}(hp:dH p=true)(hq:dH q=true)(h:hD q=hD p):sp q=sp p:=by
  rw[<- (yW hp).1, <- (yW hq).1,h]
theorem Kp{o:c6}(h:eG o=true)(hk:(o.Rq==0)=false){t:Int}(h0:0<=t)(h1:t<=1000000):eG (AJ o t)=true :=
  m5 h hk rfl rfl (jS h (yw hk)).1 rfl (dI.2 ⟨h0,h1⟩) rfl (show iT o=true from kN h hk) rfl rfl rfl
theorem KO{p:bh}(h:dH p=true)(now:Int):dH (fI p now)=true/\sp (fI p now)=sp p:=by
  unfold fI;split
  · rename_i c;simp only[RP,dI]at c;have ar:=fb h
    have key:Ar (oT p now)/\g7 (oT p now)=g7 p.py.ag:=by
      unfold oT;cases v:decide (mj p now>=0)
      · exact⟨ar,rfl⟩
      · simp only[if_true];have hv:=ve v;obtain⟨v0,v9⟩:=yY hv;have hk:=(z9 hv).1
        have hk0:((nth p.py.ag (mj p now)).Rq==0)=false:=by rw[hk];rfl
        refine⟨ar.swap v0 v9 rfl rfl rfl (fun e=>?_) (Kp (ar.ok _ (ar.at v0 v9).2) hk0 ?_ ?_),?_⟩
        · rw[e,ar.sV]at hk;exact absurd hk (by decide)
        · rw[dB (by omega) (by omega)];omega
        · rw[dB (by omega) (by omega)];omega
        · rw[sD v0 (by have:=ar.len;omega)]
          show _-_+(nth p.py.ag (mj p now)).cd=_
          omega
    refine⟨?_,?_⟩
    · have hA:=fF.2 key.1;unfold dH gn m8 at *;simp only[RP]at h⊢;obtain⟨a,b,c,⟨_,d⟩,e,f,g1,g2,g3,g4,g5⟩:=h;exact⟨a,b,c,⟨hA,d⟩,e,f,g1,g2,g3,by decide,g5⟩
    · unfold sp;dsimp only;rw[key.2]
  · exact⟨h,rfl⟩
theorem KK{p:bh}(h:dH p=true)(me now:Int):dH (gx p me now)=true/\sp (gx p me now)=sp p:=by
  unfold gx;split
  · exact⟨M8 h me now,MV h (M8 h me now) (OZ h me now)⟩
  · exact⟨h,rfl⟩
theorem MA{p:bh}(h:dH p=true)(now:Int):dH (iy p now).1=true/\sp (iy p now).1=sp p/\(iy p now).1.Rz=0:=by
  cases hr:qq p now
  · rw[PC h hr];exact⟨EM h hr,MV h (EM h hr) (NN h hr),rfl⟩
  · have e:iy p now=(bh.mk p.Rp p.own p.Rr p.py p.db p.RA 0 p.dc p.du p.Rx, -1):=by
      unfold iy;rw[if_pos h,hr];rfl
    rw[e];refine⟨?_,rfl,rfl⟩;unfold dH m8 at *;simp only[RP]at h⊢;obtain⟨a,b,c,d,e,f,g1,g2,g3⟩:=h;exact⟨a,b,c,d,e,f,g1,show dv 0 0 10=true by decide,g3⟩
structure lV (p q:bh):Prop where
  Rp:q.Rp=p.Rp
  own:q.own=p.own
  Rx:q.Rx=p.Rx
theorem lV.refl(p:bh):lV p p:=⟨rfl,rfl,rfl⟩
theorem lV.trans{p q r:bh}(h:lV p q)(k:lV q r):lV p r:=⟨k.Rp.trans h.Rp,k.own.trans h.own,k.Rx.trans h.Rx⟩
theorem OB(p:bh)(now:Int):lV p (fI p now):=by unfold fI;split<;>exact⟨rfl,rfl,rfl⟩
theorem PE(p:bh)(me now:Int):lV p (gx p me now):=by unfold gx;split<;>exact⟨rfl,rfl,rfl⟩
theorem K5(p:bh)(now n:Int):lV p (fX p now n).1:=by unfold fX;split<;>exact⟨rfl,rfl,rfl⟩
theorem PX(p:bh)(now:Int):lV p (iy p now).1:=by
  unfold iy;split
  · split<;>exact⟨rfl,rfl,rfl⟩
  · exact⟨rfl,rfl,rfl⟩
theorem DF{n:Nat}{p:bh}(h:dH p=true)(hw:wP p)(hs:(sp p).cd<=1000000)(i now:Int):dH (iF n p i now)=true/\sp (iF n p i now)=sp p/\lV p (iF n p i now)/\(Int.tmod now (n:Int)=i->(iF n p i now).Rz=0):=by
  obtain⟨k1,k2⟩:=KO h now;obtain⟨w1,w2⟩:=KK k1 i now;have e:sp (gx (fI p now) i now)=sp p:=w2.trans k2;obtain⟨c1,c2⟩:=E1 w1 (By (yy hw now) i now) (by rw[e];exact hs) now 3;have kk:lV p (kG p i now):=((OB p now).trans (PE _ i now)).trans (K5 _ now 3);have m1:dH (kG p i now)=true:=c1;have m2:sp (kG p i now)=sp p:=c2.trans e;unfold iF;cases hc:Int.tmod now (n:Int)==i
  · exact⟨m1,m2,kk,fun q=>by rw[q]at hc;simp at hc⟩
  · obtain⟨r1,r2,r3⟩:=MA m1 now;exact⟨r1,r2.trans m2,kk.trans (PX _ now),fun _=>r3⟩
def iC(f:de->Int):List (List dj)->Int
  | []=>0
  | t::l=>ez f t+iC f l
theorem xt(f:de->Int):∀(l:List (List dj)) (k:Nat) (y z:List dj),l[k]?=some y->iC f (l.set k z)=iC f l-ez f y+ez f z
  | [],k,y,z,h=>by simp at h
  | x::l,0,y,z,h=>by
    simp at h;subst h
    show ez f z+iC f l=(ez f x+iC f l)-ez f x+ez f z
    omega
  | x::l,k+1,y,z,h=>by
    show ez f x+iC f (l.set k z)=ez f x+iC f l-ez f y+ez f z
    rw[xt f l k y z (by simpa using h)];omega
theorem I1{ts:List dJ}{p:Int}(h0:0<=p)(h1:p<(ts.length:Int)):(eN ts)[p.toNat]?=some (nth ts p).RH:=by
  unfold eN;rw[List.getElem?_map,fV h0 h1];rfl
theorem Ja{ts:List dJ}(k:Nat)(t:List dj):eN (ts.set k (dJ.mk t))=(eN ts).set k t:=by
  unfold eN;rw[List.map_set]
theorem vT{ts:List dJ}{i j:Int}{z:dJ}(h0:0<=i)(h1:i<(ts.length:Int))(hj:0<=j):nth (ts.set i.toNat z) j=if i=j then z else nth ts j:=by
  unfold nth
  by_cases e:i=j
  · subst e;rw[if_pos rfl,List.getElem?_set_self (by omega)];rfl
  · rw[if_neg e,List.getElem?_set_ne (by omega)]
structure Tk (ts us:List dJ):Prop where
  ok:ib us=true
  pg:iC de.cd (eN us)=iC de.cd (eN ts)
  rt:iC de.dg (eN us)=iC de.dg (eN ts)
  cp:iC de.dn (eN us)=iC de.dn (eN ts)
theorem yN{ts:List dJ}(h:ib ts=true)(p:Int)(t:ef):Tk ts (fL ts p t).1:=by
  unfold fL;split
  · rename_i c;rw[RP]at c;obtain⟨c1,c2⟩:=c;obtain⟨_,_,⟨p0,p1⟩,⟨q0,q1⟩,_⟩:=lT c1;obtain⟨k1,k2,k3⟩:=r6 (Eb c1);have e1:=k3 de.cd fun _ _=>rfl;have e2:=k3 de.dg fun _ _=>rfl;have e3:=k3 de.dn fun _ _=>rfl;unfold jb at c2;have hpl:=my ts p t;have hpt:fw ts p t=ts.set p.toNat (dJ.mk (eD (nth ts p).RH t.RF (g6 t.gP (ng ts p t))).1):=rfl
    have hq:fk (nth (fw ts p t) t.eP).RH=true:=by
      rw[hpt,vT p0 p1 q0];split
      · exact fc.2 k1
      · exact yX h q0 q1
    have hT:=fc.1 hq;obtain⟨t1,t2,t3⟩:=hT.ez;have hS:=eA.1 hT.sum;rw[t1,t2,t3]at hS;have ha:=eA.1 k2
    have hts:fy (nth (fw ts p t) t.eP).RH=⟨ez de.cd (nth (fw ts p t) t.eP).RH,ez de.dg (nth (fw ts p t) t.eP).RH,ez de.dn (nth (fw ts p t) t.eP).RH⟩:=by
      unfold fy;rw[if_pos hq, <- t1, <- t2, <- t3]
    have hfit:ez de.cd (nth (fw ts p t) t.eP).RH+(g6 t.gP (ng ts p t)).cd<=1000000/\ez de.dg (nth (fw ts p t) t.eP).RH+(g6 t.gP (ng ts p t)).dg<=1000000/\ez de.dn (nth (fw ts p t) t.eP).RH+(g6 t.gP (ng ts p t)).dn<=1000000:=by
      unfold iW at c2;rw[hq,k2,hts]at c2;simp only[RO]at c2;split at c2
      · rename_i ok;have:=eA.1 ok;unfold dU at this;dsimp only at this;rw[dB (by omega) (by omega),dB (by omega) (by omega),dB (by omega) (by omega)]at this;omega
      · cases c2
    obtain⟨_,b1,b2,b3,b4⟩:=yJ hT t.mB k2 hfit.1 hfit.2.1 hfit.2.2
    have hne:t.eP<((fw ts p t).length:Int):=by rw[hpl];exact q1
    have tt:∀f:de->Int,iC f (eN ((fw ts p t).set t.eP.toNat (dJ.mk (jb ts p t).1)))=iC f (eN ts)-ez f (nth ts p).RH+ez f (eD (nth ts p).RH t.RF (g6 t.gP (ng ts p t))).1-ez f (nth (fw ts p t) t.eP).RH+ez f (jb ts p t).1:=fun f=>by
      rw[Ja,xt f _ _ _ _ (I1 q0 hne),hpt,Ja,xt f _ _ _ _ (I1 p0 p1)]
    refine⟨?_,?_,?_,?_⟩
    · unfold ib at h⊢;rw[List.all_eq_true]at h⊢;intro y hy
      rcases List.mem_or_eq_of_mem_set hy with q|rfl
      · rcases List.mem_or_eq_of_mem_set (show y∈ts.set _ _ from q)with q|rfl
        · exact h y q
        · exact fc.2 k1
      · exact fc.2 b1
    · dsimp only;rw[tt,show ez de.cd (jb ts p t).1=_ from b2];omega
    · dsimp only;rw[tt,show ez de.dg (jb ts p t).1=_ from b3];omega
    · dsimp only;rw[tt,show ez de.dn (jb ts p t).1=_ from b4];omega
  · exact⟨h,rfl,rfl,rfl⟩
theorem zx(p:Int):∀(db:List ef) (ts:List dJ),ib ts=true->Tk ts (lM ts p db)
  | [],ts,h=>⟨h,rfl,rfl,rfl⟩
  | t::db,ts,h=>by
    have a:=yN h p t;have b:=zx p db _ a.ok;exact⟨b.ok,b.pg.trans a.pg,b.rt.trans a.rt,b.cp.trans a.cp⟩
def gQ:List bh->de
  | []=>⟨0,0,0⟩
  | p::l=>⟨(sp p).cd+(gQ l).cd,(sp p).dg+(gQ l).dg,(sp p).dn+(gQ l).dn⟩
theorem E3:∀(l:List bh) (s:de) (n:Nat),(∀p,p∈l->dH p=true)->l.length<=n->n<=3->uS s (3000000*(3-(n:Int))) ->
    lJ s l=⟨s.cd+(gQ l).cd,s.dg+(gQ l).dg,s.dn+(gQ l).dn⟩/\(0<=(gQ l).cd/\0<=(gQ l).dg/\0<=(gQ l).dn)
  | [],s,n,_,_,_,_=>by
    refine⟨?_,by decide⟩
    show s=_
    unfold gQ;simp only[Int.add_zero]
  | p::l,s,n,h,hl,hn,hs=>by
    obtain⟨e,⟨r1,r2,r3⟩,_⟩:=yW (h p (by simp));simp only[List.length_cons]at hl;unfold uS at hs
    have e2:dU s (hD p)=⟨s.cd+(sp p).cd,s.dg+(sp p).dg,s.dn+(sp p).dn⟩:=by
      rw[e];unfold dU;rw[dB (by omega) (by omega),dB (by omega) (by omega),dB (by omega) (by omega)]
    have hb:uS ⟨s.cd+(sp p).cd,s.dg+(sp p).dg,s.dn+(sp p).dn⟩ (3000000*(3-((n-1:Nat):Int))):=by
      unfold uS;dsimp only;omega
    obtain⟨a,b⟩:=E3 l _ (n-1) (fun q hq=>h q (by simp[hq])) (by omega) (by omega) hb;have e3:lJ s (p::l)=lJ (dU s (hD p)) l:=rfl;rw[e3,e2,a];have e4:gQ (p::l)=⟨(sp p).cd+(gQ l).cd,(sp p).dg+(gQ l).dg,(sp p).dn+(gQ l).dn⟩:=rfl;rw[e4];dsimp only;refine⟨by rw[Int.add_assoc,Int.add_assoc,Int.add_assoc],by omega,by omega,by omega⟩
structure Wk (w:dh):Prop where
  RB:0<=w.RB/\w.RB<=1000000
  len:1<=w.parts.length/\w.parts.length<=3
  ok:∀p,p∈w.parts->dH p=true
  sum:dP (gQ w.parts)=true
theorem Fs{l:List bh}(h:∀p,p∈l->dH p=true)(h3:l.length<=3):lJ ⟨0,0,0⟩ l=gQ l:=by
  have:=(E3 l ⟨0,0,0⟩ 3 h h3 (by decide) (by unfold uS;decide)).1;rw[this];simp only[Int.zero_add]
theorem kM{w:dh}:eI w=true <-> Wk w:=by
  unfold eI;simp only[RP,dI,List.all_eq_true];constructor
  · rintro⟨a,b,c,d⟩;rw[Fs c (by omega)]at d;exact⟨a,by omega,c,d⟩
  · rintro⟨a,b,c,d⟩;refine⟨a,by omega,c,?_⟩;rw[Fs c b.2];exact d
theorem Lt:∀(l:List bh),(∀p,p∈l->dH p=true)->(0<=(gQ l).cd)/\∀p,p∈l->(sp p).cd<=(gQ l).cd
  | [],_=>⟨by decide,fun p hp=>by simp at hp⟩
  | q::l,h=>by
    obtain⟨_,⟨r1,_,_⟩,_⟩:=yW (h q (by simp));obtain⟨a,b⟩:=Lt l fun p hp=>h p (by simp[hp]);have e:(gQ (q::l)).cd=(sp q).cd+(gQ l).cd:=rfl;rw[e];refine⟨by omega,fun p hp=>?_⟩
    rcases List.mem_cons.1 hp with rfl|hp
    · omega
    · have:=b p hp;omega
theorem B3:∀(l:List bh) (k:Nat) (y z:bh),l[k]?=some y->sp z=sp y->gQ (l.set k z)=gQ l
  | [],k,y,z,h,_=>by simp at h
  | x::l,0,y,z,h,e=>by
    simp at h;subst h
    show de.mk ((sp z).cd+(gQ l).cd) _ _=_
    rw[e];rfl
  | x::l,k+1,y,z,h,e=>by
    show de.mk ((sp x).cd+(gQ (l.set k z)).cd) _ _=_
    rw[B3 l k y z (by simpa using h) e];rfl
theorem P2{p:bh}(h:dH p=true){t:List dj}(ht:fk t=true):dH (jV p t)=true:=by
  unfold dH at h⊢;simp only[RP]at h⊢;exact⟨h.1,h.2.1,ht,h.2.2.2⟩
theorem HS:∀(l:List bh) (ts:List (List dj)),ts.length=l.length ->
    (gQ (eW l ts)).cd=(gQ l).cd-iC de.cd (fp l)+iC de.cd ts/\(gQ (eW l ts)).dg=(gQ l).dg-iC de.dg (fp l)+iC de.dg ts/\(gQ (eW l ts)).dn=(gQ l).dn-iC de.dn (fp l)+iC de.dn ts
  | [],[],_=>by decide
  | [],_::_,h=>by simp at h
  | _::_,[],h=>by simp at h
  | p::l,t::ts,h=>by
    obtain⟨a,b,c⟩:=HS l ts (by simpa using h);have e:eW (p::l) (t::ts)=jV p t::eW l ts:=rfl;have e1:∀f:de->Int,iC f (fp (p::l))=ez f p.Rr+iC f (fp l):=fun f=>rfl;have e2:∀f:de->Int,iC f (t::ts)=ez f t+iC f ts:=fun f=>rfl;have e3:∀q m,gQ (q::m)=⟨(sp q).cd+(gQ m).cd,(sp q).dg+(gQ m).dg,(sp q).dn+(gQ m).dn⟩:=fun q m=>rfl;have e4:sp (jV p t)=⟨ez de.cd t+g7 p.py.ag+p.dc.cd,ez de.dg t+p.dc.dg,ez de.dn t+p.dc.dn⟩:=rfl;have e5:sp p=⟨ez de.cd p.Rr+g7 p.py.ag+p.dc.cd,ez de.dg p.Rr+p.dc.dg,ez de.dn p.Rr+p.dc.dn⟩:=rfl;rw[e,e3,e3,e4,e5,e1,e1,e1,e2,e2,e2];dsimp only;omega
theorem LB:∀(l:List bh) (ts:List (List dj)),ts.length=l.length->(eW l ts).length=l.length/\∀(k:Nat) (q:bh),(eW l ts)[k]?=some q->∃p t,l[k]?=some p/\t∈ts/\q=jV p t
  | [],[],_=>⟨rfl,fun k q h=>by simp[eW]at h⟩
  | [],_::_,h=>by simp at h
  | _::_,[],h=>by simp at h
  | p::l,t::ts,h=>by
    obtain⟨a,b⟩:=LB l ts (by simpa using h);have e:eW (p::l) (t::ts)=jV p t::eW l ts:=rfl;rw[e];refine⟨by simp[a],fun k q hq=>?_⟩
    cases k with
    | zero=>simp at hq;exact⟨p,t,rfl,by simp,hq.symm⟩
    | succ k =>
      obtain⟨p',t',h1,h2,h3⟩:=b k q (by simpa using hq);exact⟨p',t',by simpa using h1,by simp[h2],h3⟩
theorem xN(l:List bh):eN (ft l)=fp l:=by
  unfold eN ft;rw[List.map_map];exact(List.map_congr_left fun _ _=>rfl).trans (List.map_id _)
structure QW (t u:dh):Prop where
  wk:Wk u
  sum:gQ u.parts=gQ t.parts
  RB:u.RB=t.RB
  len:u.parts.length=t.parts.length
  iS:∀j,0<=j->j<(t.parts.length:Int)->lV (nth t.parts j) (nth u.parts j)/\(nth u.parts j).Rz=(nth t.parts j).Rz
  w:wW t.parts->wW u.parts
theorem sf{t:dh}(h:Wk t)(k:Int):QW t (dy t k):=by
  unfold dy;split
  · have h0:ib (ft t.parts)=true:=by
      unfold ib;rw[List.all_eq_true];intro y hy;obtain⟨x,hx,rfl⟩:=List.mem_map.1 (show y∈(fp t.parts).map dJ.mk from hy);obtain⟨p,hp,rfl⟩:=List.mem_map.1 (show x∈t.parts.map _ from hx);exact iM (h.ok p hp)
    have hk:=zx k (nth t.parts k).db (ft t.parts) h0
    have hlen:(eN (lM (ft t.parts) k (nth t.parts k).db)).length=t.parts.length:=by
      unfold eN;rw[List.length_map];exact qw
    generalize hu:eN (lM (ft t.parts) k (nth t.parts k).db)=ts at *
    have hts:∀x,x∈ts->fk x=true:=fun x hx=>by
      rw[<- hu]at hx;obtain⟨y,hy,rfl⟩:=List.mem_map.1 (show x∈(lM (ft t.parts) k (nth t.parts k).db).map _ from hx);have:=hk.ok;unfold ib at this;rw[List.all_eq_true]at this;exact this y hy
    have e1:=hk.pg;have e2:=hk.rt;have e3:=hk.cp;rw[xN,hu]at e1 e2 e3;obtain⟨s1,s2,s3⟩:=HS t.parts ts hlen;obtain⟨l1,l2⟩:=LB t.parts ts hlen
    have hs:gQ (eW t.parts ts)=gQ t.parts:=by
      generalize gQ (eW t.parts ts)=a at *;generalize gQ t.parts=b at *;obtain⟨a1,a2,a3⟩:=a;obtain⟨b1,b2,b3⟩:=b;dsimp only at *
      have:a1=b1:=by omega
      have:a2=b2:=by omega
      have:a3=b3:=by omega
      subst_vars;rfl
    have hall:∀q,q∈eW t.parts ts->∃p x,p∈t.parts/\x∈ts/\q=jV p x:=fun q hq=>by
      obtain⟨i,hi⟩:=List.getElem?_of_mem hq;obtain⟨p,x,a,b,c⟩:=l2 i q hi;exact⟨p,x,List.mem_of_getElem? a,b,c⟩
    refine⟨⟨h.RB,by show 1<=(eW t.parts ts).length/\(eW t.parts ts).length<=3;rw[l1];exact h.len,fun q hq=>?_,by show dP (gQ (eW t.parts ts))=true;rw[hs];exact h.sum⟩,hs,rfl,l1,fun j j0 j1=>?_,fun hw q hq=>?_⟩
    · obtain⟨p,x,hp,hx,rfl⟩:=hall q hq;exact P2 (h.ok p hp) (hts x hx)
    · have hg:=fV (l:=eW t.parts ts) j0 (by omega);obtain⟨p,x,a,b,c⟩:=l2 _ _ hg
      have hp:nth t.parts j=p:=by
        rw[fV j0 j1]at a;exact Option.some.inj a
      rw[hp]
      show lV p (nth (eW t.parts ts) j)/\(nth (eW t.parts ts) j).Rz=p.Rz
      rw[c];exact⟨⟨rfl,rfl,rfl⟩,rfl⟩
    · obtain⟨p,x,hp,hx,rfl⟩:=hall q hq;exact hw p hp
  · exact⟨h,rfl,rfl,rfl,fun j _ _=>⟨lV.refl _,rfl⟩,fun h=>h⟩
structure Jt (w:dh) (now:Int) (k:Nat) (t:dh):Prop where
  wk:Wk t
  at_:t.RB=now
  len:t.parts.length=w.parts.length
  sum:gQ t.parts=gQ w.parts
  iS:∀j,0<=j->j<(w.parts.length:Int)->lV (nth w.parts j) (nth t.parts j)
  Rz:∀j:Nat,j<k->Int.tmod now (w.parts.length:Int)=(j:Int)->(nth t.parts (j:Int)).Rz=0
  w:wW t.parts
theorem mq{l:List bh}{i j:Int}{z:bh}(h0:0<=i)(h1:i<(l.length:Int))(hj:0<=j):nth (l.set i.toNat z) j=if i=j then z else nth l j:=by
  unfold nth
  by_cases e:i=j
  · subst e;rw[if_pos rfl,List.getElem?_set_self (by omega)];rfl
  · rw[if_neg e,List.getElem?_set_ne (by omega)]
theorem II{n:Nat}{p:bh}(hw:wP p)(hb:dC p<=2000000)(i now:Int):wP (iF n p i now):=(wK (n:=n) hb (Nat.le_refl _) hw i now).2
theorem Jt.step{w:dh}{now:Int}{k:Nat}{t:dh}(h:Jt w now k t)(hk:k<w.parts.length)(hn:w.parts.length<=3)(hsz:∀p,p∈(dy t (k:Int)).parts->dC p<=2000000):Jt w now (k+1) (gF w.parts.length k t):=by
  have hT:=sf h.wk (k:Int);have hlen:=hT.len.trans h.len;have hm:=gg (l:=(dy t (k:Int)).parts) (i:=(k:Int)) (by omega) (by omega);have hok:=hT.wk.ok _ hm;have hww:=hT.w h.w;have hsum:=eA.1 hT.wk.sum;have hge:=(Lt _ hT.wk.ok).2 _ hm;obtain⟨a1,a2,a3,a4⟩:=DF (n:=w.parts.length) hok (hww _ hm) (by omega) (k:Int) (dy t (k:Int)).RB;have hnow:(dy t (k:Int)).RB=now:=hT.RB.trans h.at_;have hg:=fV (l:=(dy t (k:Int)).parts) (i:=(k:Int)) (by omega) (by omega);rw[Int.toNat_natCast]at hg;have hs:=B3 _ k _ _ hg a2
  have hset:∀j,0<=j->nth ((dy t (k:Int)).parts.set k (iF w.parts.length (nth (dy t (k:Int)).parts (k:Int)) (k:Int) (dy t (k:Int)).RB)) j=if(k:Int)=j then iF w.parts.length (nth (dy t (k:Int)).parts (k:Int)) (k:Int) (dy t (k:Int)).RB else nth (dy t (k:Int)).parts j:=fun j hj=>by
    have:=mq (l:=(dy t (k:Int)).parts) (i:=(k:Int)) (z:=iF w.parts.length (nth (dy t (k:Int)).parts (k:Int)) (k:Int) (dy t (k:Int)).RB) (by omega) (by omega) hj
    rwa[Int.toNat_natCast]at this
  unfold gF;refine⟨⟨hT.wk.RB,?_,fun q hq=>?_,?_⟩,hnow,?_,?_,fun j j0 j1=>?_,fun j hj e=>?_,fun q hq=>?_⟩
  · show 1<=(List.set _ _ _).length/\(List.set _ _ _).length<=3
    rw[List.length_set];exact hT.wk.len
  · rcases List.mem_or_eq_of_mem_set (show q∈List.set _ _ _ from hq)with q1|rfl
    · exact hT.wk.ok q q1
    · exact a1
  · show dP (gQ (List.set _ _ _))=true
    rw[hs];exact hT.wk.sum
  · show(List.set _ _ _).length=_
    rw[List.length_set];exact hlen
  · show gQ (List.set _ _ _)=_
    rw[hs,hT.sum];exact h.sum
  · show lV (nth w.parts j) (nth (List.set _ _ _) j)
    have b1:=h.iS j j0 j1;have b2:=(hT.iS j j0 (by have:=h.len;omega)).1;rw[hset j j0];split
    · rename_i ej;subst ej;exact(b1.trans b2).trans a3
    · exact b1.trans b2
  · show(nth ((dy t (k:Int)).parts.set k (iF w.parts.length (nth (dy t (k:Int)).parts (k:Int)) (k:Int) (dy t (k:Int)).RB)) (j:Int)).Rz=0
    rw[hset (j:Int) (by omega)];split
    · rename_i ej;exact a4 (by rw[hnow,e];exact ej.symm)
    · rename_i ej
      have hjk:j<k:=by omega
      rw[(hT.iS (j:Int) (by omega) (by have:=h.len;omega)).2];exact h.Rz j hjk e
  · rcases List.mem_or_eq_of_mem_set (show q∈List.set _ _ _ from hq)with q1|rfl
    · exact hww q q1
    · exact II (hww _ hm) (hsz _ hm) _ _
theorem CL{α τ:Type}{P:Nat->τ->Prop}{f:Nat->τ->α->τ}:∀(l:List α) (k n:Nat) (t:τ),k+l.length=n->(∀j t y,k<=j->j<n->P j t->P (j+1) (f j t y))->P k t->P n (foldI f k t l)
  | [],k,n,t,e,_,h=>by
    simp at e;subst e;exact h
  | y::l,k,n,t,e,hs,h=>by
    simp only[List.length_cons]at e;unfold foldI;exact CL l (k+1) n _ (by omega) (fun j t y hj hn hp=>hs j t y (by omega) hn hp) (hs k t y (Nat.le_refl _) (by omega) h)
end Go.Kx
