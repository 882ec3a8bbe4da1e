import Derived.Test.YtlcgibcdiikheaaGreatEnv
import Derived.OrdersHeld
namespace Go.Kx
open Go Go.RowKit
set_option linter.unusedVariables false
set_option linter.unusedSimpArgs false
theorem EB (zc:List Value) (hz:0<zc.length):∀ (m j:Nat),j<m * zc.length→(List.replicate m zc).flatten[j]?=zc[j % zc.length]?
  | 0,j,h=>by simp at h
  | m+1,j,h=>by
    rw [List.replicate_succ,List.flatten_cons]
    by_cases hj:j<zc.length
    · rw [List.getElem?_append_left hj,Nat.mod_eq_of_lt hj]
    · rw [List.getElem?_append_right (by omega),EB zc hz m (j - zc.length) (by rw [Nat.succ_mul] at h;omega)];congr 1;rw [Nat.mod_eq_sub_mod (by omega:j ≥ zc.length)]
section
variable {P:Program} {w0 w:World} {F0:List Nat} {L M:List Item} {α:Type} [ia α]
variable {n:Nat} {Q:lT} {e:Env} {ops:Array Oper} {rest:List Oper} {ty:TypeId} {pos:String} {aft:Array Edge} {d:Nat} {v:Value}
theorem LW.x6 {t:TypeId} {x y:Operand} {av:Option Nat} {i:Nat} {g o0 off:Nat} {c:Nat} {l:List α} {k:Int} {z z':α} {o:Nat} {vs:Array Value}
    (hS:St w0 F0 w (M++L)) (hi:L[i]?=some (sl (some ⟨g,o0,none⟩) c l)) (hk:idx l k=some z) (ht:jH P t=some av) (hx:ev e x=.pointer (some ⟨g,off,none⟩)) (hoff:off=o0+k.toNat * ia.sz α+o)
    (hy:(ev e y).cells=vs) (hm:vs.size=av.getD 1) (h1:vs.toList.all (·.oneCell')=true) (hold:Nat.ble (o+vs.size) (ia.sz α)=true)
    (hM:∀ (w:World) (cs:List Value) (F G:List Nat),ia.own w cs F z→iP M w G→∃ F',ia.own w (cs.take o++vs.toList++cs.drop (o+vs.toList.length)) F' z'∧(∀ b,b ∈ F'→b ∈ F∨b ∈ G)∧(F.Nodup→G.Nodup→(∀ b,b ∈ F→b ∉ G)→F'.Nodup))
    (h:∀ w':World,St w0 F0 w' (L.set i (sl (some ⟨g,o0,none⟩) c (l.set k.toNat z')))→Fr w w' [g]→LW P n ops Q rest e w'):LW P n ops Q (⟨none,.store t x y,ty,pos,aft,none⟩::rest) e w:=by
  have hold:=Nat.le_of_ble_eq_true hold;obtain ⟨g',o0',cur,ha,h0,hlt,hg,hsz,hst⟩:=St.Kb (o:=o) (vs:=vs.toList) hS hi hk (by simpa using hold) hM;cases ha;subst hoff;have hr:=run_storeCells_at P g (o0+k.toNat * ia.sz α+o) (ia.ty α) vs.toList 0 cur w hg (by simpa using hsz) (fun u hu=>List.all_eq_true.1 h1 u hu);simp only [Nat.add_zero] at hr;refine LW.Cc (w':=w.setRow g (wT cur (o0+k.toNat * ia.sz α+o) vs.toList)) ?_ (h _ hst ⟨by simp,fun b _ hb=>setRow_other w g b _ (by simpa using hb)⟩);have:=qo (w:=w) ht;simp [execOp,Instr.storeAt,Instr.sureAddr,hx,storeVar,hy,hm,this.2,hr,wT]
theorem LW.mk {t:TypeId} {x y:Operand} {m:Int} {l:List α} (hT:nC P t α) (hx:ev e x=.int .i64 m) (hy:ev e y=.int .i64 m) (hl:Kx.mk α m=some l) (hS:St w0 F0 w L) (hd:Nat.ble (d+1) n=true)
    (h:∀ (a:Option Addr) (c:Nat) (w':World),St w0 F0 w' (sl a c l::L)→Fr w w' []→LW P n ops Q rest (lJ e d (.slice a l.length c)) w'):LW P n ops Q (⟨some d,.makeSlice t x y,ty,pos,aft,none⟩::rest) e w:=by
  unfold Kx.mk at hl;split at hl
  case isFalse=>cases hl
  case isTrue hb =>
  obtain ⟨h0,hb⟩:=hb;cases hl;obtain ⟨i,z,hi,hz,hs,hby,hzc⟩:=hT.info;unfold gX at hb
  have hbytes:(i.bytes:Int) * m≤281474976710656:=by
    have h1:(i.bytes:Int) * m≤4096 * 16777216:=Int.mul_le_mul (by omega) (by omega) h0 (by omega);omega
  have hr:=run_make (P:=P) w t _ i z hT.Fu hi hz .i64 .i64 m m h0 (Int.le_refl _) hbytes (by omega);have hh:=h (some ⟨w.heap.size,0,none⟩) m.toNat (w.alloc (.cells (madeCells z.cells (m.toNat * i.size)) (ia.ty α)));simp only [List.length_replicate] at hh
  have hrun:(execOp (ev e) ⟨some d,.makeSlice t x y,ty,pos,aft,none⟩).run P w=.ok (.value (.slice (some ⟨w.heap.size,0,none⟩) m.toNat m.toNat)) (w.alloc (.cells (madeCells z.cells (m.toNat * i.size)) (ia.ty α))):=by
    simp [execOp,hx,hy,hr]
  refine LW.run hrun hd (hh (St.add (M:=[_]) hS ?_) ⟨by simp,fun b hb _=>Below.heap_alloc w _ b hb⟩)
  have hlen:∀ u,u ∈ List.replicate m.toNat (ia.zc α)→u.length=ia.sz α:=by
    intro u hu;rw [(List.mem_replicate.1 hu).2];exact ia.jc (ia.jA w)
  have hcells:(madeCells z.cells (m.toNat * i.size)).toList=(List.replicate m.toNat (ia.zc α)).flatten:=by
    have hzl:z.cells.size=ia.sz α:=by rw [← Array.length_toList,hzc];exact ia.jc (ia.jA w)
    apply List.ext_getElem?;intro j;have hz0:=ia.pos (α:=α)
    have hfl:(List.replicate m.toNat (ia.zc α)).flatten.length=m.toNat * ia.sz α:=by
      simp [List.length_flatten,ia.jc (ia.jA w)]
    by_cases hj:j<m.toNat * ia.sz α
    · have hfr:=EB (ia.zc α) (by rw [ia.jc (ia.jA w)];exact hz0) m.toNat j (by rw [ia.jc (ia.jA w)];exact hj);rw [hfr,ia.jc (ia.jA w)]
      have hjm:j % ia.sz α<z.cells.size:=by rw [hzl];exact Nat.mod_lt _ hz0
      simp only [madeCells,hs,hzl,Array.toList_map,Array.toList_range,List.getElem?_map,List.getElem?_range hj,Option.map_some];rw [← hzc,Array.getElem?_toList,Array.getElem?_eq_getElem hjm,getElem!_pos z.cells _ hjm]
    · rw [List.getElem?_eq_none (by simp [madeCells,hs];omega),List.getElem?_eq_none (by omega)]
  refine ⟨rfl,rfl,rfl,by simp,fun b hb _=>Below.heap_alloc w _ b hb,[w.heap.size],⟨[w.heap.size],[],rfl,.inr ⟨_,0,_,_,rfl,heap_alloc_new w _,?_,by simp,by unfold maxLen;omega,rfl,?_⟩,rfl⟩,by simp,by simp⟩
  · rw [← Array.length_toList,hcells];simp [List.length_flatten,ia.jc (ia.jA w)]
  · rw [List.drop_zero,hcells];exact kt.Mn _
theorem St.AD {F G:List Nat} {w':World} {M:List Item} (hs:w.heap.size≤w'.heap.size) (ho:w'.os=w.os) (ht:w'.tape=w.tape) (hu:w'.output=w.output)
    (hsame:∀ b,b<w.heap.size→b ∉ F→w'.heap[b]?=w.heap[b]?) (hM:iP M w' G) (hn:G.Nodup) (hG:∀ b,b ∈ G→(b ∈ F∨w.heap.size≤b)∧b<w'.heap.size):St w F w' M :=
  ⟨ho,ht,hu,hs,hsame,G,hM,hn,hG⟩
theorem wi {t ty:TypeId} (hT:nC P t α) {a:Option Addr} {c:Nat} {F G:List Nat} {l ys:List α} (ho:nB w a c F l) {ad:Addr} {cc:Nat} {news:List Value}
    (hl:news.length=ys.length * ia.sz α) (hnews:∀ (j:Nat) (u:Value),news[j]?=some u→w.cell? (ad.add j)=some u) (hels:kt w news G ys)
    (hn:(F++G).Nodup) (hlt:∀ b,b ∈ F++G→b<w.heap.size) (hb:l.length+ys.length<gX) :
    ∃ a' c' w',(Builtin.append_ #[t,t] ty #[.slice a l.length c,.slice (some ad) ys.length cc]).run P w=.ok (.slice a' (l++ys).length c') w'∧St w (F++G) w' [sl a' c' (l++ys)]∧Fr w w' ((a.map (·.block)).toList):=by
  obtain ⟨i,z,hi,hz,hs,hby,hzc⟩:=hT.info;unfold gX at hb
  have hzl:z.cells.size=ia.sz α:=by rw [← Array.length_toList,hzc];exact ia.jc (ia.jA w)
  have h1:∀ u,u ∈ news→u.oneCell'=true:=fun u hu=>kt.one hels u (by rw [← hl,List.take_length];exact hu);obtain ⟨n1,n2,nd⟩:=List.nodup_append.1 hn
  have hby2:(l.length+ys.length) * i.bytes≤140737488355328:=by
    have:(l.length+ys.length) * i.bytes≤16777216 * 4096:=Nat.mul_le_mul (by omega) hby;omega
  have hmx:l.length+ys.length≤maxLen:=by unfold maxLen;omega
  -- what the growing arm leaves
  have grown:∀ (xs:List Value) (F':List Nat) (lR:Nat),kt w xs F' l→xs.length=l.length * ia.sz α→(∀ b,b ∈ F'→b ∈ F)→F'.Nodup→lR<l.length+ys.length →
      St w (F++G) (w.drew.alloc (.cells (xs.toArray++news.toArray++Builtin.zeroCells z.cells (grownCap w (l.length+ys.length) lR (ia.ty α) - (l.length+ys.length))) (ia.ty α)))
        [sl (some ⟨w.heap.size,0,none⟩) (grownCap w (l.length+ys.length) lR (ia.ty α)) (l++ys)]:=by
    intro xs F' lR hex hxl hF' nF' hold;have hge:=grownCap_ge w (l.length+ys.length) lR (ia.ty α);have hcm:grownCap w (l.length+ys.length) lR (ia.ty α)≤maxLen:=grownCap_le_maxLen w (l.length+ys.length) lR (ia.ty α) hmx
    have hblk:∀ k,k<w.heap.size→(w.drew.alloc (.cells (xs.toArray++news.toArray++Builtin.zeroCells z.cells (grownCap w (l.length+ys.length) lR (ia.ty α) - (l.length+ys.length))) (ia.ty α))).heap[k]?=w.heap[k]? :=
      fun k hk=>heap_alloc_old w.drew _ hk
    refine St.AD (G:=w.heap.size::(F'++G)) (by simp) rfl rfl rfl (fun b hbl _=>hblk b hbl)
      ⟨w.heap.size::(F'++G),[],by simp,.inr ⟨w.heap.size,0,_,F'++G,rfl,heap_alloc_new w.drew _,?_,by simpa using hge,hcm,rfl,?_⟩,rfl⟩ ?_ ?_
    · simp only [Array.size_append,List.size_toArray,size_zeroCells,hzl,hxl,hl, ← Nat.add_mul,Nat.zero_add];refine Nat.mul_le_mul_right _ ?_;omega
    · rw [List.drop_zero];simp only [Array.toList_append,List.append_assoc];rw [← List.append_assoc];refine kt.more (kt.append.2 ⟨xs,news,F',G,rfl,rfl,hxl,hex.frame (fun b h=>hblk b (hlt b (List.mem_append_left _ (hF' b h)))),hels.frame (fun b h=>hblk b (hlt b (List.mem_append_right _ h)))⟩) _
    · refine List.nodup_cons.2 ⟨fun hm=>?_,List.nodup_append.2 ⟨nF',n2,fun a ha b hb e=>nd a (hF' a ha) b hb e⟩⟩
      have:w.heap.size ∈ F++G:=by
        rcases List.mem_append.1 hm with h | h
        · exact List.mem_append_left _ (hF' _ h)
        · exact List.mem_append_right _ h
      have:=hlt _ this;omega
    · intro b hbm
      rcases List.mem_cons.1 hbm with rfl | hbm
      · exact ⟨.inr (Nat.le_refl _),by simp⟩
      · have:b ∈ F++G:=by
          rcases List.mem_append.1 hbm with h | h
          · exact List.mem_append_left _ (hF' _ h)
          · exact List.mem_append_right _ h
        exact ⟨.inl this,Nat.lt_of_lt_of_le (hlt b this) (by simp)⟩
  rcases ho with ⟨rfl,rfl,rfl,rfl⟩ | ⟨g,o,cur,F',rfl,hg,hs',k1,k2,rfl,he⟩
  · by_cases hm:ys.length=0
    · have hy0:ys=[]:=List.eq_nil_of_length_eq_zero hm;subst hy0;refine ⟨none,0,w,?_,St.AD (G:=[]) (Nat.le_refl _) rfl rfl rfl (fun _ _ _=>rfl) ⟨[],[],rfl,.inl ⟨rfl,rfl,rfl,rfl⟩,rfl⟩ List.nodup_nil (by simp),⟨Nat.le_refl _,fun _ _ _=>rfl⟩⟩;simp [Builtin.append_,run_underlying hT.Fu,sizeOf,typeInfo,hi,Builtin.lenOf,Builtin.firstCells,loadCells,loadCellsFrom]
    · have hr:=run_append_nil (P:=P) w t ty (ia.ty α) i z hT.Fu hi hz ad ys.length cc news (by rw [hs];exact hl) hnews (by omega) (by unfold maxLen at hmx;simp at hmx;omega) (by have hb:=hby2;simp only [List.length_nil,Nat.zero_add] at hb;omega);have hg:=grown [] [] 0 rfl (by simp) (by simp) List.nodup_nil (by simp;omega);simp only [List.length_nil,Nat.zero_add,List.nil_append] at hr hg ⊢;exact ⟨_,_,_,hr,by simpa using hg,⟨by simp,fun b hb _=>heap_alloc_old w.drew _ hb⟩⟩
  · obtain ⟨q1,q2⟩:=he.take;obtain ⟨m1,m2⟩:=List.nodup_cons.1 n1
    have hdl:(cur.toList.drop o).length=cur.size - o:=by rw [List.length_drop,Array.length_toList]
    by_cases hroom:l.length+ys.length≤c
    · have hfit:o+l.length * ia.sz α+news.length≤cur.size:=by
        have:(l.length+ys.length) * ia.sz α≤c * ia.sz α:=Nat.mul_le_mul_right _ hroom;rw [Nat.add_mul] at this;omega
      have hfc:=run_firstCells_some (P:=P) w (ia.sz α) ys.length ad ys.length cc news hl hnews;have hst:=run_storeCells_at P g (o+l.length * ia.sz α) (ia.ty α) news 0 cur w hg (by simpa using hfit) (fun u hu=>h1 u hu);simp only [Nat.add_zero] at hst;refine ⟨some ⟨g,o,none⟩,c,w.setRow g (cur.toList.take (o+l.length * ia.sz α)++news++cur.toList.drop (o+l.length * ia.sz α+news.length)).toArray,?_,?_,⟨by simp,fun b _ hb=>setRow_other w g b _ (by simpa using hb)⟩⟩
      · simp [Builtin.append_,run_underlying hT.Fu,sizeOf,typeInfo,hi,Builtin.lenOf,hroom,hs,hfc,add_lit,hst]
      · have hoth:∀ b,b ≠ g→(w.setRow g (cur.toList.take (o+l.length * ia.sz α)++news++cur.toList.drop (o+l.length * ia.sz α+news.length)).toArray).heap[b]?=w.heap[b]?:=fun b hb=>setRow_other w g b _ hb
        refine St.AD (G:=g::(F'++G)) (by simp) rfl rfl rfl (fun b _ hno=>hoth b fun e=>hno (by simp [e]))
          ⟨g::(F'++G),[],by simp,.inr ⟨g,o,_,F'++G,rfl,setRow_heap w g cur _ _ _ hg,?_,by simpa using hroom,k2,rfl,?_⟩,rfl⟩ ?_ ?_
        · simp only [List.size_toArray,List.length_append,List.length_take,List.length_drop,Array.length_toList];omega
        · have e:(cur.toList.take (o+l.length * ia.sz α)++news++cur.toList.drop (o+l.length * ia.sz α+news.length)).drop o=((cur.toList.drop o).take (l.length * ia.sz α)++news)++cur.toList.drop (o+l.length * ia.sz α+news.length):=by
            rw [List.append_assoc,List.drop_append_of_le_length (by have hcl:cur.toList.length=cur.size:=Array.length_toList;rw [List.length_take];omega),List.drop_take,Nat.add_sub_cancel_left, ← List.append_assoc]
          simp only [List.toList_toArray] at e ⊢;rw [e];refine kt.more (kt.append.2 ⟨_,news,F',G,rfl,rfl,by rw [List.length_take];omega,q1.frame (fun b h=>hoth b fun e=>m1 (e ▸ h)),hels.frame (fun b h=>hoth b fun e=>nd g (by simp) b h e.symm)⟩) _
        · refine List.nodup_cons.2 ⟨fun hm=>?_,List.nodup_append.2 ⟨m2,n2,fun a ha b hb e=>nd a (by simp [ha]) b hb e⟩⟩
          rcases List.mem_append.1 hm with h | h
          · exact m1 h
          · exact nd g (by simp) g h rfl
        · intro b hbm
          have:b ∈ (g::F')++G:=by simpa using hbm
          exact ⟨.inl this,by simpa using hlt b this⟩
    · have holds:∀ (j:Nat) (u:Value),((cur.toList.drop o).take (l.length * ia.sz α))[j]?=some u→w.cell? ((⟨g,o,none⟩:Addr).add j)=some u:=by
        intro j u hu;rw [List.getElem?_take] at hu;split at hu
        · rw [List.getElem?_drop] at hu;rw [add_lit,cell_of_row w g (o+j) cur _ (0,0) hg];simpa using hu
        · cases hu
      have hxl:((cur.toList.drop o).take (l.length * ia.sz α)).length=l.length * ia.sz α:=by rw [List.length_take];omega
      have hr:=run_append_grow (P:=P) w t ty (ia.ty α) i z hT.Fu hi hz ⟨g,o,none⟩ l.length c _ (by rw [hs];exact hxl) holds ad ys.length cc news (by rw [hs];exact hl) hnews (by omega) (by unfold maxLen at hmx;omega) (growslice_fits (by omega) hby2);exact ⟨_,_,_,by rw [List.length_append];exact hr,grown _ F' c q1 hxl (fun b h=>by simp [h]) m2 (by omega),⟨by simp,fun b hb _=>heap_alloc_old w.drew _ hb⟩⟩
def y5 (P:Program) (t:TypeId) (len:Nat) (parts:List (Nat×Value)):Option (TypeId×Array Value) :=
  match P.underlying t with
  | some (.slice el) =>
    match P.info? el with
    | some i =>
      match i.zero with
      | some z=>if len * i.size > 16777216 then none else
        (Instr.fill (fun k=>some (k * i.size,i.size)) ((Array.range (len * i.size)).map ((if len * i.size=0 then #[] else z.cells)[· % (if len * i.size=0 then #[] else z.cells:Array Value).size]!)) parts).map fun cs=>(el,cs)
      | none=>none
    | none=>none
  | _=>none
theorem BY {t el:TypeId} {len:Nat} {parts:Array (Nat×Value)} {cs:Array Value} (h:y5 P t len parts.toList=some (el,cs)) :
    (Instr.buildSlice t len parts).run P w=.ok (.slice (some ⟨w.heap.size,0,none⟩) len len) (w.alloc (.cells cs el)):=by
  unfold y5 at h;split at h
  · rename_i el' hu;split at h
    · rename_i i hi;split at h
      · rename_i z hz;split at h
        · cases h
        · rename_i hsm;have hsm':¬ 16777216<len * i.size:=hsm
          cases hf:Instr.fill (fun k=>some (k * i.size,i.size)) ((Array.range (len * i.size)).map ((if len * i.size=0 then #[] else z.cells)[· % (if len * i.size=0 then #[] else z.cells:Array Value).size]!)) parts.toList with
          | none=>rw [hf] at h;cases h
          | some cs' =>
            rw [hf] at h;simp only [Option.map_some,Option.some.injEq,Prod.mk.injEq] at h;obtain ⟨rfl,rfl⟩:=h
            by_cases h0:len * i.size=0
            · simp [h0] at hf;simp [Instr.buildSlice,run_underlying hu,sizeOf,typeInfo,hi,h0,hf,newRow]
            · simp only [h0,if_false] at hf;simp [Instr.buildSlice,run_underlying hu,sizeOf,typeInfo,hi,hsm',h0,zeroValue,hz,hf,newRow]
      · cases h
    · cases h
  · cases h
theorem LW.An {t:TypeId} {len:Nat} {parts:Array (Nat×Operand)} {vs:List (Nat×Value)} {cs:Array Value} {l:List α} (hp:parts.toList.map (fun p=>(p.1,ev e p.2))=vs) (hb:y5 P t len vs=some (ia.ty α,cs))
    (hl:l.length=len) (hcs:cs.size=len * ia.sz α) (hL:Nat.ble len 65536=true) (hels:∀ w:World,kt w cs.toList [] l) (hS:St w0 F0 w L) (hd:Nat.ble (d+1) n=true)
    (h:∀ (a:Option Addr) (c:Nat) (w':World),St w0 F0 w' (sl a c l::L)→Fr w w' []→LW P n ops Q rest (lJ e d (.slice a l.length c)) w'):LW P n ops Q (⟨some d,.buildSlice t len parts,ty,pos,aft,none⟩::rest) e w:=by
  have hp':(parts.map fun (i,x)=>(i,ev e x)).toList=vs:=by rw [← hp];simp
  subst hp';subst hl;have hL:=Nat.le_of_ble_eq_true hL
  have hrun:(execOp (ev e) ⟨some d,.buildSlice t l.length parts,ty,pos,aft,none⟩).run P w=.ok (.value (.slice (some ⟨w.heap.size,0,none⟩) l.length l.length)) (w.alloc (.cells cs (ia.ty α))):=by
    have:=BY (P:=P) (w:=w) hb;simp only [execOp,Sem.run_bind,this,Result.andThen_ok];rfl
  refine LW.run hrun hd (h _ _ _ (St.add (M:=[_]) hS ?_) ⟨by simp,fun b hb _=>Below.heap_alloc w _ b hb⟩);exact ⟨rfl,rfl,rfl,by simp,fun b hb _=>Below.heap_alloc w _ b hb,[w.heap.size],⟨[w.heap.size],[],rfl,.inr ⟨_,0,_,_,rfl,heap_alloc_new w _,by rw [hcs];omega,Nat.le_refl _,by unfold maxLen;omega,rfl,hels _⟩,rfl⟩,by simp,by simp⟩
theorem St.lay {w0 w w':World} {F0:List Nat} {L:List Item} (h:St w0 F0 w L) (hs:w.heap.size≤w'.heap.size) (ho:w'.os=w.os) (ht:w'.tape=w.tape) (hu:w'.output=w.output)
    (hsame:∀ b,b<w.heap.size→w'.heap[b]?=w.heap[b]?):St w0 F0 w' L :=
  St.add (M:=[]) h ⟨ho,ht,hu,hs,fun b hb _=>hsame b hb,[],rfl,List.nodup_nil,by simp⟩
theorem LW.kX {t ty2:TypeId} {pos2:String} {aft2:Array Edge} {x s:Operand} {d1:Nat} {vs:Array Value} {i:Nat} {a:Option Addr} {c:Nat} {l l':List α} {y:α} (hT:nC P t α)
    (hp:(ev e x).cells=vs) (hb:y5 P t 1 [(0,ev e x)]=some (ia.ty α,vs)) (hs:ev e s=.slice a l.length c) (hs1:ev (lJ e d1 undef) s=ev e s) (hl:app l [y]=some l')
    (hS:St w0 F0 w (M++L)) (hi:L[i]?=some (sl a c l)) (hM:∀ (w:World) (G:List Nat),iP M w G→ia.own w vs.toList G y) (hd1:Nat.ble (d1+1) n=true) (hd:Nat.ble (d+1) n=true)
    (h:∀ (v1:Value) (a':Option Addr) (c':Nat) (w':World),St w0 F0 w' (L.set i (sl a' c' l'))→Fr w w' ((a.map (·.block)).toList)→LW P n ops Q rest (lJ (lJ e d1 v1) d (.slice a' l'.length c')) w') :
    LW P n ops Q (⟨some d1,.buildSlice t 1 #[(0,x)],ty2,pos2,aft2,none⟩::⟨some d,.call { callee:=.builtin .append,args:=#[s,.tmp d1],argTypes:=#[t,t] },ty,pos,aft,none⟩::rest) e w:=by
  unfold app at hl;split at hl
  case isFalse=>cases hl
  case isTrue hbig =>
  cases hl
  have hrun:(execOp (ev e) ⟨some d1,.buildSlice t 1 #[(0,x)],ty2,pos2,aft2,none⟩).run P w=.ok (.value (.slice (some ⟨w.heap.size,0,none⟩) 1 1)) (w.alloc (.cells vs (ia.ty α))):=by
    have:=BY (P:=P) (w:=w) (parts:=#[(0,ev e x)]) hb;simp [execOp,this]
  refine LW.run hrun hd1 ?_;generalize hw1:w.alloc (.cells vs (ia.ty α))=w1;have hS1:St w0 F0 w1 (M++L):=hS.lay (by subst hw1;simp) (by subst hw1;rfl) (by subst hw1;rfl) (by subst hw1;rfl) (fun b hb=>by subst hw1;exact Below.heap_alloc w _ b hb)
  have h':St w0 F0 w1 ((sl a c l::M)++L.eraseIdx i):=by
    have:=hS1.front (M.length+i) (x:=sl a c l) (by rw [List.getElem?_append_right (by omega),Nat.add_sub_cancel_left];exact hi);refine this.perm ?_
    have e:(M++L).eraseIdx (M.length+i)=M++L.eraseIdx i:=by
      rw [List.eraseIdx_append_of_length_le (by omega)];simp
    rw [e];simp
  obtain ⟨F,hF,hn,hlt2,_,_,hm⟩:=h'.share;obtain ⟨F1,F2,rfl,q1,q2⟩:=hF;have hy:=hM w1 F2 q2
  have hcell:∀ (j:Nat) (u:Value),vs.toList[j]?=some u→w1.cell? ((⟨w.heap.size,0,none⟩:Addr).add j)=some u:=by
    intro j u hu;subst hw1;rw [add_lit,Nat.zero_add,cell_of_row _ w.heap.size j vs (ia.ty α) (0,0) (heap_alloc_new w _)];simpa using hu
  obtain ⟨a',c',w',hr,hst,hfr⟩:=wi (ty:=ty) (ys:=[y]) (cc:=1) hT q1 (by rw [ia.jc hy];simp) hcell (show kt w1 vs.toList F2 [y] from ⟨vs.toList,[],F2,[],by simp,by simp,hy,rfl⟩) hn hlt2 hbig
  have hfr1:Fr w w' ((a.map (·.block)).toList):=⟨Nat.le_trans (by subst hw1;simp) hfr.size,fun b hb hno=>by
    rw [hfr.same b (by subst hw1;simp;omega) hno];subst hw1
    exact Below.heap_alloc w _ b hb⟩
  refine LW.run (v:=.slice a' (l++[y]).length c') ?_ hd (h _ a' c' w' ((hm w' _ hst).perm (eraseIdx_set L i _ (iU hi))) hfr1)
  have hs2:ev (lJ e d1 (.slice (some ⟨w.heap.size,0,none⟩) 1 1)) s=.slice a l.length c:=by
    cases s with
    | tmp t' =>
      simp only [ev] at hs hs1 ⊢
      have:Nat.beq t' d1=false:=by
        cases hb:Nat.beq t' d1
        · rfl
        · simp only [lJ,hb,Rb] at hs1;rw [hs] at hs1;cases hs1
      simp only [lJ,this,Q9];exact hs
    | _=>exact hs
  have hx2:ev (lJ e d1 (.slice (some ⟨w.heap.size,0,none⟩) 1 1)) (.tmp d1)=.slice (some ⟨w.heap.size,0,none⟩) 1 1:=by
    simp only [ev,lJ];rw [Nat.beq_refl];rfl
  simp only [List.length_cons,List.length_nil,Nat.zero_add] at hr;simp [execOp,resolve,invoke,builtin,hs2,hx2,hr]
theorem LW.OT {t:TypeId} {x:Operand} {vs:Array Value} (hT:nC P t α) (hp:(ev e x).cells=vs) (hb:y5 P t 1 [(0,ev e x)]=some (ia.ty α,vs)) (hS:St w0 F0 w L) (hd:Nat.ble (d+1) n=true)
    (h:∀ (g:Nat) (w':World),St w0 F0 w' (bx g (ia.ty α) vs.toList::L)→Fr w w' []→LW P n ops Q rest (lJ e d (.slice (some ⟨g,0,none⟩) 1 1)) w') :
    LW P n ops Q (⟨some d,.buildSlice t 1 #[(0,x)],ty,pos,aft,none⟩::rest) e w:=by
  have hrun:(execOp (ev e) ⟨some d,.buildSlice t 1 #[(0,x)],ty,pos,aft,none⟩).run P w=.ok (.value (.slice (some ⟨w.heap.size,0,none⟩) 1 1)) (w.alloc (.cells vs (ia.ty α))):=by
    have:=BY (P:=P) (w:=w) (parts:=#[(0,ev e x)]) hb;simp [execOp,this]
  refine LW.run hrun hd (h _ _ ?_ ⟨by simp,fun b hb _=>Below.heap_alloc w _ b hb⟩);have:=hS.add (EK w (ia.ty α) vs.toList);simpa using this
theorem St.lit {g:Nat} {vs:List Value} {M:List Item} {y:α} (hS:St w0 F0 w (bx g (ia.ty α) vs::(M++L))) (hM:∀ (w:World) (G:List Nat),iP M w G→ia.own w vs G y):St w0 F0 w (sl (some ⟨g,0,none⟩) 1 [y]::L):=by
  have h':St w0 F0 w ((bx g (ia.ty α) vs::M)++L):=hS;obtain ⟨F,hF,hn,hlt,_,_,hm⟩:=h'.share;refine hm w [sl (some ⟨g,0,none⟩) 1 [y]] (St.init ?_ hn hlt);obtain ⟨F1,F2,rfl,⟨rfl,hg⟩,q2⟩:=hF;have hy:=hM w F2 q2;refine ⟨[g]++F2,[],by simp,.inr ⟨g,0,vs.toArray,F2,rfl,hg,?_,by simp,by simp [maxLen],rfl,⟨vs,[],F2,[],by simp,by simp,hy,rfl⟩⟩,rfl⟩;simp [ia.jc hy]
theorem LW.Ea {t:TypeId} {x s:Operand} {vs:List Value} {i j g:Nat} {a:Option Addr} {c:Nat} {l l':List α} {y:α} (hT:nC P t α)
    (hs:ev e s=.slice a l.length c) (hx:ev e x=.slice (some ⟨g,0,none⟩) 1 1) (hl:app l [y]=some l')
    (hS:St w0 F0 w (M++L)) (hi:L[i]?=some (sl a c l)) (hj:L[j]?=some (bx g (ia.ty α) vs)) (hM:∀ (w:World) (G:List Nat),iP M w G→ia.own w vs G y) (hd:Nat.ble (d+1) n=true)
    (h:∀ (a':Option Addr) (c':Nat) (w':World),St w0 F0 w' (L.set i (sl a' c' l'))→Fr w w' ((a.map (·.block)).toList)→LW P n ops Q rest (lJ e d (.slice a' l'.length c')) w') :
    LW P n ops Q (⟨some d,.call { callee:=.builtin .append,args:=#[s,x],argTypes:=#[t,t] },ty,pos,aft,none⟩::rest) e w:=by
  unfold app at hl;split at hl
  case isFalse=>cases hl
  case isTrue hbig =>
  cases hl;have hg:=St.cell (h:=hS) (i:=M.length+j) (by rw [List.getElem?_append_right (by omega),Nat.add_sub_cancel_left];exact hj)
  have h':St w0 F0 w ((sl a c l::M)++L.eraseIdx i):=by
    have:=hS.front (M.length+i) (x:=sl a c l) (by rw [List.getElem?_append_right (by omega),Nat.add_sub_cancel_left];exact hi);refine this.perm ?_
    have e:(M++L).eraseIdx (M.length+i)=M++L.eraseIdx i:=by
      rw [List.eraseIdx_append_of_length_le (by omega)];simp
    rw [e];simp
  obtain ⟨F,hF,hn,hlt2,_,_,hm⟩:=h'.share;obtain ⟨F1,F2,rfl,q1,q2⟩:=hF;have hy:=hM w F2 q2
  have hcell:∀ (k:Nat) (u:Value),vs[k]?=some u→w.cell? ((⟨g,0,none⟩:Addr).add k)=some u:=by
    intro k u hu;rw [add_lit,Nat.zero_add,cell_of_row _ g k vs.toArray (ia.ty α) (0,0) hg];simpa using hu
  obtain ⟨a',c',w',hr,hst,hfr⟩:=wi (ty:=ty) (ys:=[y]) (cc:=1) hT q1 (by rw [ia.jc hy];simp) hcell (show kt w vs F2 [y] from ⟨vs,[],F2,[],by simp,by simp,hy,rfl⟩) hn hlt2 hbig;refine LW.run (v:=.slice a' (l++[y]).length c') ?_ hd (h a' c' w' ((hm w' _ hst).perm (eraseIdx_set L i _ (iU hi))) hfr);simp only [List.length_cons,List.length_nil,Nat.zero_add] at hr;simp [execOp,resolve,invoke,builtin,hs,hx,hr]
class Flat (α:Type) [ia α]:Prop where
  flat:∀ {S w w' cs} {x:α},ia.rd S w cs x→ia.own w' cs [] x
theorem kt.flat [Flat α] {S:Nat→Prop} {a:Option Addr} {c:Nat} {l:List α} (h:iV S w a c l):∃ news:List Value,news.length=l.length * ia.sz α∧(∀ w':World,kt w' news [] l)∧(l ≠ []→∃ b o,a=some ⟨b,o,none⟩∧∀ (j:Nat) (u:Value),news[j]?=some u→w.cell? ⟨b,o+j,none⟩=some u):=by
  by_cases hne:l=[]
  · subst hne;exact ⟨[],by simp,fun _=>rfl,fun h=>absurd rfl h⟩
  · obtain ⟨b,o,ha,_,hc⟩:=h.cells hne
    have key:∀ (m:List α) (o':Nat),(∀ (k:Nat) (x:α),m[k]?=some x→∃ cs,ia.rd S w cs x∧∀ (j:Nat) (u:Value),cs[j]?=some u→w.cell? ⟨b,o'+k * ia.sz α+j,none⟩=some u) →
        ∃ news:List Value,news.length=m.length * ia.sz α∧(∀ w':World,kt w' news [] m)∧∀ (j:Nat) (u:Value),news[j]?=some u→w.cell? ⟨b,o'+j,none⟩=some u:=by
      intro m
      induction m with
      | nil=>exact fun _ _=>⟨[],by simp,fun _=>rfl,fun j u hu=>by simp at hu⟩
      | cons x m ih =>
        intro o' hm;obtain ⟨cs,h1,h2⟩:=hm 0 x rfl;have hl:=ia.lW h1
        obtain ⟨news,g1,g2,g3⟩:=ih (o'+ia.sz α) (fun k y hy=>by
          obtain ⟨cs',q1,q2⟩:=hm (k+1) y (by simpa using hy)
          exact ⟨cs',q1,fun j u hu=>by
            have:=q2 j u hu;rw [Nat.succ_mul] at this;rw [show o'+ia.sz α+k * ia.sz α+j=o'+(k * ia.sz α+ia.sz α)+j by omega]
            exact this⟩)
        refine ⟨cs++news,by simp [hl,g1,Nat.succ_mul,Nat.add_comm],fun w'=>⟨cs,news,[],[],rfl,rfl,Flat.flat h1,g2 w'⟩,fun j u hu=>?_⟩
        by_cases hj:j<cs.length
        · rw [List.getElem?_append_left hj] at hu;simpa using h2 j u hu
        · rw [List.getElem?_append_right (by omega)] at hu;have:=g3 _ u hu;rw [show o'+j=o'+ia.sz α+(j - cs.length) by omega];exact this
    obtain ⟨news,g1,g2,g3⟩:=key l o hc;exact ⟨news,g1,g2,fun _=>⟨b,o,ha,g3⟩⟩
theorem BD {t ty:TypeId} (hT:nC P t α) {a:Option Addr} {c cc:Nat} {F:List Nat} {l:List α} (ho:nB w a c F l):(Builtin.append_ #[t,t] ty #[.slice a l.length c,.slice none 0 cc]).run P w=.ok (.slice a l.length c) w:=by
  obtain ⟨i,z,hi,hz,hs,hby,hzc⟩:=hT.info
  rcases ho with ⟨rfl,rfl,rfl,rfl⟩ | ⟨g,o,cur,F',rfl,hg,hs',k1,k2,rfl,he⟩
  · simp [Builtin.append_,run_underlying hT.Fu,sizeOf,typeInfo,hi,Builtin.lenOf,Builtin.firstCells]
  · simp [Builtin.append_,run_underlying hT.Fu,sizeOf,typeInfo,hi,Builtin.lenOf,Builtin.firstCells,k1,storeCells]
theorem LW.km [Flat α] {t:TypeId} {s x:Operand} {i:Nat} {S:Nat→Prop} {a b:Option Addr} {c cb:Nat} {l m l':List α} (hT:nC P t α) (hs:ev e s=.slice a l.length c) (hx:ev e x=.slice b m.length cb) (hr:iV S w b cb m)
    (hl:app l m=some l') (hS:St w0 F0 w L) (hi:L[i]?=some (sl a c l)) (hd:Nat.ble (d+1) n=true)
    (h:∀ (a':Option Addr) (c':Nat) (w':World),St w0 F0 w' (L.set i (sl a' c' l'))→Fr w w' ((a.map (·.block)).toList)→LW P n ops Q rest (lJ e d (.slice a' l'.length c')) w') :
    LW P n ops Q (⟨some d,.call { callee:=.builtin .append,args:=#[s,x],argTypes:=#[t,t] },ty,pos,aft,none⟩::rest) e w:=by
  unfold app at hl;split at hl
  case isFalse=>cases hl
  case isTrue hbig =>
  cases hl;have h':St w0 F0 w ([sl a c l]++L.eraseIdx i):=hS.front i hi;obtain ⟨F,hF,hn,hlt2,_,_,hm⟩:=h'.share;obtain ⟨F1,F2,rfl,q1,q2⟩:=hF;cases (show F2=[] from q2);rw [List.append_nil] at hn hlt2 hm;obtain ⟨news,g1,g2,g3⟩:=kt.flat hr
  by_cases hne:m=[]
  · subst hne
    cases b with
    | none =>
      refine LW.run (v:=.slice a (l++[]).length c) ?_ hd (h a c w (by
        have:=hS.setAt (w':=w) (y:=sl a c (l++[])) hi (fun F hF hn hlt=>St.init ⟨F,[],by simp,by rw [List.append_nil];exact hF,rfl⟩ hn hlt)
        exact this) ⟨Nat.le_refl _,fun b _ _=>rfl⟩)
      have:=BD (P:=P) (ty:=ty) (cc:=cb) hT q1;simp [execOp,resolve,invoke,builtin,hs,hx,this]
    | some ad =>
      obtain ⟨a',c',w',hr',hst,hfr⟩:=wi (ty:=ty) (ad:=ad) (cc:=cb) (ys:=[]) hT q1 (news:=[]) (G:=[]) (by simp) (by simp) rfl (by simpa using hn) (by simpa using hlt2) hbig;rw [List.append_nil] at hst;refine LW.run (v:=.slice a' (l++[]).length c') ?_ hd (h a' c' w' ((hm w' _ hst).perm (eraseIdx_set L i _ (iU hi))) hfr);simp only [List.length_nil] at hr' hx;simp only [execOp,resolve,invoke,builtin,Sem.run_bind,Sem.run_pure,Result.andThen_ok,List.map_toArray,List.map_cons,List.map_nil,hs,hx,hr']
  · obtain ⟨b',o,rfl,hc⟩:=g3 hne;obtain ⟨a',c',w',hr',hst,hfr⟩:=wi (ty:=ty) (ad:=⟨b',o,none⟩) (cc:=cb) (ys:=m) hT q1 g1 (fun j u hu=>by rw [add_lit];exact hc j u hu) (g2 w) (by simpa using hn) (by simpa using hlt2) hbig;rw [List.append_nil] at hst;refine LW.run (v:=.slice a' (l++m).length c') ?_ hd (h a' c' w' ((hm w' _ hst).perm (eraseIdx_set L i _ (iU hi))) hfr);simp only [execOp,resolve,invoke,builtin,Sem.run_bind,Sem.run_pure,Result.andThen_ok,List.map_toArray,List.map_cons,List.map_nil,hs,hx,hr']
end
end Go.Kx
namespace Go.Kx
open Go Go.RowKit
set_option linter.unusedVariables false
set_option linter.unusedSimpArgs false
def waits (ops:Array Oper) (j k:Nat):Bool :=
  match ops[j]? with
  | some o=>o.after.any fun e=>Region.binds .any e&&e.on==k
  | none=>false
abbrev pV:=List (Nat×(World→Prop))
def sV (P:Program) (ops:Array Oper) (Q:Exit→Act→World→Prop):Nat→pV→Array Bool→Act→World→Prop
  | 0,_,listed,a,w=>Region.ready .any ops listed=[]∧Q .normal a w
  | fuel+1,E,listed,a,w=>(Region.ready .any ops listed=[]→Q .normal a w)∧∀ j ∈ Region.ready .any ops listed,
      wpOp P ops Q j (fun a' w'=>(∀ p,p ∈ E→waits ops j p.1=false→p.2 w→p.2 w')∧sV P ops Q fuel E (listed.setIfInBounds j true) a' w') a w
section
variable {P:Program} {ops:Array Oper} {Q:Exit→Act→World→Prop}
theorem sV.any:∀ (fuel:Nat) {E:pV} {listed:Array Bool} {a:Act} {w:World},sV P ops Q fuel E listed a w→wpAny P .any ops Q fuel listed a w
  | 0,_,_,_,_,h=>h
  | fuel+1,_,_,_,_,h=>⟨h.1,fun i hi=>wpOp_mono (fun a' w' h'=>sV.any fuel h'.2) (h.2 i hi)⟩
theorem sV.less:∀ (fuel:Nat) {E E':pV} {listed:Array Bool} {a:Act} {w:World},(∀ p,p ∈ E'→p ∈ E∨∀ w,p.2 w)→sV P ops Q fuel E listed a w→sV P ops Q fuel E' listed a w
  | 0,_,_,_,_,_,_,h=>h
  | fuel+1,_,_,_,_,_,he,h=>⟨h.1,fun i hi=>wpOp_mono (fun a' w' h'=>⟨fun p hp hw hc=>(he p hp).elim (fun h1=>h'.1 p h1 hw hc) (fun h1=>h1 w'),sV.less fuel he h'.2⟩) (h.2 i hi)⟩
theorem Js {j k:Nat} {o:Oper} (ho:ops[j]?=some o) (h:∀ e ∈ o.after,Region.binds .any e=true→e.on ≠ k):waits ops j k=false:=by
  unfold waits;rw [ho];simp only;cases hb:o.after.any fun e=>Region.binds .any e&&e.on==k
  · rfl
  · obtain ⟨e,he,hb⟩:=Array.any_eq_true'.1 hb;simp only [Rg,beq_iff_eq] at hb;exact absurd hb.2 (h e he hb.1)
theorem sV.first {C:World→Prop} {i:Nat} {oi:Oper} {v:Value} (hi:ops[i]?=some oi) (hsel:∀ (j:Nat) (o:Oper) cs b,ops[j]?=some o→o.op ≠ .select cs b)
    (hQ:∀ c a w,Q (.panic c) (a.put oi.dst v) w→Q (.panic c) a w) :
    ∀ (fuel:Nat) (E:pV) (listed:Array Bool) (a:Act) (w:World),
      (∀ j oj,ops[j]?=some oj→j ≠ i→listed.getD j true=false→(∀ e ∈ oj.after,Region.binds .any e=true→e.on ≠ i)→oi.apart ops oj=true) →
      i ∈ Region.ready .any ops listed→YieldsIf P ops C oi v a→C w →
      sV P ops Q fuel ((i,C)::E) (listed.setIfInBounds i true) (a.put oi.dst v) w→sV P ops Q (fuel+1) E listed a w:=by
  intro fuel
  induction fuel with
  | zero =>
    intro E listed a w _ hr hy hC H;refine ⟨fun h=>(by rw [h] at hr;cases hr),fun j hj=>?_⟩
    by_cases hji:j=i
    · subst hji;exact hy.wpOp hi hC ⟨fun _ _ _ h=>h,H⟩
    · have:=ready_mono hj hji;rw [H.1] at this;cases this
  | succ fuel ih =>
    intro E listed a w hfree hr hy hC H;refine ⟨fun h=>(by rw [h] at hr;cases hr),fun j hj=>?_⟩
    by_cases hji:j=i
    · subst hji;exact hy.wpOp hi hC ⟨fun _ _ _ h=>h,H.less _ (fun p hp=>.inl (List.mem_cons_of_mem _ hp))⟩
    · have h1:=H.2 j (ready_mono hj hji);obtain ⟨hjun,oj,hoj,hall⟩:=mem_ready.1 hj
      have hnot:∀ e ∈ oj.after,Region.binds .any e=true→e.on ≠ i:=fun e he hb heq=>by
        have h1:=hall e he hb;have h0:=(mem_ready.1 hr).1;rw [heq] at h1
        rcases Nat.lt_or_ge i listed.size with h' | h'
        · simp [h'] at h0 h1;rw [h0] at h1;cases h1
        · simp [Array.getElem?_eq_none h'] at h1
      have h2:=wpOp_putIf hoj (hfree j oj hoj hji hjun hnot) (fun cs b=>hsel i oi cs b hi) (fun cs b=>hsel j oj cs b hoj) hQ hy h1;refine wpOp_mono (fun a' w' h3=>⟨fun p hp hw hc=>h3.2.1 p (List.mem_cons_of_mem _ hp) hw hc,?_⟩) h2;refine ih E (listed.setIfInBounds j true) a' w' (fun k ok hk hki hun hno=>?_) (ready_mono hr (Ne.symm hji)) h3.1 (h3.2.1 (i,C) (by simp) (Js hoj hnot) hC) ?_
      · refine hfree k ok hk hki ?_ hno
        by_cases hjk:j=k
        · subst hjk;exact hjun
        · rw [getD_set_ne true hjk] at hun;exact hun
      · rw [Array.setIfInBounds_comm _ _ hji];exact h3.2.2
end
def AW (P:Program) (n:Nat) (ops:Array Oper) (Q:lT) (fuel:Nat) (E:pV) (listed:Array Bool) (e:Env) (w:World):Prop:=∀ a,Is a n e→sV P ops (lift n Q) fuel E listed a w
def kP (ops:Array Oper) (listed:Array Bool) (i:Nat):Bool:=Region.noSelect ops&&Region.free .any ops listed i&&(Region.ready .any ops listed).contains i
section
variable {P:Program} {n:Nat} {Q:lT} {e:Env} {w:World} {ops:Array Oper} {fuel:Nat} {E:pV} {listed:Array Bool} {i:Nat}
  {ty:TypeId} {pos:String} {aft:Array Edge} {d:Nat} {v:Value} {g:Option (Nat×Bool)}
theorem CW.draw {id:Nat} {l:List Oper} (hm:P.follows .mixedOrders=true) (h:AW P n l.toArray Q l.length [] (Array.replicate l.length false) e w.drew):CW P n (.region id l.toArray true) Q e w:=by
  intro a ha;refine wp_region_any hm (sV.any _ (E:=[]) ?_);rw [List.size_toArray];exact h a ha
theorem AW.take {op:Op} {C:World→Prop} (hi:ops[i]?=some ⟨some d,op,ty,pos,aft,g⟩) (hok:kP ops listed i=true) (hw:pP ops g e=true) (hd:Nat.ble (d+1) n=true)
    (hl:jV P (ev e) op C v) (hC:C w) (h:AW P n ops Q fuel ((i,C)::E) (listed.setIfInBounds i true) (lJ e d v) w):AW P n ops Q (fuel+1) E listed e w:=by
  intro a ha;unfold kP at hok;simp only [Rg] at hok;obtain ⟨⟨h1,h2⟩,h3⟩:=hok;refine sV.first (C:=C) (v:=v) hi (Region.noSelect_spec h1) (fun c a w hq=>hq.1.elim) fuel E listed a w (Region.free_spec hi h2) (by simpa using h3) (.inl ⟨?_,fun w' hw'=>?_⟩) hC (h _ (ha.put (Nat.le_of_ble_eq_true hd) v))
  · rw [xq ha];exact hw
  · rw [ha.eval];exact hl _ _ _ _ _ _ hw'
theorem AW.u {op:Op} (hi:ops[i]?=some ⟨some d,op,ty,pos,aft,g⟩) (hok:kP ops listed i=true) (hw:pP ops g e=true) (hd:Nat.ble (d+1) n=true)
    (hl:iM P (ev e) op v) (h:AW P n ops Q fuel E (listed.setIfInBounds i true) (lJ e d v) w):AW P n ops Q (fuel+1) E listed e w :=
  AW.take (C:=fun _=>True) hi hok hw hd (fun d ty pos aft g w _=>hl d ty pos aft g w) trivial fun a ha=>(h a ha).less _ fun p hp=>(List.mem_cons.1 hp).elim (fun h=>.inr fun _=>by subst h;trivial) .inl
theorem AW.no {op:Op} (hi:ops[i]?=some ⟨some d,op,ty,pos,aft,g⟩) (hok:kP ops listed i=true) (hw:pP ops g e=false) (hd:Nat.ble (d+1) n=true)
    (h:AW P n ops Q fuel E (listed.setIfInBounds i true) (lJ e d undef) w):AW P n ops Q (fuel+1) E listed e w:=by
  intro a ha;unfold kP at hok;simp only [Rg] at hok;obtain ⟨⟨h1,h2⟩,h3⟩:=hok
  refine sV.first (C:=fun _=>True) (v:=undef) hi (Region.noSelect_spec h1) (fun c a w hq=>hq.1.elim) fuel E listed a w (Region.free_spec hi h2) (by simpa using h3) (.inr ⟨?_,rfl⟩) trivial
    ((h _ (ha.put (Nat.le_of_ble_eq_true hd) undef)).less _ fun p hp=>(List.mem_cons.1 hp).elim (fun h=>.inr fun _=>by subst h;trivial) .inl)
  rw [xq ha];exact hw
def Fm:List Nat→(Nat→Prop)→Prop
  | [],_=>True
  | i::r,p=>p i∧Fm r p
theorem Fm.mem {p:Nat→Prop}:∀ {l:List Nat},Fm l p→∀ i,i ∈ l→p i
  | i::r,h,j,hj=>(List.mem_cons.1 hj).elim (fun e=>e ▸ h.1) (Fm.mem h.2 j)
def Kept (ops:Array Oper) (i:Nat) (E:pV) (w w':World):Prop:=∀ p,p ∈ E→waits ops i p.1=false→p.2 w→p.2 w'
def One (P:Program) (n:Nat) (ops:Array Oper) (Q:lT) (fuel:Nat) (E:pV) (listed:Array Bool) (e:Env) (w:World) (i:Nat):Prop :=
  ∃ o,ops[i]?=some o∧LW P n ops (fun x e' w'=>x=.normal∧Kept ops i E w w'∧AW P n ops Q fuel E (listed.setIfInBounds i true) e' w') [o] e w
theorem KP {o:Oper} {a:Act} {w:World} {K:Act→World→Prop} {Q Q':Exit→Act→World→Prop} (hp:∀ c a w,Q (.panic c) a w→Q' (.panic c) a w) (hl:LetsOut Q→LetsOut Q')
    (h:o.wp P a w K Q):o.wp P a w K Q':=by
  unfold Oper.wp at *;generalize (execOp a.eval o).run P w=r at *
  cases r with
  | ok x w' =>
    cases x<;>simp only [Oper.upon] at h ⊢<;>first
      | exact h
      | (refine Calls.mono h fun e w'' hh=>?_
         cases e with
         | returned v=>exact hh
         | panicked c=>exact hp _ _ _ hh
         | outgrown=>exact hl hh)
  | halt x w'=>cases x<;>simp only [Oper.upon] at h ⊢<;>first | exact h | exact hp _ _ _ h
theorem AW.all {rs:List Nat} (hr:Region.ready .any ops listed=rs) (hne:rs ≠ []) (h:Fm rs (One P n ops Q fuel E listed e w)):AW P n ops Q (fuel+1) E listed e w:=by
  intro a ha;refine ⟨fun h0=>absurd (hr ▸ h0) hne,fun j hj=>?_⟩;obtain ⟨o,ho,hL⟩:=h.mem j (hr ▸ hj);have h1:=hL a ha;unfold wpList at h1;unfold wpOp;rw [ho];simp only
  have hK:∀ (a':Act) (w':World),wpList P ops (lift n fun x e' w'=>x=.normal∧Kept ops j E w w'∧AW P n ops Q fuel E (listed.setIfInBounds j true) e' w') [] a' w' →
      (∀ p,p ∈ E→waits ops j p.1=false→p.2 w→p.2 w')∧sV P ops (lift n Q) fuel E (listed.setIfInBounds j true) a' w':=by
    rintro a' w' ⟨_,e',he',_,hk,hA⟩;exact ⟨hk,hA a' he'⟩
  split
  · rename_i hwt;rw [if_pos hwt] at h1
    rcases h1 with h1 | ⟨_,hq⟩
    · exact .inl (Oper.wp_mono hK (KP (fun c a w hq=>hq.1.elim) (fun hq=>by obtain ⟨a0,w0,hc,_⟩:=hq;exact hc.elim) h1))
    · obtain ⟨a0,w0,hc,_⟩:=hq;exact hc.elim
  · rename_i hwt;rw [if_neg hwt] at h1;exact hK _ _ h1
theorem AW.one (hr:Region.ready .any ops listed=[i]) (h:One P n ops Q fuel E listed e w i):AW P n ops Q (fuel+1) E listed e w:=AW.all hr (by simp) ⟨h,trivial⟩
theorem AW.done (hr:Region.ready .any ops listed=[]) (h:Q .normal e w):AW P n ops Q fuel E listed e w:=by
  intro a ha
  cases fuel with
  | zero=>exact ⟨hr,trivial,e,ha,h⟩
  | succ f=>exact ⟨fun _=>⟨trivial,e,ha,h⟩,by rw [hr];simp⟩
end
end Go.Kx
namespace Go.Kx
open Go Go.RowKit
set_option linter.unusedVariables false
set_option linter.unusedSimpArgs false
def iter {σ ρ:Type} (body:σ→Option (σ⊕ρ)):Nat→σ→Option ρ
  | 0,_=>none
  | n+1,s=>(body s).bind fun o=>match o with
    | .inl s'=>iter body n s'
    | .inr r=>some r
theorem xh {α β:Type} {x:Option α} {f:α→Option β} {b:β} (h:x.bind f=some b):∃ a,x=some a∧f a=some b:=Option.bind_eq_some_iff.1 h
theorem QI {α:Type} {c:Bool} {a b:Option α} {r:α} (h:(bif c then a else b)=some r) (hc:c=true):a=some r:=by subst hc;exact h
theorem QL {α:Type} {c:Bool} {a b:Option α} {r:α} (h:(bif c then a else b)=some r) (hc:c=false):b=some r:=by subst hc;exact h
section
variable {P:Program} {n:Nat} {e:Env} {w:World}
theorem CW.iter {σ ρ:Type} {c:Code} {body:σ→Option (σ⊕ρ)} (R:σ→Env→World→Prop) (Q:ρ→lT)
    (hb:∀ (s:σ) (e:Env) (w:World) (o:σ⊕ρ),R s e w→body s=some o→CW P n c (fun x e' w'=>match o with
      | .inl s'=>x=.normal∧R s' e' w'
      | .inr r=>(match x with | .normal=>False | _=>True)∧Q r x e' w') e w)
    (N:Nat) (s:σ) (e:Env) (w:World) (r:ρ) (hR:R s e w) (h:Kx.iter body N s=some r):CW P n (.loop c) (Q r) e w:=by
  have key:∀ (N:Nat) (s:σ) (e:Env) (w:World),R s e w→Kx.iter body N s=some r→∀ a,Is a n e→Code.rounds P c (lift n (Q r)) N a w:=by
    intro N
    induction N with
    | zero=>intro s e w _ h;cases h
    | succ N ih =>
      intro s e w hR h a ha;obtain ⟨o,ho,h2⟩:=xh h;rw [rounds_succ];refine Code.wp_mono ?_ (hb s e w o hR ho a ha);rintro x a' w' ⟨hc,e',he',hq⟩
      cases o with
      | inl s' =>
        obtain ⟨rfl,hR'⟩:=hq;exact ih s' e' w' hR' h2 a' he'
      | inr r' =>
        cases h2
        cases x with
        | normal=>exact hq.1.elim
        | _=>exact ⟨hc,e',he',hq.2⟩
  exact fun a ha=>wp_loop_rounds N (key N s e w hR h a ha)
def DJ (args:Array Value):Env:=fun i=>args.getD i undef
def iq (P:Program) (e:Env) (w:World):ResultVar→Value→Prop
  | .tmp t,v=>e t=v
  | .cell a T,v=>∃ ad,e a=.pointer (some ad)∧(loadVar T ad).run P w=.ok v w
def lk (P:Program) (rs:Array ResultVar) (e:Env) (w:World) (v:Value):Prop:=∀ (fn:Func) (tmps:Array Value),fn.results=rs→(∀ i,tmps.getD i undef=e i)→(results fn tmps).run P w=.ok v w
def A4 (tmps:Array Value):ResultVar→Sem Value
  | .tmp t=>pure (tmps.getD t undef)
  | .cell a t=>do loadVar t (← asAddr (tmps.getD a undef))
theorem uO (fn:Func) (tmps:Array Value):results fn tmps=(do
    let vs ← fn.results.mapM (A4 tmps)
    pure (if h:vs.size=1 then vs[0] else .tuple vs)):=by
  unfold results;congr 2
theorem qY {tmps:Array Value} (h2:∀ i,tmps.getD i undef=e i) {r:ResultVar} {v:Value} (h:iq P e w r v):(A4 tmps r).run P w=.ok v w:=by
  cases r with
  | tmp t=>rw [← (show e t=v from h), ← h2 t];simp [A4]
  | cell a t =>
    obtain ⟨ad,h1,h3⟩:=h;rw [← h2 a] at h1;simp only [A4,h1,asAddr];simpa using h3
theorem lk.zero:lk P #[] e w (.tuple #[]):=fun fn tmps h1 h2=>by simp [uO,h1]
theorem lk.one {r:ResultVar} {v:Value} (h:iq P e w r v):lk P #[r] e w v:=fun fn tmps h1 h2=>by
  have:=qY h2 h;simp [uO,h1,this]
theorem lk.two {r s:ResultVar} {u v:Value} (h:iq P e w r u) (k:iq P e w s v):lk P #[r,s] e w (.tuple #[u,v]):=fun fn tmps h1 h2=>by
  have:=qY h2 h;have:=qY h2 k;simp [uO,h1, *]
theorem lk.three {r s t:ResultVar} {u v x:Value} (h:iq P e w r u) (k:iq P e w s v) (l:iq P e w t x):lk P #[r,s,t] e w (.tuple #[u,v,x]):=fun fn tmps h1 h2=>by
  have:=qY h2 h;have:=qY h2 k;have:=qY h2 l;simp [uO,h1, *]
theorem lk.four {r s t q:ResultVar} {u v x y:Value} (h:iq P e w r u) (k:iq P e w s v) (l:iq P e w t x) (m:iq P e w q y):lk P #[r,s,t,q] e w (.tuple #[u,v,x,y]):=fun fn tmps h1 h2=>by
  have:=qY h2 h;have:=qY h2 k;have:=qY h2 l;have:=qY h2 m;simp [uO,h1, *]
theorem iq.t {t:Nat} {v:Value} (h:e t=v):iq P e w (.tmp t) v:=h
theorem iq.b {w0:World} {F0:List Nat} {L:List Item} {a T:Nat} {m g:Nat} {bt:TypeId} {cs:List Value} (hS:St w0 F0 w L) (i:Nat) (hi:L[i]?=some (bx g bt cs)) (ht:jH P T=some (some m)) (ha:e a=.pointer (some ⟨g,0,none⟩)) (hm:cs.length=m):iq P e w (.cell a T) (.agg cs.toArray):=by
  have hl:=jV.agg (P:=P) (ρ:=ev e) (x:=.tmp a) (o:=0) (cs:=cs) ht ha hm;refine ⟨_,ha,?_⟩;have h1:=hl none 0 "" #[] none w (fun j u hu=>by rw [cell_of_row w g _ cs.toArray bt (0,0) (St.cell (h:=hS) hi)];simpa using hu);have ha':ev e (.tmp a)=.pointer (some ⟨g,0,none⟩):=ha;simp only [execOp,Instr.loadAt,ha',Instr.sureAddr] at h1
  cases hr:(loadVar T ⟨g,0,none⟩).run P w with
  | ok v w'=>simp [hr] at h1;obtain ⟨h2,h3⟩:=h1;subst h2;subst h3;rfl
  | halt x w'=>simp [hr] at h1
theorem g8.of {f:FuncId} {fn:Func} {c:Code} {args:Array Value} {K:Value→World→Prop} (hf:P.funcs[f]?=some fn) (hb:fn.body=some c) (hn:fn.ntmps=n) (ha:Nat.ble args.size n=true)
    (h:CW P n c (fun x e' w'=>(match x with | .ret=>True | .normal=>True | _=>False)∧∃ v,lk P fn.results e' w' v∧K v w') (DJ args) w):g8 P f args w K:=by
  have ha:=Nat.le_of_ble_eq_true ha;refine calls_of_wp hf hb (Code.wp_mono ?_ (h _ ⟨rfl,?_,fun i=>?_⟩))
  · rintro x a w' ⟨hc,e',he',hx,v,hr,hk⟩;have hres:=hr fn a.tmps rfl he'.get
    cases x with
    | normal=>exact ⟨he'.defers,v,hres,hk⟩
    | ret=>exact ⟨he'.defers,v,hres,hk⟩
    | _=>exact hx.elim
  · simp [hn];omega
  · unfold DJ;simp only [Array.getD_eq_getD_getElem?,Array.getElem?_append];split
    · rfl
    · rename_i hi;rw [Array.getElem?_eq_none (xs:=args) (by omega)]
      by_cases hj:i - args.size<fn.ntmps - args.size
      · rw [Array.getElem?_replicate,if_pos hj];rfl
      · rw [Array.getElem?_replicate,if_neg hj]
end
theorem iP.nn {α:Type} [ia α] {M:List Item} {w:World} {F:List Nat} {S:Nat→Prop} (h:iP M w F) (i:Nat) {a:Option Addr} {c:Nat} {l:List α} (hi:M[i]?=some (sl a c l)) (hS:∀ b,b ∈ F→S b):iV S w a c l:=by
  obtain ⟨Fi,q1,q2⟩:=h.at_ i hi;exact nB.rd q1 fun b hb=>hS b (q2 b hb)
def dz (b:Int):Option Unit:=if b=0 then none else some ()
theorem DI {b:Int} {u:Unit} (h:dz b=some u):b ≠ 0:=by unfold dz at h;split at h<;>simp_all
theorem BA {w:World} {b o:Nat} {cs:List Value} (h:∀ (j:Nat) (u:Value),cs[j]?=some u→w.cell? ⟨b,o+j,none⟩=some u) (k:Nat) {m j:Nat} {u:Value} (hu:((cs.drop k).take m)[j]?=some u):w.cell? ⟨b,o+k+j,none⟩=some u:=by
  rw [List.getElem?_take] at hu;split at hu
  · rw [List.getElem?_drop] at hu;rw [Nat.add_assoc];exact h _ u hu
  · cases hu
theorem iv {α:Type} {l y:List α} {k:Nat} {x:α} (h:l.set k x=y):l.length=y.length:=by rw [← h,List.length_set]
section
variable {P:Program} {w0 w:World} {F0:List Nat} {L:List Item} {α:Type} [ia α]
theorem St.rB {a:Option Addr} {c:Nat} {l:List α} (h:St w0 F0 w L) (hr:iV (ki w0 F0) w0 a c l):iV (ki w []) w a c l :=
  (h.Pu hr).mono fun b hb=>⟨Nat.lt_of_lt_of_le hb.1 h.size,by simp⟩
theorem St.rI {a:Option Addr} {c:Nat} {l:List α} (h:St w0 F0 w L) (i:Nat) (hi:L[i]?=some (sl a c l)):iV (ki w []) w a c l:=by
  obtain ⟨F,hF,_,hb⟩:=h.own;obtain ⟨Fi,q,q2⟩:=hF.at_ i hi;exact nB.rd q fun b hbm=>⟨(hb b (q2 b hbm)).2,by simp⟩
theorem St.nil (h:St w0 F0 w L):St w0 F0 w (sl none 0 ([]:List α)::L):=by
  obtain ⟨F,hF,hn,hb⟩:=h.own;exact ⟨h.os,h.tape,h.output,h.size,h.same,F,⟨[],F,rfl,.inl ⟨rfl,rfl,rfl,rfl⟩,hF⟩,hn,hb⟩
def m5 {β:Type} (L:List β):List Nat→Option (List β)
  | []=>some []
  | i::r=>match L[i]?,m5 L r with
    | some x,some m=>some (x::m)
    | _,_=>none
def qJ:List Nat→Bool
  | []=>true
  | i::r=>(r.all fun j=>!Nat.beq i j)&&qJ r
theorem iP.parts:∀ {L:List Item} {w:World} {F:List Nat},iP L w F→F.Nodup→∃ G:Nat→List Nat,
    (∀ (i:Nat) (it:Item),L[i]?=some it→it.p w (G i)∧(G i).Nodup∧∀ b,b ∈ G i→b ∈ F)∧∀ (i j:Nat),i ≠ j→i<L.length→j<L.length→∀ b,b ∈ G i→b ∉ G j
  | [],w,F,_,_=>⟨fun _=>[],fun i it h=>by simp at h,fun i j _ h=>by simp at h⟩
  | x::L,w,F,⟨F1,F2,hF,h1,h2⟩,hn=>by
    subst hF;obtain ⟨n1,n2,nd⟩:=List.nodup_append.1 hn;obtain ⟨G,g1,g2⟩:=iP.parts h2 n2;have gin:∀ (i:Nat),i<L.length→∀ b,b ∈ G i→b ∈ F2:=fun i hi b hb=>(g1 i _ (List.getElem?_eq_getElem hi)).2.2 b hb;refine ⟨fun i=>match i with | 0=>F1 | i+1=>G i,fun i it hi=>?_,fun i j hij hi hj b hb=>?_⟩
    · cases i with
      | zero=>simp at hi;subst hi;exact ⟨h1,n1,fun b hb=>List.mem_append_left _ hb⟩
      | succ i =>
        obtain ⟨q1,q2,q3⟩:=g1 i it (by simpa using hi);exact ⟨q1,q2,fun b hb=>List.mem_append_right _ (q3 b hb)⟩
    · cases i with
      | zero =>
        cases j with
        | zero=>exact absurd rfl hij
        | succ j=>exact fun hb2=>nd b hb b (gin j (by simpa using hj) b hb2) rfl
      | succ i =>
        cases j with
        | zero=>exact fun hb2=>nd b hb2 b (gin i (by simpa using hi) b hb) rfl
        | succ j=>exact g2 i j (fun e=>hij (by rw [e])) (by simpa using hi) (by simpa using hj) b hb
theorem St.pick (is:List Nat) {M:List Item} (h:St w0 F0 w L) (hp:m5 L is=some M) (hn:qJ is=true):St w0 F0 w M:=by
  obtain ⟨F,hF,hnd,hb⟩:=h.own;obtain ⟨G,g1,g2⟩:=hF.parts hnd
  have key:∀ (is:List Nat) (M:List Item),m5 L is=some M→qJ is=true→∃ F',iP M w F'∧F'.Nodup∧(∀ b,b ∈ F'→b ∈ F)∧(∀ b,b ∈ F'→∃ i,i ∈ is∧i<L.length∧b ∈ G i):=by
    intro is
    induction is with
    | nil =>
      intro M hp _;cases hp;exact ⟨[],rfl,List.nodup_nil,by simp,by simp⟩
    | cons i r ih =>
      intro M hp hn;simp only [qJ,Rg,List.all_eq_true] at hn;simp only [m5] at hp;split at hp
      · rename_i x m hx hm;cases hp;obtain ⟨F',q1,q2,q3,q4⟩:=ih m hm hn.2;obtain ⟨p1,p2,p3⟩:=g1 i x hx;have hlt:=iU hx;refine ⟨G i++F',⟨G i,F',rfl,p1,q1⟩,List.nodup_append.2 ⟨p2,q2,fun a ha b hb e=>?_⟩,fun b hb=>?_,fun b hb=>?_⟩
        · subst e;obtain ⟨j,hj,hjl,hja⟩:=q4 a hb
          have hne:i ≠ j:=by
            rintro rfl;have:=hn.1 i hj;simp at this
          exact g2 i j hne hlt hjl a ha hja
        · rcases List.mem_append.1 hb with h | h
          · exact p3 b h
          · exact q3 b h
        · rcases List.mem_append.1 hb with h | h
          · exact ⟨i,by simp,hlt,h⟩
          · obtain ⟨j,hj,hjl,hja⟩:=q4 b h;exact ⟨j,by simp [hj],hjl,hja⟩
      · cases hp
  obtain ⟨F',q1,q2,q3,_⟩:=key is M hp hn;exact ⟨h.os,h.tape,h.output,h.size,h.same,F',q1,q2,fun b hbm=>hb b (q3 b hbm)⟩
end
theorem CW.cut {P:Program} {n:Nat} {c:Code} {Q:lT} {e:Env} {w:World} (M:Env→World→Prop) (h1:CW P n c (zZ M Q) e w) (h2:∀ e w,M e w→Q .normal e w):CW P n c Q e w :=
  h1.mono fun x e w hq=>by cases x<;>first | exact h2 _ _ hq | exact hq
def fz (w1:World) (F:List Nat):Item:=⟨fun w G=>G=F∧∀ b,b ∈ F→w.heap[b]?=w1.heap[b]?,fun w w' G h hb=>⟨h.1,fun b hm=>(hb b (h.1 ▸ hm)).trans (h.2 b hm)⟩⟩
section
variable {P:Program} {w0 w w1:World} {F0 F:List Nat} {L:List Item} {α:Type} [ia α]
theorem St.freeze {a:Option Addr} {c:Nat} {l:List α} (h:St w0 F0 w L) (i:Nat) (hi:L[i]?=some (sl a c l)):∃ F,nB w a c F l∧St w0 F0 w (L.set i (fz w F)):=by
  have h':St w0 F0 w ([sl a c l]++L.eraseIdx i):=h.front i hi;obtain ⟨F,hF,hn,hlt,_,_,hm⟩:=h'.share;obtain ⟨F1,F2,rfl,q1,q2⟩:=hF;cases (show F2=[] from q2);rw [List.append_nil] at hn hlt hm;exact ⟨F1,q1,(hm w [fz w F1] (St.init ⟨F1,[],by simp,⟨rfl,fun _ _=>rfl⟩,rfl⟩ hn hlt)).perm (eraseIdx_set L i _ (iU hi))⟩
theorem St.iJ {a:Option Addr} {c:Nat} {l:List α} (h:St w0 F0 w L) (i:Nat) (hi:L[i]?=some (fz w1 F)) (ho:nB w1 a c F l):St w0 F0 w (L.set i (sl a c l)) :=
  h.setAt hi fun G hG hn hlt=>by
    obtain ⟨rfl,hb⟩:=hG;exact St.init ⟨G,[],by simp,ho.frame hb,rfl⟩ hn hlt
theorem St.zC (h:St w0 F0 w L) (i:Nat) (hi:L[i]?=some (fz w1 F)) {b:Nat} (hb:b ∈ F):w.heap[b]?=w1.heap[b]?:=by
  obtain ⟨G,hG,_,_⟩:=h.own;obtain ⟨Fi,q,_⟩:=hG.at_ i hi;exact q.2 b hb
theorem St.rZ {a:Option Addr} {c:Nat} {l:List α} (h:St w0 F0 w L) (i:Nat) (hi:L[i]?=some (fz w1 F)) (hr:iV (fun b=>b ∈ F) w1 a c l):iV (ki w []) w a c l:=by
  obtain ⟨G,hG,_,hb⟩:=h.own;obtain ⟨Fi,q,q2⟩:=hG.at_ i hi;obtain ⟨rfl,q3⟩:=q;exact (hr.lE fun b hm=>q3 b hm).mono fun b hm=>⟨(hb b (q2 b hm)).2,by simp⟩
theorem nB.j5 {a:Option Addr} {c:Nat} {l:List α} (h:nB w1 a c F l):iV (fun b=>b ∈ F) w1 a c l:=h.rd fun b hb=>hb
end
theorem whole {α:Type} [ia α] {M:List Item} {vs:List Value} {z y:α} (h:∀ (w:World) (G:List Nat),iP M w G→ia.own w vs G y) :
    ∀ (w:World) (cs:List Value) (F G:List Nat),ia.own w cs F z→iP M w G→∃ F',ia.own w (cs.take 0++vs++cs.drop (0+vs.length)) F' y∧(∀ b,b ∈ F'→b ∈ F∨b ∈ G)∧(F.Nodup→G.Nodup→(∀ b,b ∈ F→b ∉ G)→F'.Nodup):=by
  intro w cs F G hF hG;have h1:=h w G hG
  have e:cs.take 0++vs++cs.drop (0+vs.length)=vs:=by
    rw [List.drop_eq_nil_of_le (by rw [ia.jc h1,ia.jc hF];omega)];simp
  exact ⟨G,by rw [e];exact h1,fun b hb=>.inr hb,fun _ hn _=>hn⟩
theorem kR {α:Type} [ia α] {o:Nat} {vs:List Value} {z y:α} (h:∀ (w:World) (cs:List Value) (F:List Nat),ia.own w cs F z→ia.own w (cs.take o++vs++cs.drop (o+vs.length)) F y) :
    ∀ (w:World) (cs:List Value) (F G:List Nat),ia.own w cs F z→iP [] w G→∃ F',ia.own w (cs.take o++vs++cs.drop (o+vs.length)) F' y∧(∀ b,b ∈ F'→b ∈ F∨b ∈ G)∧(F.Nodup→G.Nodup→(∀ b,b ∈ F→b ∉ G)→F'.Nodup) :=
  fun w cs F G hF _=>⟨F,h w cs F hF,fun b hb=>.inl hb,fun hn _ _=>hn⟩
theorem Kept.n {ops:Array Oper} {i:Nat} {w w':World}:Kept ops i [] w w':=fun p hp=>by cases hp
theorem Kept.c {ops:Array Oper} {i j:Nat} {C:World→Prop} {E:pV} {w w':World} (h:C w') (k:Kept ops i E w w'):Kept ops i ((j,C)::E) w w':=fun p hp hw hc=>by
  rcases List.mem_cons.1 hp with rfl | hp
  · exact h
  · exact k p hp hw hc
theorem Kept.w {ops:Array Oper} {i j:Nat} {C:World→Prop} {E:pV} {w w':World} (h:waits ops i j=true) (k:Kept ops i E w w'):Kept ops i ((j,C)::E) w w':=fun p hp hw hc=>by
  rcases List.mem_cons.1 hp with rfl | hp
  · rw [h] at hw;cases hw
  · exact k p hp hw hc
section
variable {P:Program} {n:Nat} {t:TypeId} {xs ys:Array Value} {u v a b:Value} {r q:Bool}
def sQ (P:Program) (n:Nat) (t:TypeId) (u v:Value) (r:Bool):Prop:=∀ (d:Nat) (w:World),(Op.equalIn (d+n+1) t u v).run P w=.ok r w
def uA (P:Program) (n:Nat) (xs ys:Array Value) (fs:List Field) (r:Bool):Prop:=∀ (d:Nat) (w:World),(Op.eqFields (d+n+1) xs ys fs).run P w=.ok r w
theorem sQ.int {k k':IntKind} {x y:Int} (h:P.underlying t=some (.int k')):sQ P n t (.int k x) (.int k y) (x==y):=fun _ w=>run_equalIn_int w _ t k k' x y h
theorem sQ.bool {x y:Bool} (h:P.underlying t=some .bool):sQ P n t (.bool x) (.bool y) (x==y):=fun _ w=>run_equalIn_bool' w _ t x y h
theorem sQ.agg {fs:Array Field} (h:P.underlying t=some (.struct fs)) (hp:P.stoodInHeld t=false) (hf:uA P n xs ys fs.toList r):sQ P (n+1) t (.agg xs) (.agg ys) r:=fun d w=>by
  have e:P.fieldsOf t=fs:=by simp [Program.fieldsOf,h]
  have:=run_equalIn_agg (P:=P) w (d+n+1) t xs ys (by rw [e];exact h) hp;rw [e,hf d w] at this;exact this
theorem uA.nil:uA P n xs ys [] true:=fun _ _=>rfl
theorem uA.one {f:Field} {fs:List Field} (hn:(f.name=="_")=false) (ha:jH P f.type=some none) (hx:xf xs.toList f.offset=some a) (hy:xf ys.toList f.offset=some b) (h:sQ P n f.type a b r)
    (h2:uA P n xs ys fs q):uA P n xs ys (f::fs) (r&&q):=fun d w=>by
  have hx:xs[f.offset]?=some a:=by rw [yT] at hx;simpa using hx
  have hy:ys[f.offset]?=some b:=by rw [yT] at hy;simpa using hy
  have hn:f.name ≠ "_":=by simpa using hn
  have:=h d w;have:=h2 d w;cases r<;>simp_all [Op.eqFields,part,(qo (w:=w) ha).1]
theorem uA.more {f:Field} {fs:List Field} {m:Nat} (hn:(f.name=="_")=false) (ha:jH P f.type=some (some m))
    (h:sQ P n f.type (.agg (xs.extract f.offset (f.offset+m))) (.agg (ys.extract f.offset (f.offset+m))) r) (h2:uA P n xs ys fs q):uA P n xs ys (f::fs) (r&&q):=fun d w=>by
  have hn:f.name ≠ "_":=by simpa using hn
  have:=h d w;have:=h2 d w;have h3:=qo (w:=w) ha;cases r<;>simp_all [Op.eqFields,part]
theorem sQ.top {p:Prop} [Decidable p] (h:sQ P n t u v r) (hn:n<10000) (hp:r=decide p) (w:World):(Op.equalIn 10000 t u v).run P w=.ok (decide p) w:=by
  have h:=h (10000 - n - 1) w;rw [show 10000 - n - 1+n+1=10000 from by omega,hp] at h;exact h
end
theorem CW.fresh {P:Program} {n:Nat} {c:Code} {Q:lT} {e:Env} {w:World} {l:List (Nat×Value)} (h:En e l) (k:∀ e',CW P n c Q (iy e' l) w):CW P n c Q e w:=by
  obtain ⟨e',rfl⟩:=h.out;exact k e'
theorem LW.fresh {P:Program} {n:Nat} {oa:Array Oper} {ops:List Oper} {Q:lT} {e:Env} {w:World} {l:List (Nat×Value)} (h:En e l) (k:∀ e',LW P n oa Q ops (iy e' l) w):LW P n oa Q ops e w:=by
  obtain ⟨e',rfl⟩:=h.out;exact k e'
theorem AW.fresh {P:Program} {n:Nat} {ops:Array Oper} {Q:lT} {f:Nat} {E:pV} {li:Array Bool} {e:Env} {w:World} {l:List (Nat×Value)} (h:En e l) (k:∀ e',AW P n ops Q f E li (iy e' l) w):AW P n ops Q f E li e w:=by
  obtain ⟨e',rfl⟩:=h.out;exact k e'
end Go.Kx
namespace Go.Kx
open Go Go.RowKit
set_option linter.unusedVariables false
set_option linter.unusedSimpArgs false
section
variable {P:Program} {w0 w w1:World} {F0 F:List Nat} {L M:List Item} {α:Type} [ia α]
structure oT (w0:World) (F0:List Nat) (w:World) (L M:List Item) (F:List Nat):Prop where
  st:St w F w L
  P3:∀ b,ki w0 F0 b→ki w F b∧w.heap[b]?=w0.heap[b]?
  rest:∀ (i:Nat) (it:Item),M[i]?=some it→∃ Fi,it.p w Fi∧∀ b,b ∈ Fi→ki w F b
  back:∀ w' L',St w F w' L'→St w0 F0 w' (L'++M)
theorem St.Pb (h:St w0 F0 w (L++M)):∃ F,oT w0 F0 w L M F:=by
  obtain ⟨F,h1,h2,h3,h4,h5,h6⟩:=h.share;exact ⟨F,⟨St.init h1 h2 h3,fun b hb=>⟨h4 b hb,h.same b hb.1 hb.2⟩,h5,h6⟩⟩
theorem oT.rB {a:Option Addr} {c:Nat} {l:List α} (h:oT w0 F0 w L M F) (hr:iV (ki w0 F0) w0 a c l):iV (ki w F) w a c l :=
  (hr.lE fun b hb=>(h.P3 b hb).2).mono fun b hb=>(h.P3 b hb).1
theorem oT.rI {a:Option Addr} {c:Nat} {l:List α} (h:oT w0 F0 w L M F) (i:Nat) (hi:M[i]?=some (sl a c l)):iV (ki w F) w a c l:=by
  obtain ⟨Fi,q,q2⟩:=h.rest i _ hi;exact nB.rd q q2
theorem oT.rZ {Fz:List Nat} {a:Option Addr} {c:Nat} {l:List α} (h:oT w0 F0 w L M F) (i:Nat) (hi:M[i]?=some (fz w1 Fz)) (hr:iV (fun b=>b ∈ Fz) w1 a c l):iV (ki w F) w a c l:=by
  obtain ⟨Fi,q,q2⟩:=h.rest i _ hi;obtain ⟨rfl,q3⟩:=q;exact (hr.lE fun b hm=>q3 b hm).mono fun b hm=>q2 b hm
def hole (α:Type) [ia α] (a:Option Addr) (c:Nat) (l:List α) (k:Nat) (cs:List Value):Item :=
  ⟨fun w F=>∃ g o cur G0 G2 c0 c2,a=some ⟨g,o,none⟩∧w.heap[g]?=some (.cells cur (ia.ty α) (0,0))∧o+c * ia.sz α≤cur.size∧l.length≤c∧c≤maxLen∧F=g::(G0++G2) ∧
      cur.toList.drop o=c0++(cs++c2)∧c0.length=k * ia.sz α∧cs.length=ia.sz α∧k<l.length∧o≤cur.size ∧
      ∀ (w':World) (d1:List Value) (G1:List Nat) (y:α),ia.own w' d1 G1 y→(∀ b,b ∈ G0++G2→w'.heap[b]?=w.heap[b]?)→kt w' (c0++(d1++c2)) (G0++(G1++G2)) (l.set k y),
   by
    rintro w w' F ⟨g,o,cur,G0,G2,c0,c2,ha,hg,h1,h2,h3,rfl,h4,h5,h6,h7,h8,h9⟩ hb
    exact ⟨g,o,cur,G0,G2,c0,c2,ha,(hb g (by simp)).trans hg,h1,h2,h3,rfl,h4,h5,h6,h7,h8,
      fun w'' d1 G1 y hy hh=>h9 w'' d1 G1 y hy fun b hm=>(hh b hm).trans (hb b (List.mem_cons_of_mem _ hm))⟩⟩
theorem KN {c1 cs:List Value} {f:Nat→Option Value} (hl:c1.length=cs.length) (h1:∀ j u,c1[j]?=some u→f j=some u) (h2:∀ j u,cs[j]?=some u→f j=some u):c1=cs:=by
  apply List.ext_getElem?;intro j
  by_cases hj:j<c1.length
  · have a1:=h1 j _ (List.getElem?_eq_getElem hj);have a2:=h2 j _ (List.getElem?_eq_getElem (hl ▸ hj));rw [List.getElem?_eq_getElem hj,List.getElem?_eq_getElem (hl ▸ hj)];exact a1.symm.trans a2
  · rw [List.getElem?_eq_none (by omega),List.getElem?_eq_none (by omega)]
theorem St.Ls {w0 w:World} {F0:List Nat} {L M:List Item} {i:Nat} {y:Item} (h:St w0 F0 w ((M++[y])++L.eraseIdx i)) (hi:i<L.length):St w0 F0 w (M++L.set i y) :=
  h.perm (by rw [List.append_assoc];exact (eraseIdx_set L i y hi).append_left M)
theorem St.focus {c b o:Nat} {l:List α} {k:Int} {x:α} {cs:List Value} (h:St w0 F0 w L) (i:Nat) (hi:L[i]?=some (sl (some ⟨b,o,none⟩) c l)) (hx:idx l k=some x) (hl:cs.length=ia.sz α)
    (hcs:∀ (j:Nat) (u:Value),cs[j]?=some u→w.cell? ⟨b,o+k.toNat * ia.sz α+j,none⟩=some u) :
    ∃ Fx,ia.own w cs Fx x∧∀ M,iP M w Fx→St w0 F0 w (M++L.set i (hole α (some ⟨b,o,none⟩) c l k.toNat cs)):=by
  obtain ⟨Fi,ho,hS⟩:=h.freeze i hi;unfold Kx.idx at hx;split at hx
  case isFalse=>cases hx
  case isTrue h0 =>
  have hlt:=iU hx
  rcases ho with ⟨_,_,rfl,_⟩ | ⟨g,o',cur,F',ha,hg,hs,h1,h2,hF,he⟩
  · simp at hlt
  · cases ha;obtain ⟨c0,c1,c2,G0,G1,G2,hc,rfl,hl0,q1,q2⟩:=he.set k.toNat hx;have hl1:=ia.jc q1
    have e:c1=cs:=by
      refine KN (f:=fun j=>w.cell? ⟨b,o+k.toNat * ia.sz α+j,none⟩) (hl1.trans hl.symm) (fun j u hu=>?_) hcs;have hj:j<c1.length:=iU hu
      show w.cell? _=_
      rw [cell_of_row w b _ cur _ (0,0) hg,Nat.add_assoc]
      have:(cur.toList.drop o)[k.toNat * ia.sz α+j]?=some u:=by
        rw [hc,List.getElem?_append_right (by omega),hl0,Nat.add_sub_cancel_left,List.getElem?_append_left hj];exact hu
      rw [List.getElem?_drop] at this;simpa using this
    subst e
    have hoc:o≤cur.size:=by omega
    refine ⟨G1,q1,fun M hM=>St.Ls (St.head (x:=fz w Fi) (M:=M++[_]) (hS.front i (by rw [List.getElem?_set_self (iU hi)])) fun G hG hn hlt2=>?_ ) (by simpa using iU hi) |> fun q=>by simpa using q⟩;obtain ⟨rfl,_⟩:=hG;subst hF;obtain ⟨hgn,hnd⟩:=List.nodup_cons.1 hn;obtain ⟨n0,n12,d0⟩:=List.nodup_append.1 hnd;obtain ⟨n1,n2,d12⟩:=List.nodup_append.1 n12;refine ⟨rfl,rfl,rfl,Nat.le_refl _,fun _ _ _=>rfl,G1++(b::(G0++G2)),iP.append.2 ⟨G1,_,rfl,hM,_,[],by simp,⟨b,o,cur,G0,G2,c0,c2,rfl,hg,hs,h1,h2,rfl,hc,hl0,hl,hlt,hoc,q2⟩,rfl⟩,?_,?_⟩
    · refine List.nodup_append.2 ⟨n1,List.nodup_cons.2 ⟨fun hm=>hgn ?_,List.nodup_append.2 ⟨n0,n2,fun a ha d hd e=>d0 a ha d (List.mem_append_right _ hd) e⟩⟩,fun a ha d hd e=>?_⟩
      · rcases List.mem_append.1 hm with q | q<;>simp [q]
      · subst e
        rcases List.mem_cons.1 hd with rfl | hd
        · exact hgn (by simp [ha])
        · rcases List.mem_append.1 hd with q | q
          · exact d0 a q a (List.mem_append_left _ ha) rfl
          · exact d12 a ha a q rfl
    · intro d hd
      have:d ∈ b::(G0++(G1++G2)):=by
        simp only [List.mem_append,List.mem_cons] at hd ⊢
        rcases hd with q | q | q | q<;>simp [q]
      exact ⟨.inl this,hlt2 d this⟩
theorem St.yi {b o c k:Nat} {l:List α} {cs:List Value} (h:St w0 F0 w L) (i:Nat) (hi:L[i]?=some (hole α (some ⟨b,o,none⟩) c l k cs)) {j:Nat} {u:Value} (hu:cs[j]?=some u):w.cell? ⟨b,o+k * ia.sz α+j,none⟩=some u:=by
  obtain ⟨F,hF,_,_⟩:=h.own;obtain ⟨Fi,⟨g,o',cur,G0,G2,c0,c2,ha,hg,_,_,_,_,h4,h5,h6,_⟩,_⟩:=hF.at_ i hi;cases ha;have hj:=iU hu;rw [cell_of_row w b _ cur _ (0,0) hg,Nat.add_assoc]
  have:(cur.toList.drop o)[k * ia.sz α+j]?=some u:=by
    rw [h4,List.getElem?_append_right (by omega),h5,Nat.add_sub_cancel_left,List.getElem?_append_left hj];exact hu
  rw [List.getElem?_drop] at this;simpa using this
theorem St.Nn {a:Option Addr} {c k:Nat} {l:List α} {cs:List Value} {y:α} (h:St w0 F0 w (M++L)) (i:Nat) (hi:L[i]?=some (hole α a c l k cs)) (hM:∀ (w:World) (G:List Nat),iP M w G→ia.own w cs G y) :
    St w0 F0 w (L.set i (sl a c (l.set k y))):=by
  have h':St w0 F0 w ((M++[hole α a c l k cs])++L.eraseIdx i):=by
    refine h.perm ?_;rw [List.append_assoc];exact (v8 L i _ hi).append_left M
  obtain ⟨F,hF,hn,hlt,_,_,hm⟩:=h'.share;refine (hm w [sl a c (l.set k y)] ?_).perm (eraseIdx_set L i _ (iU hi));obtain ⟨F1,F2,rfl,q1,F3,F4,rfl,⟨g,o,cur,G0,G2,c0,c2,ha,hg,h1,h2,h3,rfl,h4,h5,h6,h7,h8,h9⟩,q4⟩:=iP.append.1 hF;cases (show F4=[] from q4);have hE:=h9 w cs F1 y (hM w F1 q1) (fun _ _=>rfl);rw [List.append_nil] at hn hlt ⊢;obtain ⟨n1,n2,nd⟩:=List.nodup_append.1 hn;obtain ⟨m1,m2⟩:=List.nodup_cons.1 n2;obtain ⟨k0,k2,kd⟩:=List.nodup_append.1 m2;refine ⟨rfl,rfl,rfl,Nat.le_refl _,fun _ _ _=>rfl,g::(G0++(F1++G2)),⟨g::(G0++(F1++G2)),[],(List.append_nil _).symm,.inr ⟨g,o,cur,_,ha,hg,h1,by simpa using h2,h3,rfl,?_⟩,rfl⟩,?_,?_⟩
  · rw [h4];exact hE
  · refine List.nodup_cons.2 ⟨fun hm=>?_,List.nodup_append.2 ⟨k0,List.nodup_append.2 ⟨n1,k2,fun p hp d hd e=>nd p hp d (by simp [hd]) e⟩,fun p hp d hd e=>?_⟩⟩
    · simp only [List.mem_append] at hm
      rcases hm with q | q | q
      · exact m1 (by simp [q])
      · exact nd g q g (by simp) rfl
      · exact m1 (by simp [q])
    · subst e
      rcases List.mem_append.1 hd with q | q
      · exact nd p q p (by simp [hp]) rfl
      · exact kd p hp p q rfl
  · intro d hd
    have:d ∈ F1++(g::(G0++G2)):=by
      simp only [List.mem_append,List.mem_cons] at hd ⊢
      rcases hd with q | q | q | q<;>simp [q]
    exact ⟨.inl this,hlt d this⟩
end
section
variable {P:Program} {w0 w w1:World} {F0 F:List Nat} {L M:List Item} {α:Type} [ia α]
variable {n:Nat} {Q:lT} {e:Env} {ops:Array Oper} {rest:List Oper} {ty:TypeId} {pos:String} {aft:Array Edge} {d:Nat} {v:Value}
theorem LW.z8 {t:TypeId} {x y:Operand} {av:Option Nat} {g o off j c k:Nat} {l:List α} {cs vs:List Value} (hS:St w0 F0 w L) (i:Nat) (hi:L[i]?=some (hole α (some ⟨g,o,none⟩) c l k cs)) (ht:jH P t=some av)
    (hx:ev e x=.pointer (some ⟨g,off,none⟩)) (hoff:off=o+k * ia.sz α+j) (hy:(ev e y).cells.toList=vs) (hm:vs.length=av.getD 1) (hl:Nat.ble (j+vs.length) cs.length=true) (h1:vs.all (·.oneCell')=true)
    (h:∀ w':World,St w0 F0 w' (L.set i (hole α (some ⟨g,o,none⟩) c l k (yE cs j vs)))→Fr w w' [g]→LW P n ops Q rest e w'):LW P n ops Q (⟨none,.store t x y,ty,pos,aft,none⟩::rest) e w:=by
  subst hoff;have hl:=Nat.le_of_ble_eq_true hl;obtain ⟨Fa,hFa,_,_⟩:=hS.own;obtain ⟨Fi,⟨g',o',cur,G0,G2,c0,c2,ha,hg,p1,p2,p3,rfl,p4,p5,p6,p7,p8,p9⟩,_⟩:=hFa.at_ i hi;cases ha
  have hlen:cur.size=o+(c0.length+(cs.length+c2.length)):=by
    have:=congrArg List.length p4;rw [List.length_drop,Array.length_toList] at this;simp only [List.length_append] at this;omega
  have hr:=run_storeCells_at P g (o+k * ia.sz α+j) (ia.ty α) vs 0 cur w hg (by omega) (fun u hu=>List.all_eq_true.1 h1 u hu);simp only [Nat.add_zero] at hr
  have hto:(cur.toList.take o).length=o:=by rw [List.length_take,Array.length_toList];omega
  have hcc:cur.toList=(cur.toList.take o++c0)++(cs++c2):=by rw [List.append_assoc, ← p4,List.take_append_drop]
  have hspl:cur.toList.take (o+k * ia.sz α+j)++vs++cur.toList.drop (o+k * ia.sz α+j+vs.length)=(cur.toList.take o++c0)++(yE cs j vs++c2):=by
    have hl0:(cur.toList.take o++c0).length=o+k * ia.sz α:=by rw [List.length_append,hto,p5]
    have:=HF (cur.toList.take o++c0) cs c2 vs j hl;rw [← hcc,hl0, ← AX cs j vs hl] at this;exact this
  have hsl:(yE cs j vs).length=cs.length:=by rw [AX cs j vs hl];simp;omega
  refine LW.Cc (w':=w.setRow g (cur.toList.take (o+k * ia.sz α+j)++vs++cur.toList.drop (o+k * ia.sz α+j+vs.length)).toArray) ?_ (h _ (hS.setAt hi fun G hG hn hlt=>?_) ⟨by simp,fun b _ hb=>setRow_other w g b _ (by simpa using hb)⟩)
  · have:=qo (w:=w) ht
    have hy2:(ev e y).cells.size=av.getD 1:=by rw [← hm, ← hy,Array.length_toList]
    simp [execOp,Instr.storeAt,Instr.sureAddr,hx,storeVar,hy,hy2,this.2,hr]
  · obtain ⟨g',o',cur',G0',G2',c0',c2',ha,hg',q1,q2,q3,rfl,q4,q5,q6,q7,q8,q9⟩:=hG;cases ha;rw [hg] at hg';cases hg';have hoth:∀ b,b ≠ g→(w.setRow g (cur.toList.take (o+k * ia.sz α+j)++vs++cur.toList.drop (o+k * ia.sz α+j+vs.length)).toArray).heap[b]?=w.heap[b]?:=fun b hb=>setRow_other w g b _ hb;obtain ⟨m1,m2⟩:=List.nodup_cons.1 hn
    have e1:c0=c0'∧c2=c2':=by
      rw [p4] at q4;have r1:=List.append_inj q4 (by omega);exact ⟨r1.1,(List.append_inj r1.2 rfl).2⟩
    obtain ⟨rfl,rfl⟩:=e1;refine ⟨rfl,rfl,rfl,by simp,fun b _ hno=>hoth b fun e=>hno (by simp [e]),g::(G0'++G2'),⟨_,[],by simp,⟨g,o,_,G0',G2',c0,c2,rfl,setRow_heap w g cur _ _ _ hg,?_,q2,q3,rfl,?_,p5,by omega,p7,?_,?_⟩,rfl⟩,hn,fun b hb=>⟨.inl hb,by simpa using hlt b hb⟩⟩
    · rw [hspl];simp [hto,hsl];omega
    · simp only [List.toList_toArray];rw [hspl,List.append_assoc];exact List.drop_left' hto
    · rw [hspl];simp [hto]
    · intro w'' d1 G1 y' hy' hb;exact q9 w'' d1 G1 y' hy' fun b hm=>(hb b hm).trans (hoth b fun e=>m1 (e ▸ hm))
def sub {α:Type} (l:List α) (i j:Int):Option (List α):=if 0≤i∧i≤j∧j≤(l.length:Int) then some ((l.drop i.toNat).take (j.toNat - i.toNat)) else none
theorem B3 {α:Type} {l m:List α} {i j:Int} (h:sub l i j=some m):0≤i∧i≤j∧j≤(l.length:Int)∧m=(l.drop i.toNat).take (j.toNat - i.toNat)∧m.length=j.toNat - i.toNat:=by
  unfold sub at h;split at h
  · rename_i hc;cases h;obtain ⟨h1,h2,h3⟩:=hc;exact ⟨h1,h2,h3,rfl,by rw [List.length_take,List.length_drop];omega⟩
  · cases h
def MS (ρ:Operand→Value) (x:Option Operand) (d i:Int):Prop :=
  match x with
  | none=>i=d
  | some x=>∃ k,ρ x=.int k i
theorem xA {ρ:Operand→Value} {d:Int}:MS ρ none d d:=rfl
theorem xy {ρ:Operand→Value} {x:Operand} {k:IntKind} {d i:Int} (h:ρ x=.int k i):MS ρ (some x) d i:=⟨k,h⟩
def wE (a:Option Addr) (c i m:Nat):Option Addr:=if c=i then a else a.map fun b=>b.add (i * m)
theorem iM.sub {ρ:Operand→Value} {t:TypeId} {x:Operand} {lo hi:Option Operand} {a:Option Addr} {c:Nat} {l m:List α} {i j:Int} (hT:P.underlying t=some (.slice (ia.ty α))) (hz:sR P (ia.ty α)=some (ia.sz α)) (hx:ρ x=.slice a l.length c)
    (hlo:MS ρ lo 0 i) (hhi:MS ρ hi (l.length:Int) j) (hs:Kx.sub l i j=some m) (hlc:l.length≤c) {a':Option Addr} {c':Nat} (e1:a'=wE a c i.toNat (ia.sz α)) (e2:c'=c - i.toNat):iM P ρ (.slice t x lo hi none) (.slice a' m.length c'):=by
  subst e1;subst e2;obtain ⟨h1,h2,h3,rfl,hm⟩:=B3 hs;intro d ty pos aft gd w;rw [hm]
  cases hi':P.info? (ia.ty α) with
  | none=>simp [sR,hi'] at hz
  | some inf =>
    have hz':inf.size=ia.sz α:=by simpa [sR,hi'] using hz
    have h4:0≤j:=by omega
    have h5:j≤(c:Int):=by omega
    have h6:i≤(j.toNat:Int):=by omega
    have hb:(Instr.sliceBounds true l.length c (lo.map ρ) (hi.map ρ) none).run P w=.ok (i.toNat,j.toNat,c) w:=by
      cases lo with
      | none =>
        cases (show i=0 from hlo)
        cases hi with
        | none =>
          cases (show j=_ from hhi);simp [Instr.sliceBounds]
        | some y =>
          obtain ⟨k,hy⟩:=hhi;simp [Instr.sliceBounds,Instr.sliceBound,hy,asIntOf,h4,h5]
      | some x' =>
        obtain ⟨k',hx'⟩:=hlo
        cases hi with
        | none =>
          cases (show j=_ from hhi);simp [Instr.sliceBounds,Instr.sliceBound,hx',asIntOf,h1,h3];omega
        | some y =>
          obtain ⟨k,hy⟩:=hhi;simp [Instr.sliceBounds,Instr.sliceBound,hx',hy,asIntOf,h1,h4,h5];omega
    have hcu:(if c=i.toNat then a else a.map fun b=>b.add (i.toNat * inf.size))=wE a c i.toNat (ia.sz α):=by unfold wE;rw [hz']
    simp [execOp,Instr.sliceAt,Instr.slice,run_underlying hT,hx,hb,sizeOf,typeInfo,hi', ← hcu]
theorem iV.sub {S:Nat→Prop} {a:Option Addr} {c:Nat} {l m:List α} {i j:Int} (h:iV S w a c l) (hs:Kx.sub l i j=some m):iV S w (wE a c i.toNat (ia.sz α)) (c - i.toNat) m:=by
  obtain ⟨h1,h2,h3,rfl,hm⟩:=B3 hs;have hle:=h.le;refine ⟨by rw [hm];omega,Nat.le_trans (Nat.sub_le _ _) h.cap,fun hne=>?_⟩;have hlen:0<((l.drop i.toNat).take (j.toNat - i.toNat)).length:=List.length_pos_iff.2 hne;obtain ⟨b,o,rfl,hb,hc⟩:=h.cells (by rintro rfl;simp at hlen)
  have hci:¬ c=i.toNat:=by omega
  refine ⟨b,o+i.toNat * ia.sz α,by unfold wE;rw [if_neg hci];simp [add_lit],hb,fun k x hx=>?_⟩;rw [List.getElem?_take] at hx;split at hx
  · rw [List.getElem?_drop] at hx;obtain ⟨cs,q1,q2⟩:=hc _ x hx;refine ⟨cs,q1,fun p u hu=>?_⟩;have:=q2 p u hu;rw [Nat.add_mul, ← Nat.add_assoc] at this;exact this
  · cases hx
theorem iV.wy {S:Nat→Prop} {a:Option Addr} {c:Nat} {l m:List α} {i j:Int} (h:iV S w a c l) (hs:Kx.sub l i j=some m):∃ (a':Option Addr) (c':Nat),a'=wE a c i.toNat (ia.sz α)∧c'=c - i.toNat∧iV S w a' c' m :=
  ⟨_,_,rfl,rfl,h.sub hs⟩
theorem kt.drop:∀ (k:Nat) {l:List α} {cs:List Value} {F:List Nat},kt w cs F l→∃ F1 F2,F=F1++F2∧kt w (cs.drop (k * ia.sz α)) F2 (l.drop k)
  | 0,_,_,F,h=>⟨[],F,rfl,by simpa using h⟩
  | k+1,[],cs,F,h=>⟨[],F,rfl,h⟩
  | k+1,x::l,cs,F,⟨c1,c2,F1,F2,hc,hF,h1,h2⟩=>by
    obtain ⟨G1,G2,rfl,q⟩:=kt.drop k h2;refine ⟨F1++G1,G2,by simp [hF],?_⟩
    have e:cs.drop ((k+1) * ia.sz α)=c2.drop (k * ia.sz α):=by
      rw [hc,Nat.succ_mul,Nat.add_comm, ← ia.jc h1,List.drop_length_add_append]
    rw [e];exact q
theorem kt.Mw:∀ (k:Nat) {l:List α} {cs:List Value} {F:List Nat},kt w cs F l→∃ F1 F2,F=F1++F2∧kt w cs F1 (l.take k)
  | 0,l,_,F,h=>⟨[],F,rfl,by simp [kt]⟩
  | k+1,[],cs,F,h=>⟨F,[],by simp,by simpa using h⟩
  | k+1,x::l,cs,F,⟨c1,c2,F1,F2,hc,hF,h1,h2⟩=>by
    obtain ⟨G1,G2,rfl,q⟩:=kt.Mw k h2;exact ⟨F1++G1,G2,by simp [hF],by rw [List.take_succ_cons];exact ⟨c1,c2,F1,G1,hc,rfl,h1,q⟩⟩
theorem St.sub {a:Option Addr} {c:Nat} {l m:List α} {i j:Int} (h:St w0 F0 w L) (k:Nat) (hi:L[k]?=some (sl a c l)) (hs:Kx.sub l i j=some m):l.length≤c∧St w0 F0 w (L.set k (sl (wE a c i.toNat (ia.sz α)) (c - i.toNat) m)):=by
  refine ⟨?_,h.setAt hi fun F hF hn hlt=>?_⟩
  · obtain ⟨F,hF,_,_⟩:=h.own;obtain ⟨Fi,q,_⟩:=hF.at_ k hi
    rcases q with ⟨_,_,rfl,_⟩ | ⟨_,_,_,_,_,_,_,h1,_⟩
    · simp
    · exact h1
  · obtain ⟨h1,h2,h3,rfl,hm⟩:=B3 hs
    rcases hF with ⟨rfl,rfl,rfl,rfl⟩ | ⟨g,o,cur,F',rfl,hg,hz,q1,q2,rfl,he⟩
    · refine St.init (F:=[]) ⟨[],[],rfl,.inl ⟨by simp [wE],by simp,by simp,rfl⟩,rfl⟩ List.nodup_nil (by simp)
    · obtain ⟨G1,G2,hG,e1⟩:=kt.drop i.toNat he;obtain ⟨G3,G4,hG',e2⟩:=kt.Mw (j.toNat - i.toNat) e1;subst hG;subst hG'
      have hnn:(g::G3).Nodup:=by
        refine hn.sublist ?_;simp only [List.cons_sublist_cons];exact (List.sublist_append_left G3 G4).trans (List.sublist_append_right _ _)
      refine ⟨rfl,rfl,rfl,Nat.le_refl _,fun _ _ _=>rfl,g::G3,⟨g::G3,[],(List.append_nil _).symm,.inr ?_,rfl⟩,hnn,fun b hb=>?_⟩
      · by_cases hc:c=i.toNat
        · have hl0:(l.drop i.toNat).take (j.toNat - i.toNat)=[]:=by rw [List.drop_eq_nil_of_le (by omega)];simp
          rw [hl0] at e2 ⊢;refine ⟨g,o,cur,G3,by simp [wE,hc],hg,?_,by simp,by omega,rfl,e2⟩;rw [hc];simp;omega
        · refine ⟨g,o+i.toNat * ia.sz α,cur,G3,by simp [wE,hc,add_lit],hg,?_,by rw [hm];omega,by omega,rfl,?_⟩
          · have:i.toNat+(c - i.toNat)=c:=by omega
            rw [Nat.add_assoc, ← Nat.add_mul,this];exact hz
          · rw [← List.drop_drop];exact e2
      · have:b ∈ g::(G1++(G3++G4)):=by
          rcases List.mem_cons.1 hb with rfl | hb
          · simp
          · simp [hb]
        exact ⟨.inl this,hlt b this⟩
theorem St.wy {a:Option Addr} {c:Nat} {l m:List α} {i j:Int} (h:St w0 F0 w L) (k:Nat) (hi:L[k]?=some (sl a c l)) (hs:Kx.sub l i j=some m) :
    l.length≤c∧∃ (a':Option Addr) (c':Nat),a'=wE a c i.toNat (ia.sz α)∧c'=c - i.toNat∧St w0 F0 w (L.set k (sl a' c' m)):=by
  obtain ⟨h1,h2⟩:=St.sub h k hi hs;exact ⟨h1,_,_,rfl,rfl,h2⟩
end
def np {α β:Type} (l m:List α) (k:Option β):Option β:=if l.length=m.length then k else none
theorem jb {α β:Type} {l m:List α} {k:Option β} {y:β} (h:np l m k=some y):l.length=m.length∧k=some y:=by
  unfold np at h;split at h
  · rename_i hc;exact ⟨hc,h⟩
  · cases h
theorem iq.b1 {P:Program} {e:Env} {w w0:World} {F0:List Nat} {L:List Item} {a T:Nat} {g:Nat} {bt:TypeId} {cs:List Value} {v:Value} (hS:St w0 F0 w L) (i:Nat) (hi:L[i]?=some (bx g bt cs)) (ht:jH P T=some none) (ha:e a=.pointer (some ⟨g,0,none⟩)) (hv:xf cs 0=some v):iq P e w (.cell a T) v:=by
  have hl:=jV.box (P:=P) (ρ:=ev e) (x:=.tmp a) (o:=0) (cs:=cs) (bt:=bt) (fr:=(0,0)) ht ha hv;refine ⟨_,ha,?_⟩;have h1:=hl none 0 "" #[] none w (St.cell (h:=hS) hi);have ha':ev e (.tmp a)=.pointer (some ⟨g,0,none⟩):=ha;simp only [execOp,Instr.loadAt,ha',Instr.sureAddr] at h1
  cases hr:(loadVar T ⟨g,0,none⟩).run P w with
  | ok v w'=>simp [hr] at h1;obtain ⟨h2,h3⟩:=h1;subst h2;subst h3;rfl
  | halt x w'=>simp [hr] at h1
end Go.Kx
namespace Go.Kx
open Go Go.RowKit
set_option linter.unusedVariables false
set_option linter.unusedSimpArgs false
section
variable {P:Program} {w0 w w1:World} {F0 F:List Nat} {L:List Item} {α β γ:Type} [ia α] [ia β] [ia γ]
def al (x:Item) (b:Option Addr) (k:Nat) (m:List β):Item :=
  ⟨fun w F=>∃ F1 F2,F=F1++F2∧x.p w F1∧iV (fun q=>q ∈ F) w b k m,fun w w' F h hb=>by
    obtain ⟨F1,F2,rfl,h1,h2⟩:=h
    exact ⟨F1,F2,rfl,x.frame w w' F1 h1 fun q hq=>hb q (List.mem_append_left _ hq),h2.lE hb⟩⟩
theorem St.OC {a:Option Addr} {c:Nat} {l:List α} (h:St w0 F0 w L) (i:Nat) (hi:L[i]?=some (sl a c l)):St w0 F0 w (L.set i (al (sl a c l) a c l)) :=
  h.setAt hi fun G hG hn hlt=>St.init ⟨G,[],by simp,⟨G,[],by simp,hG,nB.rd hG fun q hq=>hq⟩,rfl⟩ hn hlt
theorem St.MQ {x:Item} {b:Option Addr} {k:Nat} {m:List β} (h:St w0 F0 w (x::sl b k m::L)):St w0 F0 w (al x b k m::L):=by
  have h':St w0 F0 w ([x,sl b k m]++L):=h;obtain ⟨F,hF,hn,hlt,_,_,hm⟩:=h'.share;obtain ⟨F1,F2,rfl,q1,F3,F4,rfl,q2,q3⟩:=hF;cases q3;exact hm w [al x b k m] (St.init ⟨F1++F3,[],by simp,⟨F1,F3,rfl,q1,nB.rd q2 fun q hq=>List.mem_append_right _ hq⟩,rfl⟩ (by simpa using hn) (by simpa using hlt))
theorem St.E9 {x:Item} {b:Option Addr} {k:Nat} {m:List β} (h:St w0 F0 w L) (i:Nat) (hi:L[i]?=some (al x b k m)):St w0 F0 w (L.set i x) :=
  h.setAt hi fun G hG hn hlt=>by
    obtain ⟨F1,F2,rfl,q,_⟩:=hG;refine ⟨rfl,rfl,rfl,Nat.le_refl _,fun _ _ _=>rfl,F1,⟨F1,[],by simp,q,rfl⟩,(List.nodup_append.1 hn).1,fun b hb=>⟨.inl (List.mem_append_left _ hb),hlt b (List.mem_append_left _ hb)⟩⟩
theorem St.Ni {x:Item} {b:Option Addr} {k:Nat} {m:List β} (h:St w0 F0 w L) (i:Nat) (hi:L[i]?=some (al x b k m)) :
    ∃ F,(al x b k m).p w F∧iV (fun q=>q ∈ F) w b k m∧St w0 F0 w (L.set i (fz w F)):=by
  have h':St w0 F0 w ([al x b k m]++L.eraseIdx i):=h.front i hi;obtain ⟨F,hF,hn,hlt,_,_,hm⟩:=h'.share;obtain ⟨F1,F2,rfl,q1,q2⟩:=hF;cases (show F2=[] from q2);rw [List.append_nil] at hn hlt hm
  have hr:iV (fun q=>q ∈ F1) w b k m:=by
    obtain ⟨G1,G2,_,_,q⟩:=q1;exact q
  exact ⟨F1,q1,hr,(hm w [fz w F1] (St.init ⟨F1,[],by simp,⟨rfl,fun _ _=>rfl⟩,rfl⟩ hn hlt)).perm (eraseIdx_set L i _ (iU hi))⟩
theorem St.Pt {x:Item} (h:St w0 F0 w L) (i:Nat) (hi:L[i]?=some (fz w1 F)) (hx:x.p w1 F):St w0 F0 w (L.set i x) :=
  h.setAt hi fun G hG hn hlt=>by
    obtain ⟨rfl,hb⟩:=hG;exact St.init ⟨G,[],by simp,x.frame w1 w G hx hb,rfl⟩ hn hlt
theorem NL {w':World} {F:List Nat} {x:Item} {b:Option Addr} {k:Nat} {m:List β} {FA:List Nat} (hs:St w F w' [x]) (hA:iV (fun q=>q ∈ FA) w b k m) (hsub:∀ q,q ∈ FA→q ∈ F∧q<w.heap.size∧w'.heap[q]?=w.heap[q]?) (hn:FA.Nodup):St w F w' [al x b k m]:=by
  obtain ⟨F',hF',hn',hb'⟩:=hs.own;obtain ⟨F1,F2,rfl,q1,q2⟩:=hF';cases (show F2=[] from q2);rw [List.append_nil] at hn' hb';refine ⟨hs.os,hs.tape,hs.output,hs.size,hs.same,F1++FA.filter (fun q=>!F1.contains q),⟨F1++FA.filter (fun q=>!F1.contains q),[],by simp,⟨F1,_,rfl,q1,?_⟩,rfl⟩,?_,?_⟩
  · refine (hA.lE fun q hq=>(hsub q hq).2.2).mono fun q hq=>?_
    by_cases hm:q ∈ F1
    · exact List.mem_append_left _ hm
    · exact List.mem_append_right _ (List.mem_filter.2 ⟨hq,by simpa using hm⟩)
  · refine List.nodup_append.2 ⟨hn',hn.filter _,fun p hp q hq e=>?_⟩;subst e;have:=(List.mem_filter.1 hq).2;simp [hp] at this
  · intro q hq
    rcases List.mem_append.1 hq with hq | hq
    · exact hb' q hq
    · have:=hsub q (List.mem_filter.1 hq).1;exact ⟨.inl this.1,Nat.lt_of_lt_of_le this.2.1 hs.size⟩
end
theorem jV.cells {P:Program} {ρ:Operand→Value} {t:TypeId} {x:Operand} {b o m:Nat} {cs:List Value} (ht:jH P t=some (some m)) (hx:ρ x=.pointer (some ⟨b,o,none⟩)) (hl:cs.length=m) :
    jV P ρ (.load t x) (fun w=>∀ (j:Nat) (u:Value),cs[j]?=some u→w.cell? ⟨b,o+j,none⟩=some u) (.agg cs.toArray) :=
  fun d ty pos aft gd w hc=>jV.agg ht hx hl d ty pos aft gd w hc
section
variable {P:Program} {n:Nat} {ops:Array Oper} {Q:lT} {rest:List Oper} {e:Env} {w w0:World} {F0:List Nat} {L M:List Item} {d:Nat} {ty:TypeId} {pos:String} {aft:Array Edge} {α β γ:Type} [ia α] [ia β] [ia γ]
theorem LW.PL {t:TypeId} {ty2:TypeId} {pos2:String} {aft2:Array Edge} {x s:Operand} {d1:Nat} {vs:Array Value} {i:Nat} {a aX b:Option Addr} {c cX k:Nat} {lX:List γ} {m:List β} {l l':List α} {y:α} (hT:nC P t α)
    (hp:(ev e x).cells=vs) (hb:y5 P t 1 [(0,ev e x)]=some (ia.ty α,vs)) (hs:ev e s=.slice a l.length c) (hs1:ev (lJ e d1 undef) s=ev e s) (hl:app l [y]=some l')
    (hS:St w0 F0 w (al (sl aX cX lX) b k m::(M++L))) (hi:L[i]?=some (sl a c l)) (hM:∀ (w:World) (G:List Nat),iP (sl aX cX lX::M) w G→ia.own w vs.toList G y) (hd1:Nat.ble (d1+1) n=true) (hd:Nat.ble (d+1) n=true)
    (h:∀ (v1:Value) (a':Option Addr) (c':Nat) (w':World),St w0 F0 w' (L.set i (al (sl a' c' l') b k m))→Fr w w' ((a.map (·.block)).toList)→LW P n ops Q rest (lJ (lJ e d1 v1) d (.slice a' l'.length c')) w') :
    LW P n ops Q (⟨some d1,.buildSlice t 1 #[(0,x)],ty2,pos2,aft2,none⟩::⟨some d,.call { callee:=.builtin .append,args:=#[s,.tmp d1],argTypes:=#[t,t] },ty,pos,aft,none⟩::rest) e w:=by
  have h':St w0 F0 w ((al (sl aX cX lX) b k m::(M++[sl a c l]))++L.eraseIdx i):=by
    refine hS.perm ?_;have:=v8 L i (sl a c l) hi;simp only [List.cons_append,List.append_assoc,List.nil_append];exact (this.append_left M).cons _
  obtain ⟨F,hF,hn,hlt,_,_,hm⟩:=h'.share;obtain ⟨FA,FR,rfl,hA,hR⟩:=hF;obtain ⟨F1,F2,rfl,hX,hr⟩:=hA;obtain ⟨FM,FL,rfl,hMh,hL⟩:=iP.append.1 hR;obtain ⟨Fl,Fe,rfl,hl1,hl2⟩:=hL;cases (show Fe=[] from hl2);obtain ⟨n1,n2,nd⟩:=List.nodup_append.1 hn
  have hT0:St w ((F1++F2)++(FM++(Fl++[]))) w ((sl aX cX lX::M)++[sl a c l]):=by
    refine ⟨rfl,rfl,rfl,Nat.le_refl _,fun _ _ _=>rfl,F1++(FM++(Fl++[])),?_,?_,?_⟩
    · exact ⟨F1,_,rfl,hX,hR⟩
    · refine List.nodup_append.2 ⟨(List.nodup_append.1 n1).1,n2,fun p hp q hq=>nd p (List.mem_append_left _ hp) q hq⟩
    · intro q hq
      have:q ∈ (F1++F2)++(FM++(Fl++[])):=by
        rcases List.mem_append.1 hq with hq | hq
        · exact List.mem_append_left _ (List.mem_append_left _ hq)
        · exact List.mem_append_right _ hq
      exact ⟨.inl this,hlt q this⟩
  refine LW.kX (M:=sl aX cX lX::M) (L:=[sl a c l]) (i:=0) hT hp hb hs hs1 hl hT0 rfl hM hd1 hd fun v1 a' c' w' hS' hf=>h v1 a' c' w' ?_ hf;have hS':St w ((F1++F2)++(FM++(Fl++[]))) w' [sl a' c' l']:=hS'
  have hblk:∀ q,q ∈ ((a.map (·.block)).toList)→q ∈ Fl:=by
    intro q hq
    rcases hl1 with ⟨rfl,_⟩ | ⟨g,o,cur,F',rfl,_,_,_,_,rfl,_⟩
    · simp at hq
    · simp at hq;subst hq;simp
  have hover:=NL hS' hr (fun q hq=>⟨List.mem_append_left _ hq,hlt q (List.mem_append_left _ hq),hf.same q (hlt q (List.mem_append_left _ hq)) fun hb=>nd q hq q (List.mem_append_right _ (List.mem_append_left _ (hblk q hb))) rfl⟩) n1;exact (hm w' _ hover).perm (eraseIdx_set L i _ (iU hi))
end
end Go.Kx
